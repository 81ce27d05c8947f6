import PyProof.Rows.All
import PyProof.FactsAll.str_4
import PyProof.Methods
import PyProof.FactsAll.list_0
import PyProof.FactsAll.list_3
import PyProof.AutoIntOps
import PyProof.OldK
import PyProof.SliceSyntax
import PyProof.SliceList
import PyProof.CallRoads
import PyProof.Cells
import PyProof.ConsumeS
import PyProof.StrWalks
import PyProof.CompFree
import PyProof.Dict
import PyProof.ListOps
import PyProof.DelItemList
import PyProof.EqAt
import PyProof.P3Statements
import PyProof.NeData
import PyProof.StrOps
import PyProof.StrBlock
import PyProof.WalksMore
import PyProof.RangeFor
import PyProof.GenQ
import PyProof.ListIndexNeg
import PyProof.P3In
import PyProof.Rows.TupAssign
import PyProof.Rows.TupSub
import PyProof.Rows.Lst
import PyProof.Rows.GenFrame
import PyProof.Rows.IntRules
import PyProof.RulesDel
import PyProof.Rows.Top
import PyProof.Rows.Nodes
import PyProof.Rows.RuleU_int
import PyProof.Rows.RuleB_mul
import PyProof.Rows.RuleB_floordiv
import PyProof.Rows.RuleB_mod
import PyProof.Rows.RuleB_rshift
import PyProof.Rows.SeqIn
import PyProof.Rows.StrTemp
import PyProof.Rows.RuleB_and
import PyProof.Rows.RuleC_int
import PyProof.Rows.RuleIs
import PyProof.TupleOps
import PyProof.Rows.StrRules
import PyProof.Rows.SortShell
import PyProof.Rows.SortWalk
import OpenK.KLine
import KE.KRegrown
import KE.KRevSl
import Wide.All
import OpenK.AllK
import Wide.FinOn
import PySem.Challenge.RW_pd_quartet_3_02
set_option Elab.async false
set_option linter.unusedVariables false
open PySem
namespace Mine

/-! the data that a value shows, its lists outside O -/
mutual
inductive Rep (O : List Addr) (h : Heap) : Value → PyData → Prop
  | none : Rep O h .none .none
  | bool (b) : Rep O h (.bool b) (.bool b)
  | int (i t) : Rep O h (.int i t) (.int i)
  | str (x t) : PyData.strOk x = true → Rep O h (.str x t) (.str x)
  | list {a vs n xs} : h.get? a = some { cls := .type "list", data := .seq vs n } → a ∉ O → vs.size ≤ sizeLine → RepAll O h vs.toList xs → Rep O h (.ref a) (.list xs)
  | tuple {a vs n xs} : h.get? a = some { cls := .type "tuple", data := .seq vs n } → a ∉ O → vs.size ≤ sizeLine → RepAll O h vs.toList xs → Rep O h (.ref a) (.tuple xs)
inductive RepAll (O : List Addr) (h : Heap) : List Value → List PyData → Prop
  | nil : RepAll O h [] []
  | cons {v vs d ds} : Rep O h v d → RepAll O h vs ds → RepAll O h (v :: vs) (d :: ds)
end

abbrev IsSeq (o : Obj) : Prop := ∃ vs n, o.data = .seq vs n
mutual
theorem Rep.moveS {O O' : List Addr} {h h' : Heap} (hk : ∀ b o, b ∉ O → h.get? b = some o → IsSeq o → h'.get? b = some o ∧ b ∉ O') : ∀ {v : Value} {d : PyData}, Rep O h v d → Rep O' h' v d
  | _, _, .none => .none
  | _, _, .bool b => .bool b
  | _, _, .int i t => .int i t
  | _, _, .str x t ok => .str x t ok
  | _, _, .list g n z r => .list (hk _ _ n g ⟨_, _, rfl⟩).1 (hk _ _ n g ⟨_, _, rfl⟩).2 z (RepAll.moveS hk r)
  | _, _, .tuple g n z r => .tuple (hk _ _ n g ⟨_, _, rfl⟩).1 (hk _ _ n g ⟨_, _, rfl⟩).2 z (RepAll.moveS hk r)
theorem RepAll.moveS {O O' : List Addr} {h h' : Heap} (hk : ∀ b o, b ∉ O → h.get? b = some o → IsSeq o → h'.get? b = some o ∧ b ∉ O') : ∀ {vs : List Value} {ds : List PyData}, RepAll O h vs ds → RepAll O' h' vs ds
  | _, _, .nil => .nil
  | _, _, .cons r rs => .cons (Rep.moveS hk r) (RepAll.moveS hk rs)
end
theorem Rep.move {O O' : List Addr} {h h' : Heap} (hk : ∀ b o, b ∉ O → h.get? b = some o → h'.get? b = some o ∧ b ∉ O') {v : Value} {d : PyData} (r : Rep O h v d) : Rep O' h' v d := r.moveS fun b o n e _ => hk b o n e
theorem RepAll.move {O O' : List Addr} {h h' : Heap} (hk : ∀ b o, b ∉ O → h.get? b = some o → h'.get? b = some o ∧ b ∉ O') {vs : List Value} {ds : List PyData} (r : RepAll O h vs ds) : RepAll O' h' vs ds := r.moveS fun b o n e _ => hk b o n e

abbrev Kp (h h' : Heap) : Prop := ∀ b o, h.get? b = some o → h'.get? b = some o

theorem Rep.keeps {O : List Addr} {h h' : Heap} {v : Value} {d : PyData} (r : Rep O h v d) (k : Kp h h') : Rep O h' v d := r.move fun b o n e => ⟨k b o e, n⟩
theorem RepAll.keeps {O : List Addr} {h h' : Heap} {v : List Value} {d : List PyData} (r : RepAll O h v d) (k : Kp h h') : RepAll O h' v d := r.move fun b o n e => ⟨k b o e, n⟩
theorem Rep.less {O O' : List Addr} {h : Heap} {v : Value} {d : PyData} (r : Rep O h v d) (k : ∀ a ∈ O', a ∈ O) : Rep O' h v d := r.move fun b _ n e => ⟨e, fun hb => n (k b hb)⟩
theorem RepAll.less {O O' : List Addr} {h : Heap} {v : List Value} {d : List PyData} (r : RepAll O h v d) (k : ∀ a ∈ O', a ∈ O) : RepAll O' h v d := r.move fun b _ n e => ⟨e, fun hb => n (k b hb)⟩
theorem Rep.more {O O' : List Addr} {h : Heap} {v : Value} {d : PyData} (r : Rep O h v d) (k : ∀ a ∈ O', a ∈ O ∨ h.get? a = Option.none) : Rep O' h v d :=
  r.move fun b o n e => ⟨e, fun hb => (k b hb).elim n fun q => by rw [q] at e; cases e⟩
theorem RepAll.more {O O' : List Addr} {h : Heap} {v : List Value} {d : List PyData} (r : RepAll O h v d) (k : ∀ a ∈ O', a ∈ O ∨ h.get? a = Option.none) : RepAll O' h v d :=
  r.move fun b o n e => ⟨e, fun hb => (k b hb).elim n fun q => by rw [q] at e; cases e⟩

theorem RepAll.length {O : List Addr} {h : Heap} : ∀ {vs : List Value} {ds : List PyData}, RepAll O h vs ds → vs.length = ds.length
  | _, _, .nil => rfl
  | _, _, .cons _ rs => congrArg (· + 1) rs.length
theorem RepAll.get {O : List Addr} {h : Heap} : ∀ {vs : List Value} {ds : List PyData}, RepAll O h vs ds → ∀ {i : Nat} {d : PyData}, ds[i]? = some d → ∃ v, vs[i]? = some v ∧ Rep O h v d
  | _, _, .nil, i, d, e => by simp at e
  | _, _, .cons r rs, 0, d, e => by
    simp only [List.getElem?_cons_zero, Option.some.injEq] at e; subst e; exact ⟨_, rfl, r⟩
  | _, _, .cons r rs, i + 1, d, e => by
    simp only [List.getElem?_cons_succ] at e ⊢; exact rs.get e
theorem RepAll.getv {O : List Addr} {h : Heap} : ∀ {vs : List Value} {ds : List PyData}, RepAll O h vs ds → ∀ {i : Nat} {v : Value}, vs[i]? = some v → ∃ d, ds[i]? = some d ∧ Rep O h v d
  | _, _, .nil, i, d, e => by simp at e
  | _, _, .cons r rs, 0, d, e => by
    simp only [List.getElem?_cons_zero, Option.some.injEq] at e; subst e; exact ⟨_, rfl, r⟩
  | _, _, .cons r rs, i + 1, d, e => by
    simp only [List.getElem?_cons_succ] at e ⊢; exact rs.getv e
theorem RepAll.append {O : List Addr} {h : Heap} : ∀ {vs : List Value} {ds : List PyData} {ws : List Value} {es : List PyData}, RepAll O h vs ds → RepAll O h ws es → RepAll O h (vs ++ ws) (ds ++ es)
  | _, _, _, _, .nil, r => r
  | _, _, _, _, .cons r rs, q => .cons r (rs.append q)
theorem RepAll.set {O : List Addr} {h : Heap} : ∀ {vs : List Value} {ds : List PyData} (i : Nat) {v : Value} {d : PyData}, RepAll O h vs ds → Rep O h v d → RepAll O h (vs.set i v) (ds.set i d)
  | _, _, _, _, _, .nil, _ => .nil
  | _, _, 0, _, _, .cons _ rs, q => .cons q rs
  | _, _, i + 1, _, _, .cons r rs, q => .cons r (rs.set i q)
theorem RepAll.erase {O : List Addr} {h : Heap} : ∀ {vs : List Value} {ds : List PyData} (i : Nat), RepAll O h vs ds → RepAll O h (vs.eraseIdx i) (ds.eraseIdx i)
  | _, _, _, .nil => .nil
  | _, _, 0, .cons _ rs => rs
  | _, _, i + 1, .cons r rs => .cons r (rs.erase i)
theorem RepAll.reverse {O : List Addr} {h : Heap} : ∀ {vs : List Value} {ds : List PyData}, RepAll O h vs ds → RepAll O h vs.reverse ds.reverse
  | _, _, .nil => .nil
  | _, _, .cons r rs => by rw [List.reverse_cons, List.reverse_cons]; exact rs.reverse.append (.cons r .nil)

mutual
theorem Rep.reads {O : List Addr} {h : Heap} : ∀ {v : Value} {d : PyData}, Rep O h v d → ∃ as, Reads h v d as
  | _, _, .none => ⟨_, .none⟩
  | _, _, .bool b => ⟨_, .bool b⟩
  | _, _, .int i t => ⟨_, .int i t⟩
  | _, _, .str x t _ => ⟨_, .str x t⟩
  | _, _, .list g _ _ r => let ⟨as, q⟩ := RepAll.reads r; ⟨_, .list g rfl rfl q⟩
  | _, _, .tuple g _ _ r => let ⟨as, q⟩ := RepAll.reads r; ⟨_, .tuple g rfl rfl q⟩
theorem RepAll.reads {O : List Addr} {h : Heap} : ∀ {vs : List Value} {ds : List PyData}, RepAll O h vs ds → ∃ as, ReadsAll h vs ds as
  | _, _, .nil => ⟨_, .nil⟩
  | _, _, .cons r rs => let ⟨as, q⟩ := Rep.reads r; let ⟨bs, qs⟩ := RepAll.reads rs; ⟨_, .cons q qs⟩
end
mutual
theorem Rep.lay {O : List Addr} {h : Heap} : ∀ {v : Value} {d : PyData}, Rep O h v d → d.canLay0 = true
  | _, _, .none => by simp only [PyData.canLay0]
  | _, _, .bool b => by simp only [PyData.canLay0]
  | _, _, .int i t => by simp only [PyData.canLay0]
  | _, _, .str x t ok => by simp only [PyData.canLay0, ok]
  | _, _, .list _ _ _ r => by simp only [PyData.canLay0, RepAll.lay r]
  | _, _, .tuple _ _ _ r => by simp only [PyData.canLay0, RepAll.lay r]
theorem RepAll.lay {O : List Addr} {h : Heap} : ∀ {vs : List Value} {ds : List PyData}, RepAll O h vs ds → PyData.canLayAll0 ds = true
  | _, _, .nil => by simp only [PyData.canLayAll0]
  | _, _, .cons r rs => by simp only [PyData.canLayAll0, Rep.lay r, RepAll.lay rs, Bool.and_self]
end
theorem Rep.any {O : List Addr} {h : Heap} {v : Value} {d : PyData} (r : Rep O h v d) : Rep [] h v d := r.less fun _ h => nomatch h
theorem RepAll.any {O : List Addr} {h : Heap} {v : List Value} {d : List PyData} (r : RepAll O h v d) : RepAll [] h v d := r.less fun _ h => nomatch h
end Mine

set_option Elab.async false
set_option linter.unusedVariables false
set_option autoImplicit false
open PySem
namespace Mine

abbrev St := List (Option (PyData × Nat))
abbrev XE := St → Option (PyData × Nat)

structure Base where
  prog : Program
  w : World
  top : Heap
  mg : Str → Option Value
  mb : Str → Option Value

structure BaseOk (b : Base) : Prop where
  g : b.top.Ns mainGlobals b.mg
  bi : b.top.Ns builtinsNs b.mb
  nolimit : b.top.NoLimit

structure Cx where
  b : Base
  scope : Scope
  ns : List Str
  lvl : Nat
  gn : Bool

abbrev Cx.M (c : Cx) : Model := model c.b.prog c.b.w

structure AOk (lvl : Nat) (A : Around) : Prop where
  handled : A.handled = none
  depth : A.depth + 4 * lvl < recursionLimit
  units : A.units + 200 + 20 * lvl < cLine

structure EnvOk (c : Cx) (A : Around) (env : Env) : Prop where
  base : BaseOk c.b
  a : AOk c.lvl A
  scope : env.scope = c.scope
  kind : c.scope.kind = .function
  globals : env.globals = mainGlobals
  builtins : env.builtins = builtinsNs
  dbg : ∀ x ∈ c.ns, (x == ("__debug__" : Str)) = false

theorem EnvOk.kind' {c : Cx} {A : Around} {env : Env} (e : EnvOk c A env) : env.scope.kind = .function := by rw [e.scope]; exact e.kind

noncomputable def VarIs (env : Env) (h : Heap) (x : Str) (v : Value) : Prop :=
  (env.kindOf x = some .local ∧ ∃ m, h.Ns env.locals m ∧ m x = some v) ∨
  (env.kindOf x = some .cell ∧ ∃ c, env.cells.lookup x = some c ∧ h.IsCell c (some v))

noncomputable def LstAt (h : Heap) (a : Addr) (vs : Array Value) : Prop := (∃ n, h.get? a = some { cls := .type "list", data := .seq vs n }) ∧ vs.size ≤ sizeLine
noncomputable def TupAt (h : Heap) (a : Addr) (vs : Array Value) : Prop := (∃ n, h.get? a = some { cls := .type "tuple", data := .seq vs n }) ∧ vs.size ≤ sizeLine

theorem LstAt.keeps {h h' : Heap} {a : Addr} {vs : Array Value} (l : LstAt h a vs) (k : Kp h h') : LstAt h' a vs := let ⟨⟨n, e⟩, z⟩ := l; ⟨⟨n, k _ _ e⟩, z⟩
theorem LstAt.isList {h : Heap} {a : Addr} {vs : Array Value} (l : LstAt h a vs) : h.IsList a vs := let ⟨⟨n, e⟩, z⟩ := l; ⟨_, e, rfl, n, rfl⟩
/-- owned list, its items not -/
noncomputable def Own1 (O : List Addr) (h : Heap) (a : Addr) (xs : List PyData) : Prop := a ∈ O ∧ ∃ vs : Array Value, LstAt h a vs ∧ RepAll O h vs.toList xs
theorem Own1.keeps {O : List Addr} {h h' : Heap} {a : Addr} {xs : List PyData} (w : Own1 O h a xs) (k : Kp h h') : Own1 O h' a xs :=
  let ⟨m, vs, l, r⟩ := w; ⟨m, vs, l.keeps k, r.keeps k⟩

inductive Own1s (O : List Addr) (h : Heap) : List Value → List PyData → List Addr → Prop
  | nil : Own1s O h [] [] []
  | cons {a vs xs ds as} : Own1 O h a xs → Own1s O h vs ds as → Own1s O h (.ref a :: vs) (.list xs :: ds) (a :: as)
theorem Own1s.keeps {O : List Addr} {h h' : Heap} (k : Kp h h') : ∀ {vs : List Value} {ds : List PyData} {as : List Addr}, Own1s O h vs ds as → Own1s O h' vs ds as := by
  intro vs ds as w
  induction w with
  | nil => exact .nil
  | cons w _ ih => exact .cons (w.keeps k) ih

/-- a slot's value: 0 free, 1 an owned list of free items, 2 an owned list of owned lists; os: the owned addresses -/
noncomputable def ValOk (O : List Addr) (h : Heap) (v : Value) (d : PyData) : Nat → List Addr → Prop
  | 0, os => os = [] ∧ Rep O h v d
  | 1, os => ∃ a xs, v = .ref a ∧ d = .list xs ∧ os = [a] ∧ Own1 O h a xs
  | 2, os => ∃ a xs vs as, v = .ref a ∧ d = .list xs ∧ os = a :: as ∧ a ∈ O ∧ LstAt h a vs ∧ Own1s O h vs.toList xs as
  | _, _ => False
theorem ValOk.keeps {O : List Addr} {h h' : Heap} {v : Value} {d : PyData} {k : Nat} {os : List Addr} (w : ValOk O h v d k os) (kp : Kp h h') : ValOk O h' v d k os := by
  match k, w with
  | 0, w => exact ⟨w.1, w.2.keeps kp⟩
  | 1, w => obtain ⟨a, xs, e1, e2, e3, w⟩ := w; exact ⟨a, xs, e1, e2, e3, w.keeps kp⟩
  | 2, w => obtain ⟨a, xs, vs, as, e1, e2, e3, m, l, w⟩ := w; exact ⟨a, xs, vs, as, e1, e2, e3, m, l.keeps kp, w.keeps kp⟩

structure Rel (c : Cx) (env : Env) (O : List Addr) (h : Heap) (σ : St) : Prop where
  top : Kp c.b.top h
  low : ∀ a ∈ O, ∃ o, h.get? a = some o
  off : ∀ a ∈ O, c.b.top.get? a = none
  var : ∀ (i : Nat) (x : Str) (d : PyData) (k : Nat), c.ns[i]? = some x → σ[i]? = some (some (d, k)) → ∃ v os, VarIs env h x v ∧ ValOk O h v d k os

theorem VarIs.keeps {env : Env} {h h' : Heap} {x : Str} {v : Value} (w : VarIs env h x v) (k : Kp h h') : VarIs env h' x v :=
  w.imp (fun ⟨e, m, n, q⟩ => ⟨e, m, n.keeps k, q⟩) fun ⟨e, c, l, q⟩ => ⟨e, c, l, q.keeps k⟩
theorem Rel.keeps {c : Cx} {env : Env} {O : List Addr} {h h' : Heap} {σ : St} (r : Rel c env O h σ) (k : Kp h h') : Rel c env O h' σ where
  top := fun b o e => k _ _ (r.top b o e)
  low := fun a ha => let ⟨o, e⟩ := r.low a ha; ⟨o, k _ _ e⟩
  off := r.off
  var := fun i x d j e1 e2 => let ⟨v, os, a, b⟩ := r.var i x d j e1 e2; ⟨v, os, a.keeps k, b.keeps k⟩

/-- what an expression gave: 0 free, 1 a list of free items, 2 anything (to look at only), 3 a new list of free items -/
noncomputable def Res (O : List Addr) (h₀ h : Heap) (v : Value) (d : PyData) : Nat → Prop
  | 0 => Rep O h v d
  | 1 => ∃ a xs vs, v = .ref a ∧ d = .list xs ∧ LstAt h a vs ∧ RepAll O h vs.toList xs
  | 2 => Rep [] h v d
  | _ => ∃ a xs vs, v = .ref a ∧ d = .list xs ∧ h₀.get? a = none ∧ LstAt h a vs ∧ RepAll (a :: O) h vs.toList xs

theorem LstAt.rep {O : List Addr} {h : Heap} {a : Addr} {vs : Array Value} {xs : List PyData} (l : LstAt h a vs) (n : a ∉ O) (r : RepAll O h vs.toList xs) : Rep O h (.ref a) (.list xs) :=
  let ⟨⟨m, e⟩, z⟩ := l; .list e n z r
theorem Rep.lst {O : List Addr} {h : Heap} {v : Value} {xs : List PyData} (r : Rep O h v (.list xs)) : ∃ a vs, v = .ref a ∧ a ∉ O ∧ LstAt h a vs ∧ RepAll O h vs.toList xs := by
  cases r with | list e n z r => exact ⟨_, _, rfl, n, ⟨⟨_, e⟩, z⟩, r⟩
theorem Rep.tup {O : List Addr} {h : Heap} {v : Value} {xs : List PyData} (r : Rep O h v (.tuple xs)) : ∃ a vs, v = .ref a ∧ a ∉ O ∧ TupAt h a vs ∧ RepAll O h vs.toList xs := by
  cases r with | tuple e n z r => exact ⟨_, _, rfl, n, ⟨⟨_, e⟩, z⟩, r⟩

theorem Own1s.repAll {O : List Addr} {h : Heap} : ∀ {vs : List Value} {ds : List PyData} {as : List Addr}, Own1s O h vs ds as → RepAll [] h vs ds := by
  intro vs ds as w
  induction w with
  | nil => exact .nil
  | cons w _ ih => obtain ⟨_, _, l, r⟩ := w; exact .cons (l.rep (fun h => nomatch h) r.any) ih

theorem Res.any {O : List Addr} {h₀ h : Heap} {v : Value} {d : PyData} : ∀ {k : Nat}, Res O h₀ h v d k → Rep [] h v d
  | 0, r => Rep.any r
  | 1, w => by obtain ⟨a, xs, vs, e1, e2, l, r⟩ := w; subst e1 e2; exact l.rep (fun h => nomatch h) r.any
  | 2, r => r
  | _ + 3, w => by obtain ⟨a, xs, vs, e1, e2, _, l, r⟩ := w; subst e1 e2; exact l.rep (fun h => nomatch h) r.any
theorem Res.keeps {O : List Addr} {h₀ h h' : Heap} {v : Value} {d : PyData} (kp : Kp h h') : ∀ {k : Nat}, Res O h₀ h v d k → Res O h₀ h' v d k
  | 0, r => Rep.keeps r kp
  | 1, w => by obtain ⟨a, xs, vs, e1, e2, l, r⟩ := w; exact ⟨a, xs, vs, e1, e2, l.keeps kp, r.keeps kp⟩
  | 2, r => Rep.keeps r kp
  | _ + 3, w => by obtain ⟨a, xs, vs, e1, e2, f, l, r⟩ := w; exact ⟨a, xs, vs, e1, e2, f, l.keeps kp, r.keeps kp⟩
theorem gone {h₀ h₁ : Heap} {a : Addr} (kp : Kp h₀ h₁) (f : h₁.get? a = none) : h₀.get? a = none := by
  cases q : h₀.get? a with
  | none => rfl
  | some o => rw [kp _ _ q] at f; cases f
theorem Res.from {O : List Addr} {h₀ h₁ h : Heap} {v : Value} {d : PyData} (kp : Kp h₀ h₁) : ∀ {k : Nat}, Res O h₁ h v d k → Res O h₀ h v d k
  | 0, r => r
  | 1, r => r
  | 2, r => r
  | _ + 3, w => by obtain ⟨a, xs, vs, e1, e2, f, l, r⟩ := w; exact ⟨a, xs, vs, e1, e2, gone kp f, l, r⟩
theorem Res.elems {O : List Addr} {h₀ h : Heap} {v : Value} {xs : List PyData} : ∀ {k : Nat}, Res O h₀ h v (.list xs) k → k ≠ 2 → ∃ a vs, v = .ref a ∧ LstAt h a vs ∧ RepAll O h vs.toList xs
  | 0, r, _ => let ⟨a, vs, e, _, l, q⟩ := Rep.lst r; ⟨a, vs, e, l, q⟩
  | 1, w, _ => by obtain ⟨a, _, vs, e1, e2, l, r⟩ := w; cases e2; exact ⟨a, vs, e1, l, r⟩
  | 2, _, n => absurd rfl n
  | _ + 3, w, _ => by obtain ⟨a, _, vs, e1, e2, f, l, r⟩ := w; cases e2; exact ⟨a, vs, e1, l, r.less fun _ h => List.mem_cons_of_mem _ h⟩
theorem Res.tups {O : List Addr} {h₀ h : Heap} {v : Value} {xs : List PyData} : ∀ {k : Nat}, Res O h₀ h v (.tuple xs) k → k ≠ 2 → ∃ a vs, v = .ref a ∧ TupAt h a vs ∧ RepAll O h vs.toList xs
  | 0, r, _ => let ⟨a, vs, e, _, l, q⟩ := Rep.tup r; ⟨a, vs, e, l, q⟩
  | 1, w, _ => by obtain ⟨_, _, _, _, e2, _, _⟩ := w; cases e2
  | 2, _, n => absurd rfl n
  | _ + 3, w, _ => by obtain ⟨_, _, _, _, e2, _, _, _⟩ := w; cases e2
/-- free to be kept -/
theorem Res.free {O : List Addr} {h₀ h : Heap} {v : Value} {d : PyData} (low : ∀ a ∈ O, ∃ o, h₀.get? a = some o) : ∀ {k : Nat}, Res O h₀ h v d k → (k == 0 || k == 3) = true → Rep O h v d
  | 0, r, _ => r
  | 3, w, _ => by
    obtain ⟨a, xs, vs, e1, e2, f, l, r⟩ := w
    subst e1 e2
    exact l.rep (fun m => by obtain ⟨o, q⟩ := low a m; rw [f] at q; cases q) (r.less fun _ h => List.mem_cons_of_mem _ h)
  | 1, _, h => by simp at h
  | 2, _, h => by simp at h
  | _ + 4, _, h => by simp at h

noncomputable def Kps (gn : Bool) (s s' : Shared) : Prop :=
  ∃ h' tk gs, s' = { s with heap := h', toks := tk, gens := gs } ∧ Kp s.heap h' ∧ (gn = false → gs = s.gens) ∧ ∀ (i : Nat) (x : GenState), s.gens[i]? = some x → gs[i]? = some x
theorem Kps.refl (gn : Bool) (s : Shared) : Kps gn s s := ⟨s.heap, s.toks, s.gens, rfl, fun _ _ e => e, fun _ => rfl, fun _ _ e => e⟩
theorem Kps.trans {gn : Bool} {s s' s'' : Shared} (x : Kps gn s s') (y : Kps gn s' s'') : Kps gn s s'' := by
  obtain ⟨h1, t1, g1, rfl, k1, e1, f1⟩ := x
  obtain ⟨h2, t2, g2, rfl, k2, e2, f2⟩ := y
  exact ⟨h2, t2, g2, rfl, fun b o e => k2 _ _ (k1 _ _ e), fun e => (e2 e).trans (e1 e), fun i x e => f2 _ _ (f1 _ _ e)⟩
theorem Kps.kp {gn : Bool} {s s' : Shared} (x : Kps gn s s') : Kp s.heap s'.heap := by obtain ⟨h1, t1, g1, rfl, k1, e1, f1⟩ := x; exact k1
theorem Kps.heap {gn : Bool} {s s' : Shared} (x : Kps gn s s') {h : Heap} {t : Nat} (k : Kp s'.heap h) : Kps gn s { s' with heap := h, toks := t } :=
  x.trans ⟨h, t, s'.gens, rfl, k, fun _ => rfl, fun _ _ e => e⟩
theorem Kps.tok {gn : Bool} {s s' : Shared} (x : Kps gn s s') (t : Nat) : Kps gn s { s' with toks := t } := x.heap fun _ _ e => e
theorem Kps.push {gn : Bool} {s s' : Shared} (x : Kps gn s s') (o : Obj) : Kps gn s { s' with heap := s'.heap.push o } := x.heap fun _ _ e => Heap.get?_push_of_some _ e
theorem Kps.strict {s s' : Shared} (x : Kps false s s') : Keeps s s' := by obtain ⟨h1, t1, g1, rfl, k1, e1, f1⟩ := x; cases e1 rfl; exact ⟨h1, t1, rfl, k1⟩
theorem Kps.of {gn : Bool} {s s' : Shared} (x : Keeps s s') : Kps gn s s' := by obtain ⟨h1, t1, rfl, k1⟩ := x; exact ⟨h1, t1, s.gens, rfl, k1, fun _ => rfl, fun _ _ e => e⟩
theorem Kps.weak {gn : Bool} {s s' : Shared} (x : Kps false s s') : Kps gn s s' := .of x.strict

abbrev NoE : Value → Shared → Prop := fun _ _ => False

structure EvS (c : Cx) (e : Expr) (f : XE) : Prop where
  run : ∀ {A : Around} {env : Env}, EnvOk c A env → ∀ {O : List Addr} {s : Shared} {σ : St}, Rel c env O s.heap σ → ∀ {d : PyData} {k : Nat}, f σ = some (d, k) →
    wpAny c.M A (eval e env) (fun v s' => Kps c.gn s s' ∧ Res O s.heap s'.heap v d k) NoE s

structure TrS (c : Cx) (e : Expr) (f : St → Option Bool) : Prop where
  run : ∀ {A : Around} {env : Env}, EnvOk c A env → ∀ {O : List Addr} {s : Shared} {σ : St}, Rel c env O s.heap σ → ∀ {b : Bool}, f σ = some b →
    wpAny c.M A (isTrue e env (eval e env)) (fun r s' => Kps c.gn s s' ∧ r = b) NoE s

section
variable {c : Cx}

/-! constants and names -/
noncomputable def kX (d : PyData) : XE := fun _ => some (d, 0)
theorem ev_int {i : Int} {k : Nat} {pos : Pos} : EvS c (.Constant (.int i) k pos) (kX (.int i)) := .mk fun _ _ _ _ r _ _ h => by
  cases h; exact wpAny_Constant_int ⟨(Kps.refl _ _).tok _, .int _ _⟩
theorem ev_str {x : Str} {k : Nat} {pos : Pos} (ok : PyData.strOk x = true) : EvS c (.Constant (.str x) k pos) (kX (.str x)) := .mk fun _ _ _ _ r _ _ h => by
  cases h; exact Calls.Constant_str ⟨(Kps.refl _ _).tok _, .str _ _ ok⟩
theorem ev_bool {x : Bool} {k : Nat} {pos : Pos} : EvS c (.Constant (.bool x) k pos) (kX (.bool x)) := .mk fun _ _ _ _ r _ _ h => by
  cases h; exact wpAny_pure ⟨Kps.refl _ _, .bool _⟩
inductive HasIdx : List Str → Str → Nat → Prop
  | head {x l} : HasIdx (x :: l) x 0
  | tail {x y l i} : HasIdx l x i → HasIdx (y :: l) x (i + 1)
theorem HasIdx.get : ∀ {l : List Str} {x : Str} {i : Nat}, HasIdx l x i → l[i]? = some x
  | _, _, _, .head => rfl
  | _, _, _, .tail h => h.get

noncomputable def vX (i : Nat) : XE := fun σ => match σ[i]? with
  | some (some p) => some p
  | _ => none
theorem vX_some {i : Nat} {σ : St} {p : PyData × Nat} (h : vX i σ = some p) : σ[i]? = some (some p) := by
  unfold vX at h
  split at h
  · rename_i q e; cases h; exact e
  · cases h

theorem ValOk.res {O : List Addr} {h₀ h : Heap} {v : Value} {d : PyData} : ∀ {k : Nat} {os : List Addr}, ValOk O h v d k os → Res O h₀ h v d k
  | 0, _, w => w.2
  | 1, _, w => by obtain ⟨a, xs, e1, e2, _, _, vs, l, r⟩ := w; exact ⟨a, xs, vs, e1, e2, l, r⟩
  | 2, _, w => by obtain ⟨a, xs, vs, as, e1, e2, _, m, l, w⟩ := w; subst e1 e2; exact l.rep (fun h => nomatch h) w.repAll

theorem wpAny_var {A : Around} {env : Env} (ok : EnvOk c A env) {s : Shared} {x : Str} {v : Value} (h : VarIs env s.heap x v) {Q : Value → Shared → Prop} {E : Value → Shared → Prop} (q : Q v s) :
    wpAny c.M A (loadName env x) Q E s := by
  rcases h with ⟨e, m, n, hv⟩ | ⟨e, a, l, q'⟩
  · exact wpAny_loadName_local ok.kind' e n hv q
  · exact wpAny_loadName_cell ok.kind' e l q' q

theorem ev_var {x : Str} {pos : Pos} {i : Nat} (hi : HasIdx c.ns x i) : EvS c (.Name x pos) (vX i) := .mk fun ok _ _ _ r _ _ h => by
  obtain ⟨v, os, hv, w⟩ := r.var i x _ _ hi.get (vX_some h)
  exact wpAny_Name (wpAny_var ok hv ⟨Kps.refl _ _, w.res⟩) (ok.dbg x (List.mem_of_getElem? hi.get))

/-- a global that holds plain data -/
theorem ev_glob {x : Str} {pos : Pos} {v : Value} {d : PyData} (hk : c.scope.names.lookup x = some .globalImplicit) (hg : c.b.mg x = some v) (hv : Rep [] c.b.top v d) (hd : (x == ("__debug__" : Str)) = false) :
    EvS c (.Name x pos) (kX d) := .mk fun {A env} ok O s σ r _ _ h => by
  cases h
  refine Calls.Name_function_global ok.kind' (by show env.scope.names.lookup x = _; rw [ok.scope]; exact hk) (Calls.loadGlobal_global (mg := c.b.mg) (v := v) ?_ hg ⟨Kps.refl _ _, ?_⟩) hd
  · rw [ok.globals]; exact ok.base.g.keeps r.top
  · exact hv.move fun b o _ e => ⟨r.top b o e, fun hb => by rw [r.off b hb] at e; cases e⟩
end
end Mine

set_option Elab.async false
set_option linter.unusedVariables false
set_option autoImplicit false
open PySem
namespace Mine
section
variable {c : Cx}

theorem two {α : Type} {l r : Expr} {f g : XE} (hl : EvS c l f) (hr : EvS c r g) {A : Around} {env : Env} (ok : EnvOk c A env) {O : List Addr} {s : Shared} {σ : St} (R : Rel c env O s.heap σ)
    {d1 d2 : PyData} {k1 k2 : Nat} (e1 : f σ = some (d1, k1)) (e2 : g σ = some (d2, k2)) {T : Value → Value → Sem α} {Q : α → Shared → Prop}
    (step : ∀ v1 v2 s2, Kps c.gn s s2 → Rel c env O s2.heap σ → Res O s.heap s2.heap v1 d1 k1 → Res O s.heap s2.heap v2 d2 k2 → wpAny c.M A (T v1 v2) Q NoE s2) :
    wpAny c.M A (eval l env) (fun a s1 => wpAny c.M A (eval r env) (fun b s2 => wpAny c.M A (T a b) Q NoE s2) NoE s1) NoE s :=
  wpAny_mono (hl.run ok R e1) (fun v1 s1 h1 => wpAny_mono (hr.run ok (R.keeps h1.1.kp) e2) (fun v2 s2 h2 => step v1 v2 s2 (h1.1.trans h2.1) (R.keeps (h1.1.trans h2.1).kp) (h1.2.keeps h2.1.kp) (h2.2.from h1.1.kp)) fun _ _ f => f) fun _ _ f => f

theorem Res.int_inv {O : List Addr} {h₀ h : Heap} {v : Value} {i : Int} {k : Nat} (r : Res O h₀ h v (.int i) k) : ∃ t, v = .int i t := by
  cases r.any with | int _ t => exact ⟨t, rfl⟩
theorem Res.bool_inv {O : List Addr} {h₀ h : Heap} {v : Value} {b : Bool} {k : Nat} (r : Res O h₀ h v (.bool b) k) : v = .bool b := by
  cases r.any with | bool _ => rfl
theorem Res.str_inv {O : List Addr} {h₀ h : Heap} {v : Value} {x : Str} {k : Nat} (r : Res O h₀ h v (.str x) k) : PyData.strOk x = true ∧ ∃ t, v = .str x t := by
  cases r.any with | str _ t ok => exact ⟨ok, t, rfl⟩

/-! int operators -/
noncomputable def i2X (F : Int → Int → Option Int) (f g : XE) : XE := fun σ => match f σ, g σ with
  | some (.int a, _), some (.int b, _) => (F a b).map fun i => (.int i, 0)
  | _, _ => none
theorem i2X_inv {F : Int → Int → Option Int} {f g : XE} {σ : St} {d : PyData} {k : Nat} (h : i2X F f g σ = some (d, k)) :
    ∃ a j b l i, f σ = some (.int a, j) ∧ g σ = some (.int b, l) ∧ F a b = some i ∧ d = .int i ∧ k = 0 := by
  unfold i2X at h
  split at h
  · rename_i a j b l e1 e2
    cases q : F a b with
    | none => rw [q] at h; cases h
    | some i => rw [q] at h; cases h; exact ⟨a, j, b, l, i, e1, e2, q, rfl, rfl⟩
  · cases h

theorem ev_i2 {F : Int → Int → Option Int} {op : Operator} {l r : Expr} {pos : Pos} {f g : XE} (hl : EvS c l f) (hr : EvS c r g)
    (step : ∀ {A : Around} {s : Shared} {a b i : Int} {t u : Tok} {Q : Value → Shared → Prop} {E : Value → Shared → Prop}, F a b = some i → (∀ t' n, Q (.int i t') { s with toks := n }) →
      wpAny c.M A (binaryOp op (.int a t) (.int b u)) Q E s) : EvS c (.BinOp l op r pos) (i2X F f g) := .mk fun ok O s σ R d k h => by
  obtain ⟨a, j, b, m, i, e1, e2, q, rfl, rfl⟩ := i2X_inv h
  refine wpAny_BinOp (two hl hr ok R e1 e2 fun v1 v2 s2 K R2 r1 r2 => ?_)
  obtain ⟨t, rfl⟩ := r1.int_inv
  obtain ⟨u, rfl⟩ := r2.int_inv
  exact step q fun t' n => ⟨K.tok _, .int _ _⟩

theorem ev_sub {l r : Expr} {pos : Pos} {f g : XE} (hl : EvS c l f) (hr : EvS c r g) : EvS c (.BinOp l .Sub r pos) (i2X (fun a b => some (a - b)) f g) :=
  ev_i2 hl hr fun e q => by cases e; exact PyProof.Rows.sub_int (q _ _)
theorem ev_mod {l r : Expr} {pos : Pos} {f g : XE} (hl : EvS c l f) (hr : EvS c r g) : EvS c (.BinOp l .Mod r pos) (i2X (fun a b => if b = 0 then none else some (a.fmod b)) f g) :=
  ev_i2 hl hr fun {A s a b i t u Q E} e q => by
    by_cases hb : b = 0
    · rw [if_pos hb] at e; cases e
    · rw [if_neg hb] at e; cases e; exact PyProof.Rows.mod_int' hb (q _ _)
theorem ev_shr {l r : Expr} {pos : Pos} {f g : XE} (hl : EvS c l f) (hr : EvS c r g) : EvS c (.BinOp l .RShift r pos) (i2X (fun a b => if 0 ≤ b then some (a.fdiv (2 ^ b.toNat)) else none) f g) :=
  ev_i2 hl hr fun {A s a b i t u Q E} e q => by
    by_cases hb : 0 ≤ b
    · rw [if_pos hb] at e; cases e; exact PyProof.Rows.rshift_int hb (q _ _)
    · rw [if_neg hb] at e; cases e
theorem ev_and {l r : Expr} {pos : Pos} {f g : XE} (hl : EvS c l f) (hr : EvS c r g) : EvS c (.BinOp l .BitAnd r pos) (i2X (fun a b => some (Builtin.bitAnd a b)) f g) :=
  ev_i2 hl hr fun e q => by cases e; exact PyProof.Rows.and_int (q _ _)

/-! + of ints, lists, strs -/
noncomputable def addX (f g : XE) : XE := fun σ => match f σ, g σ with
  | some (.int a, _), some (.int b, _) => some (.int (a + b), 0)
  | some (.list xs, j), some (.list ys, l) => if j ≠ 2 ∧ l ≠ 2 ∧ xs.length + ys.length ≤ 10000000 then some (.list (xs ++ ys), 3) else none
  | some (.str x, _), some (.str y, _) => if x.length + y.length ≤ 10000000 ∧ PyData.strOk (x ++ y) = true then some (.str (x ++ y), 0) else none
  | _, _ => none

theorem line_big : 10000000 ≤ sizeLine := by rw [sizeLine_eq]; decide

theorem fresh_none {h : Heap} : h.get? h.objs.size = none := by
  cases q : h.get? h.objs.size with
  | none => rfl
  | some o => exact absurd (Heap.lt_size q) (Nat.lt_irrefl _)

/-- a new list of free items -/
theorem newRes {gn : Bool} {O : List Addr} {s s' : Shared} {vs : Array Value} {xs : List PyData} (K : Kps gn s s') (low : ∀ a ∈ O, ∃ o, s'.heap.get? a = some o) (r : RepAll O s'.heap vs.toList xs) (z : vs.size ≤ sizeLine) :
    Kps gn s { s' with heap := s'.heap.push { cls := .type "list", data := .seq vs } } ∧ Res O s.heap (s'.heap.push { cls := .type "list", data := .seq vs }) (.ref s'.heap.objs.size) (.list xs) 3 :=
  ⟨K.push _, _, _, vs, rfl, rfl, gone K.kp fresh_none, ⟨⟨0, Heap.get?_push_size _ rfl⟩, z⟩,
    (r.more (O' := s'.heap.objs.size :: O) fun a ha => (List.mem_cons.mp ha).elim (fun e => .inr (e ▸ fresh_none)) .inl).keeps fun b o e => Heap.get?_push_of_some _ e⟩
end
end Mine

set_option Elab.async false
set_option linter.unusedVariables false
set_option autoImplicit false
open PySem
namespace Mine
section
variable {c : Cx}

theorem LstAt.size {h : Heap} {a : Addr} {vs : Array Value} {O : List Addr} {xs : List PyData} (r : RepAll O h vs.toList xs) : vs.size = xs.length := by
  have := r.length; simpa using this

theorem ev_add {l r : Expr} {pos : Pos} {f g : XE} (hl : EvS c l f) (hr : EvS c r g) : EvS c (.BinOp l .Add r pos) (addX f g) := .mk fun ok O s σ R d k h => by
  unfold addX at h
  split at h
  · rename_i a j b m e1 e2
    cases h
    refine wpAny_BinOp (two hl hr ok R e1 e2 fun v1 v2 s2 K R2 r1 r2 => ?_)
    obtain ⟨t, rfl⟩ := r1.int_inv
    obtain ⟨u, rfl⟩ := r2.int_inv
    exact PyProof.Rows.add_int ⟨K.tok _, .int _ _⟩
  · rename_i xs j ys m e1 e2
    split at h
    · rename_i hc
      cases h
      refine wpAny_BinOp (two hl hr ok R e1 e2 fun v1 v2 s2 K R2 r1 r2 => ?_)
      obtain ⟨a, vs, rfl, ⟨⟨n, la⟩, za⟩, ra⟩ := r1.elems hc.1
      obtain ⟨b, ws, rfl, ⟨⟨n', lb⟩, zb⟩, rb⟩ := r2.elems hc.2.1
      have e1 := LstAt.size (h := s2.heap) (a := a) ra
      have e2 := LstAt.size (h := s2.heap) (a := b) rb
      have hz : vs.size + ws.size ≤ sizeLine := Nat.le_trans (by rw [e1, e2]; exact hc.2.2) line_big
      refine P.add_list la lb ?_ hz
      exact newRes K R2.low (by rw [Array.toList_append]; exact ra.append rb) (by rw [Array.size_append]; exact hz)
    · cases h
  · rename_i x j y m e1 e2
    split at h
    · rename_i hc
      cases h
      refine wpAny_BinOp (two hl hr ok R e1 e2 fun v1 v2 s2 K R2 r1 r2 => ?_)
      obtain ⟨_, t, rfl⟩ := r1.str_inv
      obtain ⟨_, u, rfl⟩ := r2.str_inv
      exact PyProof.Rows.add_str (fun t' tk => ⟨K.tok _, .str _ _ hc.2⟩) (Nat.le_trans hc.1 line_big)
    · cases h
  · cases h

/-! comparisons -/
noncomputable def c2X (F : Int → Int → Bool) (f g : XE) : XE := fun σ => match f σ, g σ with
  | some (.int a, _), some (.int b, _) => some (.bool (F a b), 0)
  | _, _ => none

theorem cmp_c2 {F : Int → Int → Bool} {op : CmpOp} {l r : Expr} {pos : Pos} {f g : XE} (hl : EvS c l f) (hr : EvS c r g)
    (step : ∀ {A : Around} {s : Shared} {a b : Int} {t u : Tok} {Q : Value → Shared → Prop} {E : Value → Shared → Prop}, Q (.bool (F a b)) s → wpAny c.M A (compareOp op (.int a t) (.int b u)) Q E s)
    (hm : behindInMarks op r = false) : EvS c (.Compare l [op] [r] pos) (c2X F f g) := .mk fun ok O s σ R d k h => by
  unfold c2X at h
  split at h
  · rename_i a j b m e1 e2
    cases h
    refine wpAny_Compare1 (two hl hr ok R e1 e2 fun v1 v2 s2 K R2 r1 r2 => ?_) hm
    obtain ⟨t, rfl⟩ := r1.int_inv
    obtain ⟨u, rfl⟩ := r2.int_inv
    exact step ⟨K, .bool _⟩
  · cases h
theorem ev_lt {l r : Expr} {pos : Pos} {f g : XE} (hl : EvS c l f) (hr : EvS c r g) (hm : behindInMarks .Lt r = false := by rfl) : EvS c (.Compare l [.Lt] [r] pos) (c2X (fun a b => decide (a < b)) f g) :=
  cmp_c2 hl hr (fun q => PyProof.Rows.lt_int q) hm
theorem ev_gt {l r : Expr} {pos : Pos} {f g : XE} (hl : EvS c l f) (hr : EvS c r g) (hm : behindInMarks .Gt r = false := by rfl) : EvS c (.Compare l [.Gt] [r] pos) (c2X (fun a b => decide (b < a)) f g) :=
  cmp_c2 hl hr (fun q => PyProof.Rows.gt_int q) hm
noncomputable def eqX (t : Bool) (f g : XE) : XE := fun σ => match f σ, g σ with
  | some (a, _), some (b, _) => if min a.depth b.depth ≤ 100 then some (.bool (PyData.eqv a b == t), 0) else none
  | _, _ => none
theorem EnvOk.room {A : Around} {env : Env} (ok : EnvOk c A env) {n : Nat} (h : n ≤ 100) : A.units + 1 + n < cLine := by have := ok.a.units; omega
theorem ev_eq {l r : Expr} {pos : Pos} {f g : XE} (hl : EvS c l f) (hr : EvS c r g) (hm : behindInMarks .Eq r = false := by rfl) : EvS c (.Compare l [.Eq] [r] pos) (eqX true f g) := .mk fun ok O s σ R d k h => by
  unfold eqX at h
  split at h
  · rename_i a j b m e1 e2
    split at h
    · rename_i hc
      cases h
      refine wpAny_Compare1 (two hl hr ok R e1 e2 fun v1 v2 s2 K R2 r1 r2 => ?_) hm
      obtain ⟨as, q1⟩ := r1.any.reads
      obtain ⟨bs, q2⟩ := r2.any.reads
      exact SeqAt.compareEq_reads q1 q2 r1.any.lay r2.any.lay (Nat.lt_of_le_of_lt (by omega) (ok.room hc)) ⟨K, by rw [beq_true]; exact .bool _⟩
    · cases h
  · cases h
theorem ev_ne {l r : Expr} {pos : Pos} {f g : XE} (hl : EvS c l f) (hr : EvS c r g) (hm : behindInMarks .NotEq r = false := by rfl) : EvS c (.Compare l [.NotEq] [r] pos) (eqX false f g) := .mk fun ok O s σ R d k h => by
  unfold eqX at h
  split at h
  · rename_i a j b m e1 e2
    split at h
    · rename_i hc
      cases h
      refine wpAny_Compare1 (two hl hr ok R e1 e2 fun v1 v2 s2 K R2 r1 r2 => ?_) hm
      obtain ⟨as, q1⟩ := r1.any.reads
      obtain ⟨bs, q2⟩ := r2.any.reads
      exact SeqAt.compareNe_reads q1 q2 r1.any.lay r2.any.lay (Nat.lt_of_le_of_lt (by omega) (ok.room hc)) ⟨K, by rw [beq_false]; exact .bool _⟩
    · cases h
  · cases h

noncomputable def inX (t : Bool) (f g : XE) : XE := fun σ => match f σ, g σ with
  | some (a, _), some (.list ys, _) => if min (PyData.depthAll ys) a.depth ≤ 100 then some (.bool ((ys.any fun y => PyData.eqv y a) == t), 0) else none
  | some (a, _), some (.tuple ys, _) => if min (PyData.depthAll ys) a.depth ≤ 100 then some (.bool ((ys.any fun y => PyData.eqv y a) == t), 0) else none
  | _, _ => none
theorem ev_in {l r : Expr} {pos : Pos} {f g : XE} (hl : EvS c l f) (hr : EvS c r g) (hm : behindInMarks .In r = false := by rfl) : EvS c (.Compare l [.In] [r] pos) (inX true f g) := .mk fun ok O s σ R d k h => by
  unfold inX at h
  split at h
  · rename_i a j ys m e1 e2
    split at h
    · rename_i hc
      cases h
      refine wpAny_Compare1 (two hl hr ok R e1 e2 fun v1 v2 s2 K R2 r1 r2 => ?_) hm
      obtain ⟨as, q1⟩ := r1.any.reads
      obtain ⟨bs, q2⟩ := r2.any.reads
      have hl2 := r2.any.lay
      simp only [PyData.canLay0] at hl2
      exact SeqAt.in_list_reads q2 q1 hl2 r1.any.lay (ok.room hc) ⟨K, by rw [beq_true]; exact .bool _⟩
    · cases h
  · rename_i a j ys m e1 e2
    split at h
    · rename_i hc
      cases h
      refine wpAny_Compare1 (two hl hr ok R e1 e2 fun v1 v2 s2 K R2 r1 r2 => ?_) hm
      obtain ⟨as, q1⟩ := r1.any.reads
      obtain ⟨bs, q2⟩ := r2.any.reads
      have hl2 := r2.any.lay
      simp only [PyData.canLay0] at hl2
      exact SeqAt.in_tuple_reads q2 q1 hl2 r1.any.lay (ok.room hc) ⟨K, by rw [beq_true]; exact .bool _⟩
    · cases h
  · cases h
theorem ev_notin {l r : Expr} {pos : Pos} {f g : XE} (hl : EvS c l f) (hr : EvS c r g) (hm : behindInMarks .NotIn r = false := by rfl) : EvS c (.Compare l [.NotIn] [r] pos) (inX false f g) := .mk fun ok O s σ R d k h => by
  unfold inX at h
  split at h
  · rename_i a j ys m e1 e2
    split at h
    · rename_i hc
      cases h
      refine wpAny_Compare1 (two hl hr ok R e1 e2 fun v1 v2 s2 K R2 r1 r2 => ?_) hm
      obtain ⟨as, q1⟩ := r1.any.reads
      obtain ⟨bs, q2⟩ := r2.any.reads
      have hl2 := r2.any.lay
      simp only [PyData.canLay0] at hl2
      exact SeqAt.notIn_list_reads q2 q1 hl2 r1.any.lay (ok.room hc) ⟨K, by rw [beq_false]; exact .bool _⟩
    · cases h
  · rename_i a j ys m e1 e2
    split at h
    · rename_i hc
      cases h
      refine wpAny_Compare1 (two hl hr ok R e1 e2 fun v1 v2 s2 K R2 r1 r2 => ?_) hm
      obtain ⟨as, q1⟩ := r1.any.reads
      obtain ⟨bs, q2⟩ := r2.any.reads
      have hl2 := r2.any.lay
      simp only [PyData.canLay0] at hl2
      exact SeqAt.notIn_tuple_reads q2 q1 hl2 r1.any.lay (ok.room hc) ⟨K, by rw [beq_false]; exact .bool _⟩
    · cases h
  · cases h

/-! truth -/
noncomputable def trX (f : XE) : St → Option Bool := fun σ => match f σ with
  | some (.bool b, _) => some b
  | _ => none
theorem tr_of {e : Expr} {f : XE} (h : EvS c e f) (he : ∀ (env : Env) (whole : Sem Value), isTrue e env whole = (do let v ← whole; standAt e.pos; holding [v] (truthy v)) := by intros; rfl) : TrS c e (trX f) := .mk fun {A env} ok O s σ R b hb => by
  unfold trX at hb
  split at hb
  · rename_i q j e1
    cases hb
    refine PyProof.Rows.isTrue_plain (wpAny_mono (h.run ok R e1) (fun v s1 h1 => ?_) fun _ _ f => f) (he _ _)
    cases h1.2.bool_inv
    exact wpAny_truthy_bool ⟨h1.1, rfl⟩
  · cases hb
theorem tr_cmp {l r : Expr} {op : CmpOp} {pos : Pos} {f : XE} (h : EvS c (.Compare l [op] [r] pos) f) : TrS c (.Compare l [op] [r] pos) (trX f) := .mk fun {A env} ok O s σ R b hb => by
  unfold trX at hb
  split at hb
  · rename_i q j e1
    cases hb
    have h1 := h.run ok R e1
    intro Γ p hΓ
    have h2 := h1 Γ p hΓ
    rw [isTrue_Compare1]
    rw [eval_Compare1] at h2
    simp only [Sem.wp_bind'] at h2 ⊢
    refine Sem.wp_mono _ Γ _ (fun a p₁ s₁ h₁ => ?_) (fun _ _ _ f => f) _ _ h2
    refine Sem.wp_mono _ Γ _ (fun a p₁ s₁ h₁ => ?_) (fun _ _ _ f => f) _ _ h₁
    refine Sem.wp_mono _ Γ _ (fun a p₁ s₁ h₁ => ?_) (fun _ _ _ f => f) _ _ h₁
    refine Sem.wp_mono _ Γ _ (fun a p₁ s₁ h₁ => ?_) (fun _ _ _ f => f) _ _ h₁
    cases h₁.2.bool_inv
    rw [Sem.wp_holding]
    exact wpAny_truthy_bool (M := c.M) (A := A) (E := NoE) (Q := fun r s' => Kps c.gn s s' ∧ r = b) ⟨h₁.1, rfl⟩ Γ p₁ hΓ
  · cases hb
noncomputable def notT (f : St → Option Bool) : St → Option Bool := fun σ => (f σ).map not
noncomputable def andT (f g : St → Option Bool) : St → Option Bool := fun σ => match f σ with
  | some true => g σ
  | some false => some false
  | none => none
noncomputable def orT (f g : St → Option Bool) : St → Option Bool := fun σ => match f σ with
  | some true => some true
  | some false => g σ
  | none => none
theorem tr_and {e₁ e₂ : Expr} {pos : Pos} {f g : St → Option Bool} (h1 : TrS c e₁ f) (h2 : TrS c e₂ g) : TrS c (.BoolOp .And [e₁, e₂] pos) (andT f g) := .mk fun {A env} ok O s σ R b hb => by
  unfold andT at hb
  refine PyProof.Rows.isTrue_and ?_
  split at hb
  · rename_i e
    refine wpAny_mono (h1.run ok R e) (fun v s1 q => ?_) fun _ _ f => f
    obtain ⟨K, rfl⟩ := q
    refine PyProof.Rows.isTrue_and (wpAny_mono (h2.run ok (R.keeps K.kp) hb) (fun v s2 q => ?_) fun _ _ f => f)
    obtain ⟨K2, rfl⟩ := q
    cases v with
    | true => exact PyProof.Rows.isTrue_and_nil ⟨K.trans K2, rfl⟩
    | false => exact ⟨K.trans K2, rfl⟩
  · rename_i e
    cases hb
    refine wpAny_mono (h1.run ok R e) (fun v s1 q => ?_) fun _ _ f => f
    obtain ⟨K, rfl⟩ := q
    exact ⟨K, rfl⟩
  · cases hb
theorem tr_or {e₁ e₂ : Expr} {pos : Pos} {f g : St → Option Bool} (h1 : TrS c e₁ f) (h2 : TrS c e₂ g) : TrS c (.BoolOp .Or [e₁, e₂] pos) (orT f g) := .mk fun {A env} ok O s σ R b hb => by
  unfold orT at hb
  refine PyProof.Rows.isTrue_or ?_
  split at hb
  · rename_i e
    cases hb
    refine wpAny_mono (h1.run ok R e) (fun v s1 q => ?_) fun _ _ f => f
    obtain ⟨K, rfl⟩ := q
    exact ⟨K, rfl⟩
  · rename_i e
    refine wpAny_mono (h1.run ok R e) (fun v s1 q => ?_) fun _ _ f => f
    obtain ⟨K, rfl⟩ := q
    refine PyProof.Rows.isTrue_or (wpAny_mono (h2.run ok (R.keeps K.kp) hb) (fun v s2 q => ?_) fun _ _ f => f)
    obtain ⟨K2, rfl⟩ := q
    cases v with
    | true => exact ⟨K.trans K2, rfl⟩
    | false => exact PyProof.Rows.isTrue_or_nil ⟨K.trans K2, rfl⟩
  · cases hb

/-- and, or as values, of bools -/
noncomputable def bandX (f g : XE) : XE := fun σ => match f σ with
  | some (.bool true, _) => (match g σ with | some (.bool b, _) => some (.bool b, 0) | _ => none)
  | some (.bool false, _) => some (.bool false, 0)
  | _ => none
noncomputable def borX (f g : XE) : XE := fun σ => match f σ with
  | some (.bool true, _) => some (.bool true, 0)
  | some (.bool false, _) => (match g σ with | some (.bool b, _) => some (.bool b, 0) | _ => none)
  | _ => none
theorem ev_band {e₁ e₂ : Expr} {pos : Pos} {f g : XE} (h1 : EvS c e₁ f) (h2 : EvS c e₂ g) : EvS c (.BoolOp .And [e₁, e₂] pos) (bandX f g) := .mk fun {A env} ok O s σ R d k h => by
  unfold bandX at h
  refine PyProof.Rows.BoolOp_and ?_
  split at h
  · rename_i e
    refine wpAny_mono (h1.run ok R e) (fun v s1 q => ?_) fun _ _ f => f
    obtain ⟨K, r⟩ := q
    cases r.bool_inv
    refine wpAny_truthy_bool ?_
    split at h
    · rename_i e2
      cases h
      exact PyProof.Rows.BoolOp_one (wpAny_mono (h2.run ok (R.keeps K.kp) e2) (fun v s2 q => ⟨K.trans q.1, by cases q.2.bool_inv; exact .bool _⟩) fun _ _ f => f)
    · cases h
  · rename_i e
    cases h
    refine wpAny_mono (h1.run ok R e) (fun v s1 q => ?_) fun _ _ f => f
    obtain ⟨K, r⟩ := q
    cases r.bool_inv
    exact wpAny_truthy_bool ⟨K, .bool _⟩
  · cases h
theorem ev_bor {e₁ e₂ : Expr} {pos : Pos} {f g : XE} (h1 : EvS c e₁ f) (h2 : EvS c e₂ g) : EvS c (.BoolOp .Or [e₁, e₂] pos) (borX f g) := .mk fun {A env} ok O s σ R d k h => by
  unfold borX at h
  refine PyProof.Rows.BoolOp_or ?_
  split at h
  · rename_i e
    cases h
    refine wpAny_mono (h1.run ok R e) (fun v s1 q => ?_) fun _ _ f => f
    obtain ⟨K, r⟩ := q
    cases r.bool_inv
    exact wpAny_truthy_bool ⟨K, .bool _⟩
  · rename_i e
    refine wpAny_mono (h1.run ok R e) (fun v s1 q => ?_) fun _ _ f => f
    obtain ⟨K, r⟩ := q
    cases r.bool_inv
    refine wpAny_truthy_bool ?_
    split at h
    · rename_i e2
      cases h
      exact PyProof.Rows.BoolOp_one (wpAny_mono (h2.run ok (R.keeps K.kp) e2) (fun v s2 q => ⟨K.trans q.1, by cases q.2.bool_inv; exact .bool _⟩) fun _ _ f => f)
    · cases h
  · cases h
end
end Mine

set_option Elab.async false
set_option linter.unusedVariables false
set_option autoImplicit false
open PySem
namespace Mine
section
variable {c : Cx}

noncomputable def negX (f : XE) : XE := fun σ => match f σ with
  | some (.int a, _) => some (.int (-a), 0)
  | _ => none
theorem ev_neg {e : Expr} {pos : Pos} {f : XE} (h : EvS c e f) : EvS c (.UnaryOp .USub e pos) (negX f) := .mk fun ok O s σ R d k q => by
  unfold negX at q
  split at q
  · rename_i a j e1
    cases q
    refine PyProof.Rows.UnaryOp_ (wpAny_mono (h.run ok R e1) (fun v s1 h1 => ?_) fun _ _ f => f)
    obtain ⟨K, r⟩ := h1
    obtain ⟨t, rfl⟩ := r.int_inv
    exact PyProof.Rows.neg_int ⟨K.tok _, .int _ _⟩
  · cases q

/-! x[i] -/
noncomputable def ixOf (i : Int) (n : Nat) : Option Nat := if 0 ≤ i then (if i < n then some i.toNat else none) else (if -(n : Int) ≤ i then some (i + n).toNat else none)
noncomputable def subX (f g : XE) : XE := fun σ => match f σ, g σ with
  | some (.list xs, k), some (.int i, _) => (match ixOf i xs.length with
    | some j => (match xs[j]? with | some d => some (d, if k = 2 then 2 else 0) | none => none)
    | none => none)
  | some (.tuple xs, k), some (.int i, _) => (match ixOf i xs.length with
    | some j => (match xs[j]? with | some d => some (d, if k = 2 then 2 else 0) | none => none)
    | none => none)
  | _, _ => none

theorem ixOf_cases {i : Int} {n j : Nat} (h : ixOf i n = some j) : (0 ≤ i ∧ i < n ∧ j = i.toNat) ∨ (i < 0 ∧ -(n : Int) ≤ i ∧ j = (i + n).toNat) := by
  unfold ixOf at h
  split at h
  · split at h
    · cases h; exact .inl ⟨by assumption, by assumption, rfl⟩
    · cases h
  · split at h
    · cases h; exact .inr ⟨by omega, by assumption, rfl⟩
    · cases h
theorem ixOf_seq {i : Int} {n j : Nat} (h : ixOf i n = some j) : seqIndex? i n = some j := by
  rcases ixOf_cases h with ⟨a, b, rfl⟩ | ⟨a, b, rfl⟩
  · exact seqIndex_of a b
  · exact seqIndex_neg a b
theorem ixOf_fit {i : Int} {n j : Nat} (h : ixOf i n = some j) (z : n ≤ sizeLine) : -(2 ^ 63) ≤ i ∧ i < 2 ^ 63 := by
  rw [sizeLine_eq] at z
  rcases ixOf_cases h with ⟨a, b, rfl⟩ | ⟨a, b, rfl⟩ <;> omega

theorem getItem_lst {prog : Program} {w : World} {A : Around} {E : Value → Shared → Prop} {s : Shared} {a : Addr} {vs : Array Value} {i : Int} {t : Tok} {j : Nat} {v : Value} {Q : Value → Shared → Prop}
    (l : LstAt s.heap a vs) (hj : ixOf i vs.size = some j) (hv : vs[j]? = some v) (h : Q v s) : wpAny (model prog w) A (getItem (.ref a) (.int i t)) Q E s := by
  have hf := ixOf_fit hj l.2
  rcases ixOf_cases hj with ⟨p, q, rfl⟩ | ⟨p, q, rfl⟩
  · exact wpAny_getItem_list l.isList p hf.2 hv h
  · exact wpAny_getItem_list_neg l.isList p q hf.1 hv h
theorem getItem_tup {prog : Program} {w : World} {A : Around} {E : Value → Shared → Prop} {s : Shared} {a : Addr} {vs : Array Value} {i : Int} {t : Tok} {j : Nat} {v : Value} {Q : Value → Shared → Prop}
    (l : TupAt s.heap a vs) (hj : ixOf i vs.size = some j) (hv : vs[j]? = some v) (h : Q v s) : wpAny (model prog w) A (getItem (.ref a) (.int i t)) Q E s := by
  have hf := ixOf_fit hj l.2
  obtain ⟨⟨n, e⟩, z⟩ := l
  exact P.getItem_tuple e hf.1 hf.2 (ixOf_seq hj) hv h

theorem ev_sub_ {l r : Expr} {pos : Pos} {f g : XE} (hl : EvS c l f) (hr : EvS c r g) (hs : ∀ o i, subscripted r false o i = operate [o, i] (getItem o i) := by intro _ _; rfl) :
    EvS c (.Subscript l r pos) (subX f g) := .mk fun {A env} ok O s σ R d k h => by
  unfold subX at h
  split at h
  · rename_i xs m i m' e1 e2
    split at h
    · rename_i j hj
      split at h
      · rename_i x hx
        cases h
        refine PyProof.Rows.Subscript_ (two hl hr ok R e1 e2 fun v1 v2 s2 K R2 r1 r2 => ?_)
        obtain ⟨t, rfl⟩ := r2.int_inv
        by_cases hm : m = 2
        · subst hm
          obtain ⟨a, vs, rfl, _, la, ra⟩ := Rep.lst r1
          have hz := LstAt.size (h := s2.heap) (a := a) ra
          obtain ⟨v, hv, rv⟩ := ra.get hx
          exact PyProof.Rows.tail_any la.isList.typeIs slot_list_getitem.lookup (getItem_lst la (by rw [hz]; exact hj) (by simpa using hv) ⟨K, rv⟩) (hs _ _)
        · obtain ⟨a, vs, rfl, la, ra⟩ := r1.elems hm
          have hz := LstAt.size (h := s2.heap) (a := a) ra
          obtain ⟨v, hv, rv⟩ := ra.get hx
          rw [if_neg hm]
          exact PyProof.Rows.tail_any la.isList.typeIs slot_list_getitem.lookup (getItem_lst la (by rw [hz]; exact hj) (by simpa using hv) ⟨K, rv⟩) (hs _ _)
      · cases h
    · cases h
  · rename_i xs m i m' e1 e2
    split at h
    · rename_i j hj
      split at h
      · rename_i x hx
        cases h
        refine PyProof.Rows.Subscript_ (two hl hr ok R e1 e2 fun v1 v2 s2 K R2 r1 r2 => ?_)
        obtain ⟨t, rfl⟩ := r2.int_inv
        by_cases hm : m = 2
        · subst hm
          obtain ⟨a, vs, rfl, _, la, ra⟩ := Rep.tup r1
          have hz := LstAt.size (h := s2.heap) (a := a) ra
          obtain ⟨v, hv, rv⟩ := ra.get hx
          exact PyProof.Rows.tail_any ⟨_, la.1.choose_spec, rfl⟩ F.slot_tuple_getitem.lookup (getItem_tup la (by rw [hz]; exact hj) (by simpa using hv) ⟨K, rv⟩) (hs _ _)
        · obtain ⟨a, vs, rfl, la, ra⟩ := r1.tups hm
          have hz := LstAt.size (h := s2.heap) (a := a) ra
          obtain ⟨v, hv, rv⟩ := ra.get hx
          rw [if_neg hm]
          exact PyProof.Rows.tail_any ⟨_, la.1.choose_spec, rfl⟩ F.slot_tuple_getitem.lookup (getItem_tup la (by rw [hz]; exact hj) (by simpa using hv) ⟨K, rv⟩) (hs _ _)
      · cases h
    · cases h
  · cases h

/-! x[:], x[::-1] -/
noncomputable def revX (f : XE) : XE := fun σ => match f σ with
  | some (.list xs, k) => if k ≠ 2 then some (.list xs.reverse, 3) else none
  | _ => none

theorem ev_rev {l : Expr} {p pos p1 p2 : Pos} {n : Nat} {f : XE} (hl : EvS c l f) : EvS c (.Subscript l (.Slice none none (some (.UnaryOp .USub (.Constant (.int 1) n p1) p2)) p) pos) (revX f) := .mk fun {A env} ok O s σ R d k h => by
  unfold revX at h
  split at h
  · rename_i xs m e1
    split at h
    · rename_i hm
      cases h
      refine PyProof.Rows.Subscript_ (wpAny_mono (hl.run ok R e1) (fun v s1 h1 => ?_) fun _ _ f => f)
      obtain ⟨K, r⟩ := h1
      refine wpAny_Slice ?_
      rw [evalPart_none, evalPart_some]
      refine wpAny_pure (wpAny_pure ?_)
      refine wpAny_mono ((ev_neg (c := c) (ev_int (c := c))).run ok (R.keeps K.kp) rfl) (fun v' s2 h2 => ?_) fun _ _ f => f
      obtain ⟨K2, r2⟩ := h2
      obtain ⟨t, rfl⟩ := r2.int_inv
      obtain ⟨a, vs, rfl, la, ra⟩ := r.elems hm
      have K3 := (K.trans K2).push { cls := .type "slice", data := .fields #[.none, .none, .int (-1) t] }
      have la' := la.keeps (h' := s2.heap.push { cls := .type "slice", data := .fields #[.none, .none, .int (-1) t] }) fun b o e => Heap.get?_push_of_some _ (K2.kp _ _ e)
      refine PyProof.Rows.tail_any la'.isList.typeIs slot_list_getitem.lookup (wpAny_getItem_list_slice la'.isList (Heap.IsSliceOf.new ..) .none .none (.int _ _) (by simp) ?_ la.2) (ops := [_, _]) rfl
      rw [PySem.W.krv_pick]
      exact newRes K3 (R.keeps K3.kp).low (ra.keeps fun b o e => Heap.get?_push_of_some _ (K2.kp _ _ e)).reverse (by simpa using la.2)
    · cases h
  · cases h

/-! displays, arguments -/
noncomputable def ArgsS (c : Cx) : List Expr → List XE → Prop
  | [], [] => True
  | e :: es, f :: fs => EvS c e f ∧ ArgsS c es fs
  | _, _ => False
theorem args_nil : ArgsS c [] [] := trivial
theorem args_cons {e : Expr} {es : List Expr} {f : XE} {fs : List XE} (h : EvS c e f) (hs : ArgsS c es fs) : ArgsS c (e :: es) (f :: fs) := ⟨h, hs⟩

noncomputable def argsX : List XE → St → Option (List PyData)
  | [], _ => some []
  | f :: fs, σ => match f σ with
    | some (d, k) => if (k == 0 || k == 3) = true then (argsX fs σ).map (d :: ·) else none
    | none => none

theorem wpAny_args {A : Around} {env : Env} (ok : EnvOk c A env) {O : List Addr} {σ : St} : ∀ {es : List Expr} {fs : List XE} {ds : List PyData}, ArgsS c es fs → argsX fs σ = some ds → ∀ {s : Shared}, Rel c env O s.heap σ →
    wpAny c.M A (spliced (es.map fun e => (false, eval e env))) (fun vs s' => Kps c.gn s s' ∧ RepAll O s'.heap vs ds) NoE s
  | [], [], ds, _, h, s, R => by cases h; exact Calls.spliced_nil ⟨Kps.refl _ _, .nil⟩
  | e :: es, f :: fs, ds, hs, h, s, R => by
    unfold argsX at h
    split at h
    · rename_i d k e1
      split at h
      · rename_i hk
        cases q : argsX fs σ with
        | none => rw [q] at h; cases h
        | some ds' =>
          rw [q] at h; cases h
          refine Calls.spliced_cons (wpAny_mono (hs.1.run ok R e1) (fun v s1 h1 => ?_) fun _ _ f => f)
          refine wpAny_mono (wpAny_args ok hs.2 q (R.keeps h1.1.kp)) (fun vs s2 h2 => ?_) fun _ _ f => f
          exact ⟨h1.1.trans h2.1, .cons ((h1.2.free R.low hk).keeps h2.1.kp) h2.2⟩
      · cases h
    · cases h

theorem backTo_plain (pos : Pos) (env : Env) (es : List Expr) : backTo pos (es.map fun e => (false, eval e env)) = es.map fun e => (false, eval e env) := by
  unfold backTo
  rw [List.map_map]
  rfl

abbrev Plain (es : List Expr) : Prop := ∀ env, starEach es env = es.map fun e => (false, eval e env)

noncomputable def tupX (fs : List XE) : XE := fun σ => match argsX fs σ with
  | some ds => if ds.length ≤ 1000 then some (.tuple ds, 0) else none
  | none => none
noncomputable def lstX (fs : List XE) : XE := fun σ => match argsX fs σ with
  | some ds => if ds.length ≤ 1000 then some (.list ds, 3) else none
  | none => none

theorem few {n : Nat} (h : n ≤ 1000) : n ≤ sizeLine := Nat.le_trans h (by rw [sizeLine_eq]; decide)

theorem ev_tup {es : List Expr} {k : Nat} {pos : Pos} {fs : List XE} (h : ArgsS c es fs) (hp : Plain es := by intro _; rfl) : EvS c (.Tuple es k pos) (tupX fs) := .mk fun {A env} ok O s σ R d k h' => by
  unfold tupX at h'
  split at h'
  · rename_i ds e1
    split at h'
    · rename_i hn
      cases h'
      refine PyProof.Rows.Tuple_ ?_
      rw [hp, backTo_plain]
      refine wpAny_mono (wpAny_args ok h e1 R) (fun vs s1 h1 => ?_) fun _ _ f => f
      obtain ⟨K, r⟩ := h1
      have hz : vs.toArray.size ≤ sizeLine := by rw [List.size_toArray, r.length]; exact few hn
      refine wpAny_newObj_type ⟨K.push _, ?_⟩ hz
      refine .tuple (Heap.get?_push_size _ rfl) (fun hm => ?_) hz ((show RepAll O s1.heap vs.toArray.toList ds by simpa using r).keeps fun b o e => Heap.get?_push_of_some _ e)
      obtain ⟨o, q⟩ := (R.keeps K.kp).low _ hm
      exact absurd (Heap.lt_size q) (Nat.lt_irrefl _)
    · cases h'
  · cases h'
theorem ev_lst {es : List Expr} {pos : Pos} {fs : List XE} (h : ArgsS c es fs) (hp : Plain es := by intro _; rfl) : EvS c (.List es pos) (lstX fs) := .mk fun {A env} ok O s σ R d k h' => by
  unfold lstX at h'
  split at h'
  · rename_i ds e1
    split at h'
    · rename_i hn
      cases h'
      refine PyProof.Rows.List_ ?_
      rw [hp, backTo_plain]
      refine wpAny_mono (wpAny_args ok h e1 R) (fun vs s1 h1 => ?_) fun _ _ f => f
      obtain ⟨K, r⟩ := h1
      have hz : vs.toArray.size ≤ sizeLine := by rw [List.size_toArray, r.length]; exact few hn
      exact wpAny_newObj_type (newRes K (R.keeps K.kp).low (by simpa using r) hz) hz
    · cases h'
  · cases h'
end
end Mine

set_option Elab.async false
set_option linter.unusedVariables false
set_option autoImplicit false
open PySem
namespace Mine
section
variable {c : Cx}

/-! built-in names -/
structure BiIs (c : Cx) (x : Str) (v : Value) : Prop where
  kind : c.scope.names.lookup x = some .globalImplicit
  g : c.b.mg x = none
  b : c.b.mb x = some v
  dbg : (x == ("__debug__" : Str)) = false

theorem wpAny_bi {A : Around} {env : Env} (ok : EnvOk c A env) {s : Shared} (top : Kp c.b.top s.heap) {x : Str} {p : Pos} {v : Value} (h : BiIs c x v) {Q : Value → Shared → Prop} {E : Value → Shared → Prop} (q : Q v s) :
    wpAny c.M A (eval (.Name x p) env) Q E s := by
  refine Calls.Name_function_global ok.kind' (by show env.scope.names.lookup x = _; rw [ok.scope]; exact h.kind) (Calls.loadGlobal_builtin (mg := c.b.mg) (mb := c.b.mb) (v := v) ?_ h.g ?_ h.b q) h.dbg
  · rw [ok.globals]; exact ok.base.g.keeps top
  · rw [ok.builtins]; exact ok.base.bi.keeps top

theorem eval_CallName (f : Str) (p : Pos) (args : List Expr) (pos : Pos) (env : Env) : eval (.Call (.Name f p) args [] pos) env = (do callWith pos (← eval (.Name f p) env) [] (backTo pos (starEach args env)) (backToKw pos (keywordEach [] env))) := rfl

noncomputable def lenX (f : XE) : XE := fun σ => match f σ with
  | some (.list xs, _) => some (.int xs.length, 0)
  | some (.tuple xs, _) => some (.int xs.length, 0)
  | some (.str x, _) => if x.length ≤ 10000000 then some (.int x.length, 0) else none
  | _ => none

theorem small63 {n : Nat} (h : n ≤ sizeLine) : (n : Int) < 2 ^ 63 := by rw [sizeLine_eq] at h; omega

theorem ev_len {e : Expr} {p pos : Pos} {f : XE} (hb : BiIs c "len" (.builtin "len")) (he : EvS c e f) (hp : Plain [e] := by intro _; rfl) : EvS c (.Call (.Name "len" p) [e] [] pos) (lenX f) := .mk fun {A env} ok O s σ R d k h => by
  rw [eval_CallName]
  refine wpAny_bind (wpAny_bi ok R.top hb ?_)
  rw [hp, backTo_plain]
  refine callWith_builtin1 ?_
  unfold lenX at h
  split at h
  · rename_i xs m e1
    cases h
    refine wpAny_mono (he.run ok R e1) (fun v s1 h1 => ?_) fun _ _ f => f
    obtain ⟨a, vs, rfl, _, la, ra⟩ := h1.2.any.lst
    have hz := LstAt.size (h := s1.heap) (a := a) ra
    exact PyProof.Rows.len_list la.isList (small63 la.2) ⟨h1.1.tok _, by rw [hz]; exact .int _ _⟩
  · rename_i xs m e1
    cases h
    refine wpAny_mono (he.run ok R e1) (fun v s1 h1 => ?_) fun _ _ f => f
    obtain ⟨a, vs, rfl, _, ⟨⟨n, la⟩, z⟩, ra⟩ := h1.2.any.tup
    have hz := LstAt.size (h := s1.heap) (a := a) ra
    exact P.len_tuple la (Int.not_le.mpr (small63 z)) ⟨h1.1.tok _, by rw [hz]; exact .int _ _⟩
  · rename_i x m e1
    split at h
    · rename_i hx
      cases h
      refine wpAny_mono (he.run ok R e1) (fun v s1 h1 => ?_) fun _ _ f => f
      obtain ⟨_, t, rfl⟩ := h1.2.str_inv
      exact P.len_str (Int.not_le.mpr (small63 (Nat.le_trans hx line_big))) ⟨h1.1.tok _, .int _ _⟩
    · cases h
  · cases h

/-! sorted, of ints -/
noncomputable def insI (x : Int) : List Int → List Int
  | [] => [x]
  | y :: r => if x ≤ y then x :: y :: r else y :: insI x r
noncomputable def sortI : List Int → List Int
  | [] => []
  | x :: r => insI x (sortI r)
theorem insI_perm (x : Int) : ∀ l : List Int, (insI x l).Perm (x :: l)
  | [] => .refl _
  | y :: r => by
    unfold insI
    split
    · exact .refl _
    · exact ((insI_perm x r).cons y).trans (.swap x y r)
theorem sortI_perm : ∀ l : List Int, (sortI l).Perm l
  | [] => .refl _
  | x :: r => (insI_perm x _).trans ((sortI_perm r).cons x)
theorem insI_sorted (x : Int) : ∀ l : List Int, l.Pairwise (· ≤ ·) → (insI x l).Pairwise (· ≤ ·)
  | [], _ => List.pairwise_singleton _ _
  | y :: r, h => by
    unfold insI
    obtain ⟨h1, h2⟩ := List.pairwise_cons.mp h
    split
    · rename_i q
      refine List.pairwise_cons.mpr ⟨fun z hz => ?_, h⟩
      rcases List.mem_cons.mp hz with rfl | hz
      · exact q
      · exact Int.le_trans q (h1 z hz)
    · rename_i q
      refine List.pairwise_cons.mpr ⟨fun z hz => ?_, insI_sorted x r h2⟩
      rcases List.mem_cons.mp ((insI_perm x r).mem_iff.mp hz) with rfl | hz
      · omega
      · exact h1 z hz
theorem sortI_sorted : ∀ l : List Int, (sortI l).Pairwise (· ≤ ·)
  | [] => .nil
  | x :: r => insI_sorted x _ (sortI_sorted r)
theorem sorted_unique : ∀ {l m : List Int}, l.Perm m → l.Pairwise (· ≤ ·) → m.Pairwise (· ≤ ·) → l = m
  | [], m, p, _, _ => (List.nil_perm.mp p).symm
  | x :: l, [], p, _, _ => absurd p.length_eq (by simp)
  | x :: l, y :: m, p, h1, h2 => by
    obtain ⟨a1, a2⟩ := List.pairwise_cons.mp h1
    obtain ⟨b1, b2⟩ := List.pairwise_cons.mp h2
    have hx : x ∈ y :: m := p.mem_iff.mp List.mem_cons_self
    have hy : y ∈ x :: l := p.mem_iff.mpr List.mem_cons_self
    have e : x = y := by
      rcases List.mem_cons.mp hx with q | q
      · exact q
      rcases List.mem_cons.mp hy with q' | q'
      · exact q'.symm
      exact Int.le_antisymm (a1 y q') (b1 x q)
    subst e
    rw [sorted_unique ((List.perm_cons _).mp p) a2 b2]
theorem sortI_eq {l m : List Int} (p : m.Perm l) (h : m.Pairwise (· ≤ ·)) : m = sortI l := sorted_unique (p.trans (sortI_perm l).symm) h (sortI_sorted l)

noncomputable def toInts : List PyData → Option (List Int)
  | [] => some []
  | .int i :: r => (toInts r).map (i :: ·)
  | _ :: _ => none
theorem toInts_eq : ∀ {xs : List PyData} {ns : List Int}, toInts xs = some ns → xs = ns.map .int
  | [], ns, h => by cases h; rfl
  | .int i :: r, ns, h => by
    unfold toInts at h
    cases q : toInts r with
    | none => rw [q] at h; cases h
    | some ms => rw [q] at h; cases h; rw [toInts_eq q]; rfl
  | .none :: _, _, h | .bool _ :: _, _, h | .str _ :: _, _, h | .list _ :: _, _, h | .tuple _ :: _, _, h | .dict _ :: _, _, h => by cases h
theorem toInts_map : ∀ ns : List Int, toInts (ns.map .int) = some ns
  | [] => rfl
  | i :: r => by show (toInts (r.map .int)).map (i :: ·) = _; rw [toInts_map r]; rfl
theorem RepAll.ints {O : List Addr} {h : Heap} : ∀ {vs : List Value} {ns : List Int}, RepAll O h vs (ns.map .int) → PyProof.Rows.IntsAre vs ns
  | [], [], _ => .nil
  | v :: vs, n :: ns, r => by
    cases r with
    | cons r rs => cases r with | int _ t => exact .cons n t rs.ints
theorem repAll_ints {O : List Addr} {h : Heap} : ∀ {vs : List Value} {ns : List Int}, PyProof.Rows.IntsAre vs ns → RepAll O h vs (ns.map .int)
  | _, _, .nil => .nil
  | _, _, .cons n t r => .cons (.int n t) (repAll_ints r)

noncomputable def sortX (f : XE) : XE := fun σ => match f σ with
  | some (.list xs, _) => if xs.length < 64 then (toInts xs).map fun ns => (.list ((sortI ns).map .int), 3) else none
  | _ => none
theorem ev_sorted {e : Expr} {p pos : Pos} {f : XE} (hb : BiIs c "sorted" (.builtin "sorted")) (he : EvS c e f) (hp : Plain [e] := by intro _; rfl) : EvS c (.Call (.Name "sorted" p) [e] [] pos) (sortX f) := .mk fun {A env} ok O s σ R d k h => by
  rw [eval_CallName]
  refine wpAny_bind (wpAny_bi ok R.top hb ?_)
  rw [hp, backTo_plain]
  refine callWith_builtin1 ?_
  unfold sortX at h
  split at h
  · rename_i xs m e1
    split at h
    · rename_i hn
      cases q : toInts xs with
      | none => rw [q] at h; cases h
      | some ns =>
        rw [q] at h; cases h
        have := toInts_eq q; subst this
        refine wpAny_mono (he.run ok R e1) (fun v s1 h1 => ?_) fun _ _ f => f
        obtain ⟨a, ⟨vs⟩, rfl, _, la, ra⟩ := h1.2.any.lst
        have hlen := ra.length
        refine PyProof.Rows.sorted_ints la.isList ra.ints (by show vs.length < 64; rw [show vs.length = _ from hlen]; exact hn) fun out ns' a1 a2 a3 => ?_
        obtain ⟨n, g⟩ := PyProof.Rows.sortedAll_at s1.heap vs out
        have hk : Kp s1.heap (PyProof.Rows.sortedAll s1.heap vs out) := fun b o e => PyProof.Rows.sortedAll_old e
        have e2 : ns' = sortI ns := sortI_eq a2 a3
        subst e2
        have ro : RepAll ((s1.heap.objs.size + 1) :: O) (PyProof.Rows.sortedAll s1.heap vs out) out.toList ((sortI ns).map .int) := repAll_ints a1
        have hz : out.size ≤ sizeLine := by
          have := ro.length
          rw [List.length_map, (sortI_perm ns).length_eq, Array.length_toList] at this
          rw [List.length_map] at hn
          exact few (by omega)
        refine ⟨h1.1.heap hk, _, _, out, rfl, rfl, gone h1.1.kp ?_, ⟨⟨n, g⟩, hz⟩, ro⟩
        cases q : s1.heap.get? (s1.heap.objs.size + 1) with
        | none => rfl
        | some o => exact absurd (Heap.lt_size q) (Nat.not_lt.mpr (Nat.le_succ _))
    · cases h
  · cases h

/-! the text's own functions -/
noncomputable def Fn (b : Base) (gn : Bool) (lvl : Nat) (x : Str) (F : List PyData → Option PyData) : Prop :=
  ∃ a o fd, b.mg x = some (.ref a) ∧ b.top.get? a = some o ∧ o.data = .func fd ∧
    ∀ {A : Around} {O : List Addr} {s : Shared} {vs : List Value} {ds : List PyData} {d : PyData}, AOk lvl A → Kp b.top s.heap → (∀ a ∈ O, ∃ o, s.heap.get? a = some o) → (∀ a ∈ O, b.top.get? a = none) → RepAll O s.heap vs ds → F ds = some d →
      codeAny (model b.prog b.w) A (.call (.ref a) ⟨vs, []⟩) (fun r s' => ∃ v, r = .ok (.ret v) ∧ Kps gn s s' ∧ Rep O s'.heap v d) s

theorem AOk.mono {l m : Nat} {A : Around} (h : AOk m A) (hl : l ≤ m) : AOk l A := ⟨h.handled, by have := h.depth; omega, by have := h.units; omega⟩

noncomputable def callX (F : List PyData → Option PyData) (fs : List XE) : XE := fun σ => match argsX fs σ with
  | some ds => (F ds).map fun d => (d, 0)
  | none => none

theorem ev_call {x : Str} {p pos : Pos} {e : Expr} {es : List Expr} {fs : List XE} {F : List PyData → Option PyData} {gn : Bool} {lvl : Nat} (hf : Fn c.b gn lvl x F) (hl : lvl ≤ c.lvl) (hgn : gn = true → c.gn = true)
    (hk : c.scope.names.lookup x = some .globalImplicit) (ha : ArgsS c (e :: es) fs) (hd : (x == ("__debug__" : Str)) = false) (hp : Plain (e :: es) := by intro _; rfl) : EvS c (.Call (.Name x p) (e :: es) [] pos) (callX F fs) := .mk fun {A env} ok O s σ R d k h => by
  obtain ⟨a, o, fd, hg, ho, hfd, con⟩ := hf
  rw [eval_CallName]
  refine wpAny_bind (Calls.Name_function_global ok.kind' (by show env.scope.names.lookup x = _; rw [ok.scope]; exact hk) (Calls.loadGlobal_global (mg := c.b.mg) (v := .ref a) ?_ hg ?_) hd)
  · rw [ok.globals]; exact ok.base.g.keeps R.top
  rw [hp, backTo_plain]
  unfold callX at h
  split at h
  · rename_i ds e1
    cases q : F ds with
    | none => rw [q] at h; cases h
    | some r =>
      rw [q] at h; cases h
      refine Calls.callWith_function (o := o) (fd := fd) (Calls.evalArgs_plain (wpAny_mono (wpAny_args ok ha e1 R) (fun vs s1 h1 => ⟨⟨h1.1.kp _ _ (R.top _ _ ho), hfd⟩, ?_⟩) fun _ _ f => f))
      have R1 := R.keeps h1.1.kp
      refine wpAny_call (codeAny_mono (con (ok.a.mono hl) R1.top R1.low R1.off h1.2 q) fun r s2 h2 => ?_)
      obtain ⟨v, rfl, K, rv⟩ := h2
      refine ⟨h1.1.trans ?_, rv⟩
      cases gn with
      | false => exact K.weak
      | true => rw [hgn rfl]; exact K
  · cases h

end
end Mine

set_option Elab.async false
set_option linter.unusedVariables false
set_option autoImplicit false
open PySem
namespace Mine
section
variable {c : Cx}

/-! what is walked over -/
abbrev XI := St → Option (List PyData × Nat)

noncomputable def chars (x : Str) : List PyData := x.cps.toList.map fun q => .str ⟨#[q]⟩
noncomputable def upFrom (a : Int) (n : Nat) : List PyData := (List.range n).map fun (i : Nat) => PyData.int (a + i)

inductive IterVal (O : List Addr) (h₀ h : Heap) (k : Nat) : Value → List PyData → Prop
  | list {a vs xs} : LstAt h a vs → RepAll O h vs.toList xs → (k = 0 → a ∉ O) → (k = 3 → h₀.get? a = none) → (k = 0 ∨ k = 1 ∨ k = 3) → IterVal O h₀ h k (.ref a) xs
  | tuple {a vs xs} : TupAt h a vs → RepAll O h vs.toList xs → a ∉ O → IterVal O h₀ h k (.ref a) xs
  | range {a lo hi t u v} : IsRange h a lo hi 1 t u v → -1000000 ≤ lo → lo ≤ 1000000 → -1000000 ≤ hi → hi ≤ 1000000 → h₀.get? a = none → IterVal O h₀ h k (.ref a) (upFrom lo (hi - lo).toNat)
  | str {x t} : x.cps.all (· < 128) = true → x.length ≤ 1000 → IterVal O h₀ h k (.str x t) (chars x)

structure ItS (c : Cx) (e : Expr) (f : XI) : Prop where
  run : ∀ {A : Around} {env : Env}, EnvOk c A env → ∀ {O : List Addr} {s : Shared} {σ : St}, Rel c env O s.heap σ → ∀ {xs : List PyData} {k : Nat}, f σ = some (xs, k) →
    wpAny c.M A (eval e env) (fun v s' => Kps c.gn s s' ∧ IterVal O s.heap s'.heap k v xs) NoE s

noncomputable def itX (f : XE) : XI := fun σ => match f σ with
  | some (.list xs, k) => if k = 0 ∨ k = 1 ∨ k = 3 then some (xs, k) else none
  | some (.tuple xs, k) => if k = 0 then some (xs, 0) else none
  | some (.str x, _) => if x.cps.all (· < 128) = true ∧ x.length ≤ 1000 then some (chars x, 0) else none
  | _ => none

theorem it_of {e : Expr} {f : XE} (h : EvS c e f) : ItS c e (itX f) := .mk fun {A env} ok O s σ R xs k q => by
  unfold itX at q
  split at q
  · rename_i ys m e1
    split at q
    · rename_i hm
      cases q
      refine wpAny_mono (h.run ok R e1) (fun v s1 h1 => ⟨h1.1, ?_⟩) fun _ _ f => f
      obtain ⟨K, r⟩ := h1
      rcases hm with rfl | rfl | rfl
      · obtain ⟨a, vs, rfl, n, l, ra⟩ := Rep.lst r
        exact .list l ra (fun _ => n) (fun e => nomatch e) (.inl rfl)
      · obtain ⟨a, _, vs, rfl, e, l, ra⟩ := r
        cases e
        exact .list l ra (fun e => nomatch e) (fun e => nomatch e) (.inr (.inl rfl))
      · obtain ⟨a, _, vs, rfl, e, n, l, ra⟩ := r
        cases e
        exact .list l (ra.less fun _ h => List.mem_cons_of_mem _ h) (fun e => nomatch e) (fun _ => n) (.inr (.inr rfl))
    · cases q
  · rename_i ys m e1
    split at q
    · rename_i hm
      cases q
      subst hm
      refine wpAny_mono (h.run ok R e1) (fun v s1 h1 => ⟨h1.1, ?_⟩) fun _ _ f => f
      obtain ⟨a, vs, rfl, n, l, ra⟩ := Rep.tup h1.2
      exact .tuple l ra n
    · cases q
  · rename_i x m e1
    split at q
    · rename_i hm
      cases q
      refine wpAny_mono (h.run ok R e1) (fun v s1 h1 => ⟨h1.1, ?_⟩) fun _ _ f => f
      obtain ⟨_, t, rfl⟩ := h1.2.str_inv
      exact .str hm.1 hm.2
    · cases q
  · cases q

noncomputable def rng1 (f : XE) : XI := fun σ => match f σ with
  | some (.int n, _) => if -1000000 ≤ n ∧ n ≤ 1000000 then some (upFrom 0 n.toNat, 3) else none
  | _ => none
noncomputable def rng2 (f g : XE) : XI := fun σ => match f σ, g σ with
  | some (.int a, _), some (.int n, _) => if (-1000000 ≤ a ∧ a ≤ 1000000) ∧ -1000000 ≤ n ∧ n ≤ 1000000 then some (upFrom a (n - a).toNat, 3) else none
  | _, _ => none

theorem it_rng1 {e : Expr} {p pos : Pos} {f : XE} (hb : BiIs c "range" (.type "range")) (he : EvS c e f) (hp : Plain [e] := by intro _; rfl) : ItS c (.Call (.Name "range" p) [e] [] pos) (rng1 f) := .mk fun {A env} ok O s σ R xs k h => by
  rw [eval_CallName]
  refine wpAny_bind (wpAny_bi ok R.top hb ?_)
  rw [hp, backTo_plain]
  refine callWith_type1 ?_
  unfold rng1 at h
  split at h
  · rename_i n m e1
    split at h
    · rename_i hn
      cases h
      refine wpAny_mono (he.run ok R e1) (fun v s1 h1 => ?_) fun _ _ f => f
      obtain ⟨t, rfl⟩ := h1.2.int_inv
      refine call_range_1 ⟨h1.1.heap fun b o e => Heap.get?_push_of_some _ e, ?_⟩
      have := IterVal.range (O := O) (h₀ := s.heap) (k := 3) (IsRange.new s1.heap 0 n 1 s1.toks t (s1.toks + 1)) (by decide) (by decide) hn.1 hn.2 (gone h1.1.kp fresh_none)
      rwa [Int.sub_zero] at this
    · cases h
  · cases h

theorem it_rng2 {e e' : Expr} {p pos : Pos} {f g : XE} (hb : BiIs c "range" (.type "range")) (he : EvS c e f) (he' : EvS c e' g) (hp : Plain [e, e'] := by intro _; rfl) : ItS c (.Call (.Name "range" p) [e, e'] [] pos) (rng2 f g) := .mk fun {A env} ok O s σ R xs k h => by
  rw [eval_CallName]
  refine wpAny_bind (wpAny_bi ok R.top hb ?_)
  rw [hp, backTo_plain]
  unfold rng2 at h
  split at h
  · rename_i a m n m' e1 e2
    split at h
    · rename_i hn
      cases h
      refine callWith_type (by rfl) (Calls.evalArgs_plain (Calls.spliced_cons (wpAny_mono (he.run ok R e1) (fun v1 s1 h1 => Calls.spliced_cons (wpAny_mono (he'.run ok (R.keeps h1.1.kp) e2) (fun v2 s2 h2 => Calls.spliced_nil ?_) fun _ _ f => f)) fun _ _ f => f)))
      obtain ⟨t, rfl⟩ := h1.2.int_inv
      obtain ⟨u, rfl⟩ := h2.2.int_inv
      exact call_range_2 ⟨(h1.1.trans h2.1).heap fun b o e => Heap.get?_push_of_some _ e, IterVal.range (IsRange.new s2.heap a n 1 t u s2.toks) hn.1.1 hn.1.2 hn.2.1 hn.2.2 (gone (h1.1.trans h2.1).kp fresh_none)⟩
    · cases h
  · cases h

/-- the iterator at work -/
inductive Walked (b : Base) (A : Around) (O : List Addr) (v : Value) (xs : List PyData) (s : Shared) : Value → Shared → Prop
  | mk (I : Addr) (fp wr : List Addr) (n : Nat) (P : Nat → Value → Prop) (T : Nat → Heap → Prop) {s2 : Shared} : n = xs.length → Walks b.prog b.w A I fp wr n P T → T 0 s2.heap → Keeps s s2 → n ≤ sizeLine →
    (∀ b ∈ wr, s.heap.get? b = none) → (∀ b ∈ fp, (∃ o, s2.heap.get? b = some o) ∧ (s.heap.get? b = none ∨ v = .ref b)) → (∀ i v, i < n → P i v → ∃ d, xs[i]? = some d ∧ Rep O s.heap v d) → (∀ i h, T i h → ∀ b ∈ wr, ∃ o, h.get? b = some o) → Walked b A O v xs s (.ref I) s2

theorem upFrom_get (a : Int) (n i : Nat) (h : i < n) : (upFrom a n)[i]? = some (.int (a + i)) := by
  unfold upFrom; simp [h]
theorem upFrom_length (a : Int) (n : Nat) : (upFrom a n).length = n := by unfold upFrom; simp

theorem keeps_push (s : Shared) (o : Obj) : Keeps s { s with heap := s.heap.push o } := ⟨_, s.toks, rfl, fun b o' e => Heap.get?_push_of_some _ e⟩

theorem iter_walk {b : Base} {A : Around} (hh : A.handled = none) {O : List Addr} {h₀ : Heap} {s : Shared} {k : Nat} {v : Value} {xs : List PyData} (iv : IterVal O h₀ s.heap k v xs) {E : Value → Shared → Prop} :
    wpAny (model b.prog b.w) A (pyIter v) (fun it s2 => Walked b A O v xs s it s2) E s := by
  cases iv with
  | @list a vs xs l r _ _ _ =>
    refine wpAny_pyIter_list l.isList ?_
    have hne : a ≠ s.heap.objs.size := Nat.ne_of_lt (Heap.lt_size l.1.choose_spec)
    have hz := LstAt.size (h := s.heap) (a := a) r
    refine ⟨_, _, _, _, _, _, hz, Walks.list hh s.heap.objs.size a hne vs, ⟨⟨_, Heap.get?_push_size _ rfl, rfl, rfl⟩, (l.keeps fun b o e => Heap.get?_push_of_some _ e).isList⟩, keeps_push _ _, l.2, ?_, ?_, ?_, ?_⟩
    · intro b hb; rw [List.mem_singleton.mp hb]; exact fresh_none
    · intro b hb
      rcases List.mem_cons.mp hb with rfl | hb
      · exact ⟨⟨_, Heap.get?_push_size _ rfl⟩, .inl fresh_none⟩
      · rw [List.mem_singleton.mp hb]; exact ⟨⟨_, Heap.get?_push_of_some _ l.1.choose_spec⟩, .inr rfl⟩
    · intro i v _ hv
      exact r.getv (by simpa using hv)
    · intro i h hT b hb; rw [List.mem_singleton.mp hb]; exact ⟨_, hT.1.choose_spec.1⟩
  | @tuple a vs xs l r _ =>
    have it : s.heap.IsTuple a vs := ⟨_, l.1.choose_spec, rfl, _, rfl⟩
    refine wpAny_pyIter_tuple it ?_
    have hne : a ≠ s.heap.objs.size := Nat.ne_of_lt (Heap.lt_size l.1.choose_spec)
    have hz := LstAt.size (h := s.heap) (a := a) r
    refine ⟨_, _, _, _, _, _, hz, Walks.tuple hh s.heap.objs.size a hne vs, ⟨⟨_, Heap.get?_push_size _ rfl, rfl, rfl⟩, it.push _⟩, keeps_push _ _, l.2, ?_, ?_, ?_, ?_⟩
    · intro b hb; rw [List.mem_singleton.mp hb]; exact fresh_none
    · intro b hb
      rcases List.mem_cons.mp hb with rfl | hb
      · exact ⟨⟨_, Heap.get?_push_size _ rfl⟩, .inl fresh_none⟩
      · rw [List.mem_singleton.mp hb]; exact ⟨⟨_, Heap.get?_push_of_some _ l.1.choose_spec⟩, .inr rfl⟩
    · intro i v _ hv
      exact r.getv (by simpa using hv)
    · intro i h hT b hb; rw [List.mem_singleton.mp hb]; exact ⟨_, hT.1.choose_spec.1⟩
  | @range a lo hi t u w hr h1 h2 h3 h4 _ =>
    refine wpAny_pyIter_range hr (small_one (by omega) (by omega) (by omega) (by omega)) ?_
    have hz : (hi - lo).toNat ≤ sizeLine := Nat.le_trans (by omega) line_big
    refine ⟨_, _, _, _, _, _, (upFrom_length lo (hi - lo).toNat).symm, Walks.range hh s.heap.objs.size lo 1 (hi - lo).toNat, ?_, keeps_push _ _, hz, ?_, ?_, ?_, ?_⟩
    · show IsRangeIter _ _ _ _ _
      have e1 : lo + ((0 : Nat) : Int) * 1 = lo := by simp
      have e2 : (((hi - lo).toNat : Int) - ((0 : Nat) : Int)) = Builtin.Range.rangeSize lo hi 1 := by rw [rangeSize_one]; split <;> omega
      rw [e1, e2]
      exact Heap.get?_push_size _ rfl
    · intro b hb; rw [List.mem_singleton.mp hb]; exact fresh_none
    · intro b hb; rw [List.mem_singleton.mp hb]; exact ⟨⟨_, Heap.get?_push_size _ rfl⟩, .inl fresh_none⟩
    · intro i v hi hv
      obtain ⟨t, rfl⟩ := hv
      exact ⟨_, upFrom_get lo _ i hi, by rw [Int.mul_one]; exact .int _ _⟩
    · intro i h hT b hb; rw [List.mem_singleton.mp hb]; exact ⟨_, hT⟩
  | @str x t ha hl =>
    refine wpAny_pyIter_ascii ha ?_
    refine ⟨_, _, _, _, _, _, by unfold chars; simp, Walks.strAscii hh s.heap.objs.size x t, ⟨_, Heap.get?_push_size _ rfl, rfl, rfl⟩, keeps_push _ _, few hl, ?_, ?_, ?_, ?_⟩
    · intro b hb; rw [List.mem_singleton.mp hb]; exact fresh_none
    · intro b hb; rw [List.mem_singleton.mp hb]; exact ⟨⟨_, Heap.get?_push_size _ rfl⟩, .inl fresh_none⟩
    · intro i v hi hv
      obtain ⟨q, u, hq, rfl⟩ := hv
      refine ⟨.str ⟨#[q]⟩, by unfold chars; simp [hq], .str _ _ ?_⟩
      have hlt := Array.all_eq_true'.mp ha q (Array.mem_of_getElem? hq)
      have : q < 128 := by simpa using hlt
      unfold PyData.strOk
      simp; omega
    · intro i h hT b hb; rw [List.mem_singleton.mp hb]; exact ⟨_, hT.choose_spec.1⟩
end
end Mine

set_option Elab.async false
set_option linter.unusedVariables false
set_option autoImplicit false
open PySem
namespace Mine
section
variable {c : Cx}

noncomputable def relS (scope outer : Scope) : Scope :=
  { scope with names := scope.names.map fun (n, k) => if (k == .free && outer.kind == .function && outer.names.lookup n == some .cell) then (n, .cell) else (n, k) }
theorem relabel_eq (scope : Scope) (env : Env) : relabel scope env = relS scope env.scope := rfl

noncomputable def freeNames (names : List (Str × NameKind)) : List Str := (names.filter fun p => p.2 == .free).map (·.1)

theorem closure_go (env : Env) : ∀ (names : List (Str × NameKind)) (acc : List (Str × Addr)), (∀ n ∈ freeNames names, ∃ a, env.cells.lookup n = some a) →
    ∃ cl, (forIn names acc fun (x : Str × NameKind) r => (if (x.2 == NameKind.free) = true then do let a ← cellOf env x.1; pure (ForInStep.yield ((x.1, a) :: r)) else pure (ForInStep.yield r) : Sem _)) = pure cl ∧
      (∀ n, n ∈ freeNames names ∨ acc.lookup n = env.cells.lookup n → cl.lookup n = env.cells.lookup n)
  | [], acc, _ => ⟨acc, rfl, fun n h => h.elim (fun h => nomatch h) id⟩
  | (m, k) :: r, acc, h => by
    by_cases hk : k = .free
    · subst hk
      obtain ⟨a, ha⟩ := h m (by unfold freeNames; simp)
      obtain ⟨cl, e1, e2⟩ := closure_go env r ((m, a) :: acc) fun n hn => h n (by unfold freeNames at hn ⊢; simp at hn ⊢; exact .inr hn)
      refine ⟨cl, ?_, fun n hn => e2 n ?_⟩
      · rw [List.forIn_cons, ← e1]
        unfold cellOf
        simp only [beq_self_eq_true, if_true, ha]
        rfl
      · by_cases hnm : n = m
        · subst hnm
          exact .inr (by rw [List.lookup_cons, beq_self_eq_true, ha])
        · have hb : (n == m) = false := beq_eq_false_iff_ne.mpr hnm
          refine hn.imp (fun hn => ?_) fun hn => by rw [List.lookup_cons, hb]; exact hn
          unfold freeNames at hn ⊢
          simp only [List.filter_cons, beq_self_eq_true, if_true, List.map_cons, List.mem_cons] at hn
          exact hn.resolve_left hnm
    · have hb : (k == NameKind.free) = false := beq_eq_false_iff_ne.mpr hk
      have hf : freeNames ((m, k) :: r) = freeNames r := by unfold freeNames; simp [hb]
      rw [hf] at h ⊢
      obtain ⟨cl, e1, e2⟩ := closure_go env r acc h
      refine ⟨cl, ?_, e2⟩
      rw [List.forIn_cons, ← e1]
      simp only [hb, Bool.false_eq_true, if_false]
      rfl

theorem closure_ok (env : Env) (scope : Scope) (h : ∀ n ∈ freeNames scope.names, ∃ a, env.cells.lookup n = some a) :
    ∃ cl, closureFor scope env = pure cl ∧ ∀ n ∈ freeNames scope.names, cl.lookup n = env.cells.lookup n := by
  obtain ⟨cl, e1, e2⟩ := closure_go env scope.names [] h
  refine ⟨cl, ?_, fun n hn => e2 n (.inl hn)⟩
  unfold closureFor
  have : (forIn scope.names ([] : List (Str × Addr)) fun x r => (match x with | (name, kind) => if (kind == NameKind.free) = true then do let a ← cellOf env name; pure (ForInStep.yield ((name, a) :: r)) else pure (ForInStep.yield r) : Sem _)) = pure cl := e1
  first
    | (simp only [bind_pure]; exact this)
    | (show (forIn _ _ _ >>= fun r => pure r) = _; rw [bind_pure]; exact this)

noncomputable def HasIdxs (l : List Str) : List Str → List Nat → Prop
  | [], [] => True
  | x :: xs, i :: is => HasIdx l x i ∧ HasIdxs l xs is
  | _, _ => False
theorem ix_nil {l : List Str} : HasIdxs l [] [] := trivial
theorem ix_cons {l : List Str} {x : Str} {xs : List Str} {i : Nat} {is : List Nat} (h : HasIdx l x i) (hs : HasIdxs l xs is) : HasIdxs l (x :: xs) (i :: is) := ⟨h, hs⟩

noncomputable def freeOf : List Nat → St → Option St
  | [], _ => some []
  | i :: is, σ => match σ[i]? with
    | some (some p) => (freeOf is σ).map (some p :: ·)
    | _ => none

theorem freeOf_get : ∀ {is : List Nat} {σ fs : St}, freeOf is σ = some fs → ∀ {j : Nat} {q : Option (PyData × Nat)}, fs[j]? = some q → ∃ i, is[j]? = some i ∧ σ[i]? = some q
  | [], σ, fs, h, j, q, e => by cases h; simp at e
  | i :: is, σ, fs, h, j, q, e => by
    unfold freeOf at h
    split at h
    · rename_i p hp
      cases r : freeOf is σ with
      | none => rw [r] at h; cases h
      | some gs =>
        rw [r] at h; cases h
        cases j with
        | zero => simp only [List.getElem?_cons_zero, Option.some.injEq] at e; subst e; exact ⟨i, rfl, hp⟩
        | succ j => simp only [List.getElem?_cons_succ] at e ⊢; exact freeOf_get r e
    · cases h
theorem freeOf_some : ∀ {is : List Nat} {σ fs : St}, freeOf is σ = some fs → ∀ {j i : Nat}, is[j]? = some i → ∃ p, σ[i]? = some (some p)
  | [], σ, fs, h, j, i, e => by simp at e
  | i' :: is, σ, fs, h, j, i, e => by
    unfold freeOf at h
    split at h
    · rename_i p hp
      cases r : freeOf is σ with
      | none => rw [r] at h; cases h
      | some gs =>
        cases j with
        | zero => simp only [List.getElem?_cons_zero, Option.some.injEq] at e; subst e; exact ⟨p, hp⟩
        | succ j => simp only [List.getElem?_cons_succ] at e; exact freeOf_some r e
    · cases h
theorem HasIdxs.get {l : List Str} : ∀ {xs : List Str} {is : List Nat}, HasIdxs l xs is → ∀ {j : Nat} {x : Str}, xs[j]? = some x → ∃ i, is[j]? = some i ∧ l[i]? = some x
  | [], [], _, j, x, e => by simp at e
  | y :: ys, i :: is, h, 0, x, e => by simp only [List.getElem?_cons_zero, Option.some.injEq] at e; subst e; exact ⟨i, rfl, h.1.get⟩
  | y :: ys, i :: is, h, j + 1, x, e => by simp only [List.getElem?_cons_succ] at e ⊢; exact h.2.get e

/-- the tests of a clause -/
structure TestsS (c : Cx) (ifs : List Expr) (f : St → Option Bool) : Prop where
  run : ∀ {A : Around} {env : Env}, EnvOk c A env → ∀ {O : List Addr} {s : Shared} {σ : St}, Rel c env O s.heap σ → ∀ {b : Bool}, f σ = some b → ∀ {E : Value → Shared → Prop},
    wpAny c.M A (forIn ifs true fun e r => if r = true then do let ok ← isTrue e env (eval e env); pure (ForInStep.yield ok) else pure (ForInStep.yield r)) (fun r s' => Kps c.gn s s' ∧ r = b) E s
theorem tests_nil : TestsS c [] (fun _ => some true) := .mk fun ok O s σ R b h E => by
  cases h; rw [List.forIn_nil]; exact wpAny_pure ⟨Kps.refl _ _, rfl⟩
theorem tests_one {e : Expr} {f : St → Option Bool} (h : TrS c e f) : TestsS c [e] f := .mk fun {A env} ok O s σ R b hb E => by
  rw [List.forIn_cons]
  simp only [if_true]
  refine wpAny_bind (wpAny_bind (wpAny_mono (h.run ok R hb) (fun r s1 h1 => wpAny_pure ?_) fun _ _ f => f.elim))
  dsimp only
  rw [List.forIn_nil]
  exact wpAny_pure h1

noncomputable def compCx (c : Cx) (scope : Scope) (x : Str) : Cx := { b := c.b, scope := relS scope c.scope, ns := x :: freeNames scope.names, lvl := c.lvl, gn := false }

noncomputable def compL (fs : St) (ft : St → Option Bool) (fe : XE) : List PyData → Option (List PyData)
  | [] => some []
  | d :: ds => match ft (some (d, 0) :: fs) with
    | some true => (match fe (some (d, 0) :: fs) with
      | some (e, k) => if (k == 0 || k == 3) = true then (compL fs ft fe ds).map (e :: ·) else none
      | none => none)
    | some false => compL fs ft fe ds
    | none => none
noncomputable def compX (is : List Nat) (fi : XI) (ft : St → Option Bool) (fe : XE) : XE := fun σ => match fi σ, freeOf is σ with
  | some (xs, _), some fs => (compL fs ft fe xs).map fun ds => (.list ds, 3)
  | _, _ => none

theorem compL_length {fs : St} {ft : St → Option Bool} {fe : XE} : ∀ {xs ds : List PyData}, compL fs ft fe xs = some ds → ds.length ≤ xs.length
  | [], ds, h => by cases h; exact Nat.le_refl _
  | x :: xs, ds, h => by
    unfold compL at h
    split at h
    · split at h
      · split at h
        · cases q : compL fs ft fe xs with
          | none => rw [q] at h; cases h
          | some es => rw [q] at h; cases h; exact Nat.succ_le_succ (compL_length q)
        · cases h
      · cases h
    · exact Nat.le_succ_of_le (compL_length h)
    · cases h

structure CompOk (c : Cx) (scope : Scope) (x : Str) : Prop where
  kind : scope.kind = .function
  nocell : ∀ y ∈ scope.names, y.2 ≠ .cell
  loc : ∀ y ∈ scope.names, y.2 = .local → scope.names.lookup y.1 = some .local
  tgt : scope.names.lookup x = some .local
  cell : ∀ n ∈ freeNames scope.names, c.scope.names.lookup n = some .cell ∧ (relS scope c.scope).names.lookup n = some .cell
  dbg : ∀ n ∈ x :: freeNames scope.names, (n == ("__debug__" : Str)) = false

theorem comp_rel {scope : Scope} {x : Str} (co : CompOk c scope x) {is : List Nat} (hi : HasIdxs c.ns (freeNames scope.names) is) {env : Env} (he : env.scope = c.scope) {O : List Addr} {h : Heap} {σ fs : St} (R : Rel c env O h σ)
    (hf : freeOf is σ = some fs) {cl : List (Str × Addr)} (hcl : ∀ n ∈ freeNames scope.names, cl.lookup n = env.cells.lookup n) {C : Addr} {m : Str → Option Value} (hn : h.Ns C m) {v : Value} (hv : m x = some v) {d : PyData} (rv : Rep O h v d) :
    Rel (compCx c scope x) (compEnvC scope cl C env) O h (some (d, 0) :: fs) where
  top := R.top
  low := R.low
  off := R.off
  var := fun i y e k h1 h2 => by
    cases i with
    | zero =>
      simp only [compCx, List.getElem?_cons_zero, Option.some.injEq] at h1 h2
      subst h1; cases h2
      exact ⟨v, [], .inl ⟨lookup_relabel_local co.tgt, m, hn, hv⟩, rfl, rv⟩
    | succ i =>
      simp only [compCx, List.getElem?_cons_succ] at h1 h2
      obtain ⟨j, hj, hs⟩ := freeOf_get hf h2
      obtain ⟨j', hj', hl⟩ := hi.get h1
      rw [hj] at hj'; cases hj'
      obtain ⟨u, os, hu, w⟩ := R.var j y e k hl hs
      refine ⟨u, os, .inr ?_, w⟩
      have hmem : y ∈ freeNames scope.names := List.mem_of_getElem? h1
      rcases hu with ⟨e1, _⟩ | ⟨e1, a, hl', hc⟩
      · exfalso
        have : env.scope.names.lookup y = some .local := e1
        rw [he, (co.cell y hmem).1] at this
        cases this
      · refine ⟨?_, a, (hcl y hmem).trans hl', hc⟩
        show (relabel scope env).names.lookup y = _
        rw [relabel_eq, he]; exact (co.cell y hmem).2

theorem comp_env {scope : Scope} {x : Str} (co : CompOk c scope x) {A : Around} {env : Env} (ok : EnvOk c A env) (cl : List (Str × Addr)) (C : Addr) : EnvOk (compCx c scope x) A (compEnvC scope cl C env) where
  base := ok.base
  a := ok.a
  scope := by show relabel scope env = _; rw [relabel_eq, ok.scope]; rfl
  kind := co.kind
  globals := ok.globals
  builtins := ok.builtins
  dbg := co.dbg

theorem Own1s.more {O O' : List Addr} {h : Heap} (h1 : ∀ a ∈ O, a ∈ O') (h2 : ∀ a ∈ O', a ∈ O ∨ h.get? a = none) : ∀ {vs : List Value} {ds : List PyData} {as : List Addr}, Own1s O h vs ds as → Own1s O' h vs ds as := by
  intro vs ds as w
  induction w with
  | nil => exact .nil
  | cons w _ ih => obtain ⟨m, vs, l, r⟩ := w; exact .cons ⟨h1 _ m, vs, l, r.more h2⟩ ih
theorem ValOk.more {O O' : List Addr} {h : Heap} {v : Value} {d : PyData} (h1 : ∀ a ∈ O, a ∈ O') (h2 : ∀ a ∈ O', a ∈ O ∨ h.get? a = none) : ∀ {k : Nat} {os : List Addr}, ValOk O h v d k os → ValOk O' h v d k os
  | 0, _, w => ⟨w.1, w.2.more h2⟩
  | 1, _, w => by obtain ⟨a, xs, e1, e2, e3, m, vs, l, r⟩ := w; exact ⟨a, xs, e1, e2, e3, h1 a m, vs, l, r.more h2⟩
  | 2, _, w => by obtain ⟨a, xs, vs, as, e1, e2, e3, m, l, w⟩ := w; exact ⟨a, xs, vs, as, e1, e2, e3, h1 a m, l, w.more h1 h2⟩
theorem Rel.more {env : Env} {O : List Addr} {h h' : Heap} {σ : St} (r : Rel c env O h σ) {X : List Addr} (hX : ∀ a ∈ X, h.get? a = none) (k : Kp h h') (hX' : ∀ a ∈ X, ∃ o, h'.get? a = some o) : Rel c env (X ++ O) h' σ where
  top := fun b o e => k _ _ (r.top b o e)
  low := fun a ha => by
    rcases List.mem_append.mp ha with ha | ha
    · exact hX' a ha
    · obtain ⟨o, e⟩ := r.low a ha; exact ⟨o, k _ _ e⟩
  off := fun a ha => by
    rcases List.mem_append.mp ha with ha | ha
    · exact gone r.top (hX a ha)
    · exact r.off a ha
  var := fun i x d j e1 e2 => by
    obtain ⟨v, os, a, b⟩ := r.var i x d j e1 e2
    exact ⟨v, os, a.keeps k, (b.more (fun _ h => List.mem_append_right _ h) fun a ha => (List.mem_append.mp ha).elim (fun e => .inr (hX a e)) .inl).keeps k⟩

theorem Kps.but {gn : Bool} {s s' : Shared} (K : Kps gn s s') {C : Addr} (hC : s.heap.get? C = none) {h : Heap} (hs : Heap.ExtBut C s'.heap h) : Kps gn s { s' with heap := h } := by
  obtain ⟨h1, t1, g1, rfl, k1, e1, f1⟩ := K
  exact ⟨h, t1, g1, rfl, fun b o e => hs b o (fun q => by rw [q, hC] at e; cases e) (k1 b o e), e1, f1⟩

inductive CoI (s₂ : Shared) (T : Nat → Heap → Prop) (wr O : List Addr) (n : Nat) (D C : Addr) (G : List PyData → Option (List PyData)) (xs ds : List PyData) : Nat → Shared → Prop
  | mk (h' : Heap) (tk : Nat) (m' : Str → Option Value) (ys : Array Value) (i : Nat) (es rest : List PyData) : i ≤ n → T i h' → LstAt h' D ys → h'.Ns C m' → (∀ b o, b ≠ C → b ∉ wr → b ≠ D → s₂.heap.get? b = some o → h'.get? b = some o) →
    RepAll ((D :: C :: wr) ++ O) h' ys.toList es → G (xs.drop i) = some rest → es ++ rest = ds → CoI s₂ T wr O n D C G xs ds (n + 1 - i) { s₂ with heap := h', toks := tk }
theorem comp_core {elt iter : Expr} {x : Str} {px : Pos} {ifs : List Expr} {scope : Scope} {pos : Pos} {is : List Nat} {fi : XI} {ft : St → Option Bool} {fe : XE} (co : CompOk c scope x) (hi : ItS c iter fi) (hix : HasIdxs c.ns (freeNames scope.names) is)
    (ht : TestsS (compCx c scope x) ifs ft) (he : EvS (compCx c scope x) elt fe) (hs : ∀ env v, foldedSetIterable iter env v = pure v) {A : Around} {env : Env} (ok : EnvOk c A env) {O : List Addr} {s : Shared} {σ : St} (R : Rel c env O s.heap σ)
    {xs : List PyData} {kk : Nat} {fs : St} {ds : List PyData} (e1 : fi σ = some (xs, kk)) (e2 : freeOf is σ = some fs) (e3 : compL fs ft fe xs = some ds) {use : Option (Value → Sem Unit)} {Q : Value → Shared → Prop} {pos' : Pos}
    (hQ : ∀ (D C : Addr) (s' : Shared) (m : Str → Option Value) (ys : Array Value), Kps c.gn s s' → s.heap.get? D = none → s.heap.get? C = none → D ≠ C → s'.heap.Ns C m → LstAt s'.heap D ys → RepAll (D :: C :: O) s'.heap ys.toList ds →
      compPost c.M A NoE use Q (.ref D) C (.ok .next) s') :
    wpAny c.M A (comprehension (.ListComp elt [⟨.Name x px, iter, ifs, 0⟩] scope pos) scope env pos' (newList []) false (eval iter env) use) Q NoE s := by
  have hcells : ∀ n ∈ freeNames scope.names, ∃ a, env.cells.lookup n = some a := fun n hn => by
    obtain ⟨j, hj⟩ := List.getElem?_of_mem hn
    obtain ⟨i, hi', hl⟩ := hix.get hj
    obtain ⟨p, hp⟩ := freeOf_some e2 hi'
    obtain ⟨v, os, hv, _⟩ := R.var i n p.1 p.2 hl hp
    rcases hv with ⟨e1, _⟩ | ⟨_, a, hl', _⟩
    · exfalso
      have : env.scope.names.lookup n = some .local := e1
      rw [ok.scope, (co.cell n hn).1] at this
      cases this
    · exact ⟨a, hl'⟩
  obtain ⟨cl, hclos, hcl⟩ := closure_ok env scope hcells
  refine wpAny_comprehension_free (use := use) rfl (hs env) hclos co.kind co.loc (wpAny_mono (hi.run ok R e1) (fun xv s₁ h₁ => ?_) fun _ _ f => f)
  obtain ⟨K₁, iv⟩ := h₁
  refine wpAny_mono (iter_walk ok.a.handled iv) (fun it s₂ h₂ => ?_) fun _ _ f => f
  obtain ⟨I, fp, wr, n, P, T, hn, W, hT, K₂, hz, hwr, hfp, hP, hTw⟩ := h₂
  have kp₂ : Kp s₁.heap s₂.heap := by obtain ⟨_, _, rfl, q⟩ := K₂; exact q
  have K₂' : Kps c.gn s s₂ := K₁.trans (.of K₂)
  refine wpAny_newObj_type (wpAny_newFunctionEnv co.nocell (by intro y hy; simp at hy) (fun h₁ hns₁ hsb₁ => ?_) co.kind)
  dsimp only at hns₁ hsb₁ ⊢
  generalize hH2 : s₂.heap.push { cls := .type "list", dict := none, data := .seq ([] : List Value).toArray } = H2 at hns₁ hsb₁ ⊢
  have hC : H2.objs.size = s₂.heap.objs.size + 1 := by rw [← hH2, Heap.size_push]
  have hDC : s₂.heap.objs.size ≠ H2.objs.size := by rw [hC]; exact Nat.ne_of_lt (Nat.lt_succ_self _)
  have below : ∀ b, b < s₂.heap.objs.size → b ≠ H2.objs.size ∧ b ≠ s₂.heap.objs.size := fun b hb => ⟨by rw [hC]; exact Nat.ne_of_lt (Nat.lt_succ_of_lt hb), Nat.ne_of_lt hb⟩
  have hfp' : ∀ b ∈ fp, b < s₂.heap.objs.size := fun b hb => let ⟨o, e⟩ := (hfp b hb).1; Heap.lt_size e
  have hDf : s₂.heap.objs.size ∉ fp := fun hm => Nat.lt_irrefl _ (hfp' _ hm)
  have hCf : H2.objs.size ∉ fp := fun hm => by have := hfp' _ hm; rw [hC] at this; exact Nat.lt_irrefl _ (Nat.lt_of_succ_lt this)
  have old : Kp s₂.heap h₁ := fun b o e => hsb₁.extBut b o (below b (Heap.lt_size e)).1 (Heap.get?_push_of_some _ (hH2 ▸ Heap.get?_push_of_some _ e))
  have hacc : h₁.get? s₂.heap.objs.size = some { cls := .type "list", dict := none, data := .seq ([] : List Value).toArray } := hsb₁.extBut _ _ hDC (Heap.get?_push_of_some _ (hH2 ▸ Heap.get?_push_size _ rfl))
  have hT₁ : T 0 h₁ := W.frame _ _ _ hT fun b _ o e => old b o e
  have fresh : ∀ a, s₂.heap.objs.size ≤ a → s₂.heap.get? a = none := fun a ha => by
    cases e : s₂.heap.get? a with
    | none => rfl
    | some o' => exact absurd (Heap.lt_size e) (Nat.not_lt.mpr ha)
  have hCw : H2.objs.size ∉ wr := fun h => hCf (W.sub _ h)
  have hDw : s₂.heap.objs.size ∉ wr := fun h => hDf (W.sub _ h)
  have hXnew : ∀ a ∈ s₂.heap.objs.size :: H2.objs.size :: wr, s₁.heap.get? a = none := fun a ha => by
    rcases List.mem_cons.mp ha with rfl | ha
    · exact gone kp₂ (fresh _ (Nat.le_refl _))
    rcases List.mem_cons.mp ha with rfl | ha
    · exact gone kp₂ (fresh _ (by rw [hC]; exact Nat.le_succ _))
    · exact hwr a ha
  have loop : ∀ s₃ : Shared, s₃ = { s₂ with heap := h₁, toks := s₂.toks + ([] : List (Str × Value)).length } →
      codeAny c.M A (.compLoop (.ListComp elt [⟨.Name x px, iter, ifs, 0⟩] scope pos) 0 (.ref I) (.ref s₂.heap.objs.size) (compEnvC scope cl H2.objs.size env))
        (compPost c.M A NoE use Q (.ref s₂.heap.objs.size) H2.objs.size) s₃ := by
    rintro s₃ rfl
    refine codeAny_compLoop_tests
      (CoI s₂ T wr O n s₂.heap.objs.size H2.objs.size (compL fs ft fe) xs ds)
      ?_ (n + 1) ⟨h₁, _, _, #[], 0, [], ds, Nat.zero_le _, hT₁, ⟨⟨_, hacc⟩, Nat.zero_le _⟩, hns₁, fun b o _ _ _ e => old b o e, .nil, e3, rfl⟩
    rintro k s' ⟨H, tk, m', ys, i, es, rest, hin, hT', hl', hn', hk', hes, hrest, hds⟩
    by_cases hlt : i < n
    · refine W.item i _ _ _ hlt hT' fun v h₄ tk₄ hPv hT₄ hk₄ => ?_
      obtain ⟨dv, hdv, rv⟩ := hP i v hlt hPv
      have hx : (compEnvC scope cl H2.objs.size env).kindOf x = some .local := lookup_relabel_local co.tgt
      refine wpAny_assign_Name (wpAny_storeName_local hx (hn'.at' fun o e => hk₄ _ o hCw e) (fun h₅ hn₅ hs₅ => ?_) (by simp [compEnvC, relabel, co.kind]))
      replace hs₅ : Heap.SameBut H2.objs.size h₄ h₅ := hs₅
      replace hn₅ : h₅.Ns H2.objs.size _ := hn₅
      have hkk : ∀ b o, b ≠ H2.objs.size → b ∉ wr → b ≠ s₂.heap.objs.size → s₂.heap.get? b = some o → h₅.get? b = some o := fun b o h1 h2 h3 e => hs₅.extBut b o h1 (hk₄ b o h2 (hk' b o h1 h2 h3 e))
      have kp₅ : Kp s₁.heap h₅ := fun b o e => by
        have e2 := kp₂ b o e
        have hb := below b (Heap.lt_size e2)
        exact hkk b o hb.1 (fun hw => by rw [hwr b hw] at e; cases e) hb.2 e2
      have hl₅ : LstAt h₅ s₂.heap.objs.size ys := let ⟨⟨q, e⟩, z⟩ := hl'; ⟨⟨q, hs₅.extBut _ _ hDC (hk₄ _ _ hDw e)⟩, z⟩
      have hT₅ : T (i + 1) h₅ := W.frame _ _ _ hT₄ fun b hb o e => hs₅.extBut b o (fun h => hCf (h ▸ hb)) e
      have hes₅ : RepAll ((s₂.heap.objs.size :: H2.objs.size :: wr) ++ O) h₅ ys.toList es := hes.move fun b o nb e => ⟨hs₅.extBut b o (fun q => nb (by simp [q])) (hk₄ b o (fun q => nb (by simp [q])) e), nb⟩
      have hX₅ : ∀ a ∈ s₂.heap.objs.size :: H2.objs.size :: wr, ∃ o, h₅.get? a = some o := fun a ha => by
        rcases List.mem_cons.mp ha with rfl | ha
        · exact ⟨_, hl₅.1.choose_spec⟩
        rcases List.mem_cons.mp ha with rfl | ha
        · obtain ⟨o, _, _, e, _⟩ := hn₅; exact ⟨o, e⟩
        · exact hTw _ _ hT₅ a ha
      have R₅ := (R.keeps K₁.kp).more hXnew kp₅ hX₅
      have rv₅ : Rep ((s₂.heap.objs.size :: H2.objs.size :: wr) ++ O) h₅ v dv := (rv.more fun a ha => (List.mem_append.mp ha).elim (fun e => .inr (hXnew a e)) .inl).keeps kp₅
      have RC := comp_rel co hix ok.scope R₅ e2 hcl hn₅ (v := v) (by simp) rv₅
      have okC := comp_env co ok cl H2.objs.size
      have hil : i < xs.length := hn ▸ hlt
      have hdrop : xs.drop i = dv :: xs.drop (i + 1) := by
        rw [List.drop_eq_getElem_cons hil]
        rw [List.getElem?_eq_getElem hil] at hdv
        cases hdv; rfl
      rw [hdrop] at hrest
      unfold compL at hrest
      split at hrest
      · rename_i ht1
        split at hrest
        · rename_i e k he1
          split at hrest
          · rename_i hk1
            cases q : compL fs ft fe (xs.drop (i + 1)) with
            | none => rw [q] at hrest; cases hrest
            | some rest' =>
              rw [q] at hrest; cases hrest
              refine wpAny_mono (ht.run okC (s := { s₂ with heap := h₅, toks := tk₄ + 1 }) RC ht1) (fun r s₆ h₆ => ?_) fun _ _ f => f
              obtain ⟨K₆, rfl⟩ := h₆
              rw [if_pos rfl]
              have RC₆ := RC.keeps K₆.kp
              refine wpAny_mono (he.run okC RC₆ he1) (fun y s₇ h₇ => ?_) fun _ _ f => f.elim
              obtain ⟨K₇, ry⟩ := h₇
              have ry' := ry.free RC₆.low hk1
              have K₇' := (K₆.trans K₇).strict
              obtain ⟨H₇, tk₇, rfl, kp₇⟩ := K₇'
              have hl₇ := hl₅.keeps kp₇
              have hsz := LstAt.size (h := h₅) (a := s₂.heap.objs.size) hes₅
              have hlen : es.length + 1 ≤ n := by
                have h1 := compL_length e3
                rw [← hds, List.length_append, List.length_cons] at h1
                omega
              refine wpAny_list_append_plain (hsz := hl₇.2) (show Heap.PlainList H₇ _ _ from hl₇.1) fun H₈ hl₈ hs₈ => ?_
              refine ⟨n + 1 - (i + 1), by omega, H₈, _, _, ys.push y, i + 1, es ++ [e], rest', hlt, ?_, ⟨hl₈, by rw [Array.size_push, hsz]; exact Nat.le_trans hlen hz⟩, (hn₅.keeps kp₇).sameBut hs₈ (Ne.symm hDC), ?_, ?_, q, by rw [List.append_assoc]; exact hds⟩
              · exact W.frame _ _ _ hT₅ fun b hb o e => hs₈.extBut b o (fun h => hDf (h ▸ hb)) (kp₇ b o e)
              · exact fun b o h1 h2 h3 e => hs₈.extBut b o h3 (kp₇ b o (hkk b o h1 h2 h3 e))
              · rw [Array.toList_push]
                exact ((hes₅.keeps kp₇).append (.cons ry' .nil)).move fun b o nb e => ⟨hs₈.extBut b o (fun q => nb (by simp [q])) e, nb⟩
          · cases hrest
        · cases hrest
      · rename_i ht1
        refine wpAny_mono (ht.run okC (s := { s₂ with heap := h₅, toks := tk₄ + 1 }) RC ht1) (fun r s₆ h₆ => ?_) fun _ _ f => f
        obtain ⟨K₆, rfl⟩ := h₆
        rw [if_neg Bool.false_ne_true]
        obtain ⟨H₆, tk₆, rfl, kp₆⟩ := K₆.strict
        exact ⟨n + 1 - (i + 1), by omega, H₆, _, _, ys, i + 1, es, rest, hlt, W.frame _ _ _ hT₅ fun b _ o e => kp₆ b o e, hl₅.keeps kp₆, hn₅.keeps kp₆, fun b o h1 h2 h3 e => kp₆ b o (hkk b o h1 h2 h3 e), hes₅.keeps kp₆, hrest, hds⟩
      · cases hrest
    · have hin' : i = n := by omega
      subst hin'
      refine W.done _ _ _ hT' fun h₄ tk₄ hk₄ => ?_
      have hnil : rest = [] := by
        rw [hn, List.drop_length] at hrest
        cases hrest; rfl
      subst hnil
      rw [List.append_nil] at hds
      subst hds
      have hl₄ : LstAt h₄ s₂.heap.objs.size ys := let ⟨⟨q, e⟩, z⟩ := hl'; ⟨⟨q, hk₄ _ _ hDw e⟩, z⟩
      refine hQ s₂.heap.objs.size H2.objs.size { s₂ with heap := h₄, toks := tk₄ } m' ys (K₁.trans (.of ⟨h₄, tk₄, ?_, fun b o e => ?_⟩)) (gone K₂'.kp (fresh _ (Nat.le_refl _))) (gone K₂'.kp (fresh _ (by rw [hC]; exact Nat.le_succ _))) hDC (hn'.at' fun o e => hk₄ _ o hCw e) hl₄ ?_
      · obtain ⟨_, _, rfl, _⟩ := K₂; rfl
      · have e2 := kp₂ b o e
        have hb := below b (Heap.lt_size e2)
        have hw : b ∉ wr := fun hw => by rw [hwr b hw] at e; cases e
        exact hk₄ b o hw (hk' b o hb.1 hw hb.2 e2)
      · exact hes.move fun b o nb e => ⟨hk₄ b o (fun q => nb (by simp [q])) e, fun q => nb (by
          rcases List.mem_cons.mp q with q | q
          · simp [q]
          rcases List.mem_cons.mp q with q | q
          · simp [q]
          · simp [q])⟩
  exact codeAny_compStart_list (loop _ rfl) (W.self 0 _ _ _ hT₁ (loop _ rfl))

theorem ev_comp {elt iter : Expr} {x : Str} {px : Pos} {ifs : List Expr} {scope : Scope} {pos : Pos} {is : List Nat} {fi : XI} {ft : St → Option Bool} {fe : XE} (co : CompOk c scope x) (hi : ItS c iter fi) (hix : HasIdxs c.ns (freeNames scope.names) is)
    (ht : TestsS (compCx c scope x) ifs ft) (he : EvS (compCx c scope x) elt fe) (hs : ∀ env v, foldedSetIterable iter env v = pure v := by intro _ _; rfl) :
    EvS c (.ListComp elt [⟨.Name x px, iter, ifs, 0⟩] scope pos) (compX is fi ft fe) := .mk fun {A env} ok O s σ R d k h => by
  unfold compX at h
  split at h
  · rename_i xs kk fs e1 e2
    cases e3 : compL fs ft fe xs with
    | none => rw [e3] at h; cases h
    | some ds =>
      rw [e3] at h; cases h
      rw [eval_ListComp]
      refine comp_core co hi hix ht he hs ok R e1 e2 e3 (use := none) fun D C s' m ys K hD hC hDC hn hl ra => ?_
      refine ⟨m, hn, fun h₅ hs₅ => ?_⟩
      have hl₅ : LstAt h₅ D ys := let ⟨⟨q, e⟩, z⟩ := hl; ⟨⟨q, hs₅.extBut _ _ hDC e⟩, z⟩
      refine ⟨K.but hC hs₅.extBut, D, _, ys, rfl, rfl, hD, hl₅, ?_⟩
      · exact ra.move fun b o nb e => ⟨hs₅.extBut b o (fun q => nb (by simp [q])) e, fun q => nb (by
          rcases List.mem_cons.mp q with q | q
          · simp [q]
          · simp [q])⟩
  · cases h
end
end Mine

set_option Elab.async false
set_option linter.unusedVariables false
set_option autoImplicit false
open PySem
namespace Mine

structure FrameIs (env : Env) (hb h : Heap) (vals : Str → Option Value) : Prop where
  ns : ∃ m, h.Ns env.locals m ∧ ∀ x, env.kindOf x = some .local → m x = vals x
  cell : ∀ x, env.kindOf x = some .cell → ∃ a, env.cells.lookup x = some a ∧ h.IsCell a (vals x)
  newL : hb.get? env.locals = none
  newC : ∀ x a, env.cells.lookup x = some a → hb.get? a = none
  inj : ∀ x y a, env.cells.lookup x = some a → env.cells.lookup y = some a → x = y

noncomputable def FrAddr (env : Env) (b : Addr) : Prop := b = env.locals ∨ ∃ x, env.kindOf x = some .cell ∧ env.cells.lookup x = some b

theorem FrameIs.notSeq {env : Env} {hb h : Heap} {vals : Str → Option Value} (F : FrameIs env hb h vals) {b : Addr} {o : Obj} (e : h.get? b = some o) (s : IsSeq o) : ¬ FrAddr env b := by
  obtain ⟨vs, n, hs⟩ := s
  rintro (rfl | ⟨x, hk, hx⟩)
  · obtain ⟨m, ⟨o', es, ep, e', d, _⟩, _⟩ := F.ns
    rw [e] at e'; cases e'; rw [hs] at d; cases d
  · obtain ⟨a, ha, o', e', d⟩ := F.cell x hk
    rw [hx] at ha; cases ha
    rw [e] at e'; cases e'; rw [hs] at d; cases d
theorem FrameIs.keeps {env : Env} {hb h h' : Heap} {vals : Str → Option Value} (F : FrameIs env hb h vals) (k : ∀ b o, FrAddr env b → h.get? b = some o → h'.get? b = some o) : FrameIs env hb h' vals where
  ns := by
    obtain ⟨m, hn, q⟩ := F.ns
    exact ⟨m, hn.at' fun o e => k _ o (.inl rfl) e, q⟩
  cell := fun x hx => by
    obtain ⟨a, ha, o, e, d⟩ := F.cell x hx
    exact ⟨a, ha, o, k _ o (.inr ⟨x, hx, ha⟩) e, d⟩
  newL := F.newL
  newC := F.newC
  inj := F.inj

/-- the store of a name -/
theorem FrameIs.store {M : Model} {A : Around} {E : Value → Shared → Prop} {env : Env} {hb : Heap} {s : Shared} {vals : Str → Option Value} (F : FrameIs env hb s.heap vals) (hk : env.scope.kind = .function) {x : Str} {v : Value}
    (hx : env.kindOf x = some .local ∨ env.kindOf x = some .cell) {Q : Unit → Shared → Prop}
    (h : ∀ h' tk, FrameIs env hb h' (fun y => if y = x then some v else vals y) → (∀ b, ¬ FrAddr env b → h'.get? b = s.heap.get? b) → Q () { s with heap := h', toks := tk }) : wpAny M A (storeName env x v) Q E s := by
  have hp : (env.scope.kind == .class || (env.scope.kind == .module && env.locals != env.globals)) = false := by rw [hk]; rfl
  obtain ⟨m, hn, hm⟩ := F.ns
  have hLC : ∀ y a, env.kindOf y = some .cell → env.cells.lookup y = some a → a ≠ env.locals := fun y a hy ha e => by
    obtain ⟨a', ha', o, e1, d⟩ := F.cell y hy
    rw [ha] at ha'; cases ha'
    obtain ⟨o', es, ep, e2, d', _⟩ := hn
    rw [e, e2] at e1; cases e1; rw [d'] at d; cases d
  rcases hx with hx | hx
  · refine wpAny_storeName_local hx hn (fun h' hn' hs' => h h' _ ⟨⟨_, hn', fun y hy => ?_⟩, fun y hy => ?_, F.newL, F.newC, F.inj⟩ fun b hb => hs'.2 b fun e => hb (.inl e)) hp
    · by_cases e : y = x
      · subst e; simp
      · simp only [e, if_false]; exact hm y hy
    · obtain ⟨a, ha, hc⟩ := F.cell y hy
      have e : y ≠ x := fun e => by subst e; rw [hx] at hy; cases hy
      simp only [e, if_false]
      exact ⟨a, ha, hc.sameBut hs' (hLC y a hy ha)⟩
  · obtain ⟨a, ha, hc⟩ := F.cell x hx
    refine wpAny_storeName_cell hk hx ha hc fun h' hc' hs' => h h' _ ⟨⟨m, hn.sameBut hs' (Ne.symm (hLC x a hx ha)), fun y hy => ?_⟩, fun y hy => ?_, F.newL, F.newC, F.inj⟩ fun b hb => hs'.2 b fun e => hb (.inr ⟨x, hx, e ▸ ha⟩)
    · have e : y ≠ x := fun e => by subst e; rw [hx] at hy; cases hy
      simp only [e, if_false]; exact hm y hy
    · by_cases e : y = x
      · subst e; simp only [if_true]; exact ⟨a, ha, hc'⟩
      · simp only [e, if_false]
        obtain ⟨a', ha', hc2⟩ := F.cell y hy
        exact ⟨a', ha', hc2.sameBut hs' fun e2 => e (F.inj _ _ a (e2 ▸ ha') ha)⟩

theorem Own1.move {O O' : List Addr} {h h' : Heap} {a : Addr} {xs : List PyData} (hk : ∀ b o, b ∉ O → h.get? b = some o → IsSeq o → h'.get? b = some o ∧ b ∉ O') (ho : a ∈ O' ∧ ∀ o, h.get? a = some o → IsSeq o → h'.get? a = some o) (w : Own1 O h a xs) : Own1 O' h' a xs :=
  let ⟨_, vs, ⟨⟨n, e⟩, z⟩, r⟩ := w; ⟨ho.1, vs, ⟨⟨n, ho.2 _ e ⟨_, _, rfl⟩⟩, z⟩, r.moveS hk⟩
theorem Own1s.move {O O' : List Addr} {h h' : Heap} (hk : ∀ b o, b ∉ O → h.get? b = some o → IsSeq o → h'.get? b = some o ∧ b ∉ O') : ∀ {vs : List Value} {ds : List PyData} {as : List Addr}, (∀ a ∈ as, a ∈ O' ∧ ∀ o, h.get? a = some o → IsSeq o → h'.get? a = some o) → Own1s O h vs ds as → Own1s O' h' vs ds as := by
  intro vs ds as ho w
  induction w with
  | nil => exact .nil
  | cons w _ ih => exact .cons (w.move hk (ho _ List.mem_cons_self)) (ih fun a ha => ho a (List.mem_cons_of_mem _ ha))
theorem ValOk.move {O O' : List Addr} {h h' : Heap} {v : Value} {d : PyData} (hk : ∀ b o, b ∉ O → h.get? b = some o → IsSeq o → h'.get? b = some o ∧ b ∉ O') : ∀ {k : Nat} {os : List Addr}, (∀ a ∈ os, a ∈ O' ∧ ∀ o, h.get? a = some o → IsSeq o → h'.get? a = some o) → ValOk O h v d k os → ValOk O' h' v d k os
  | 0, _, _, w => ⟨w.1, w.2.moveS hk⟩
  | 1, _, ho, w => by obtain ⟨a, xs, e1, e2, e3, w⟩ := w; exact ⟨a, xs, e1, e2, e3, w.move hk (ho a (by rw [e3]; exact List.mem_cons_self))⟩
  | 2, _, ho, w => by
    obtain ⟨a, xs, vs, as, e1, e2, e3, m, ⟨⟨n, e⟩, z⟩, w⟩ := w
    subst e3
    have h1 := ho a List.mem_cons_self
    exact ⟨a, xs, vs, as, e1, e2, rfl, h1.1, ⟨⟨n, h1.2 _ e ⟨_, _, rfl⟩⟩, z⟩, w.move hk fun b hb => ho b (List.mem_cons_of_mem _ hb)⟩

structure RelS (c : Cx) (env : Env) (hb : Heap) (Oo : List Addr) (os : List (List Addr)) (h : Heap) (σ : St) : Prop where
  top : Kp c.b.top h
  keep : Kp hb h
  low : ∀ a ∈ os.flatten, ∃ o, h.get? a = some o ∧ IsSeq o
  own : ∀ a ∈ os.flatten, hb.get? a = none
  nodup : os.flatten.Nodup
  olow : ∀ a ∈ Oo, ∃ o, h.get? a = some o
  odis : ∀ a ∈ Oo, a ∉ os.flatten
  ofr : ∀ a ∈ Oo, ¬ FrAddr env a
  ooff : ∀ a ∈ Oo, c.b.top.get? a = none
  htop : Kp c.b.top hb
  lenS : σ.length = c.ns.length
  lenO : os.length = c.ns.length
  fr : ∃ vals, FrameIs env hb h vals ∧ ∀ (i : Nat) (x : Str) (d : PyData) (k : Nat), c.ns[i]? = some x → σ[i]? = some (some (d, k)) → ∃ v, vals x = some v ∧ ValOk (os.flatten ++ Oo) h v d k (os.getD i [])

/-- the names of a def: all its own, no two alike -/
structure NsOk (c : Cx) : Prop where
  kinds : ∀ x ∈ c.ns, c.scope.names.lookup x = some .local ∨ c.scope.names.lookup x = some .cell
  nodup : c.ns.Nodup

section
variable {c : Cx}

theorem RelS.rel {A : Around} {env : Env} {hb h : Heap} {Oo : List Addr} {os : List (List Addr)} {σ : St} (nk : NsOk c) (ok : EnvOk c A env) (r : RelS c env hb Oo os h σ) : Rel c env (os.flatten ++ Oo) h σ where
  top := r.top
  low := fun a ha => by
    rcases List.mem_append.mp ha with ha | ha
    · obtain ⟨o, e, _⟩ := r.low a ha; exact ⟨o, e⟩
    · exact r.olow a ha
  off := fun a ha => by
    rcases List.mem_append.mp ha with ha | ha
    · exact gone r.htop (r.own a ha)
    · exact r.ooff a ha
  var := fun i x d k h1 h2 => by
    obtain ⟨vals, F, q⟩ := r.fr
    obtain ⟨v, hv, w⟩ := q i x d k h1 h2
    refine ⟨v, _, ?_, w⟩
    rcases nk.kinds x (List.mem_of_getElem? h1) with e | e
    · have e' : env.kindOf x = some .local := by show env.scope.names.lookup x = _; rw [ok.scope]; exact e
      obtain ⟨m, hn, hm⟩ := F.ns
      exact .inl ⟨e', m, hn, by rw [hm x e', hv]⟩
    · have e' : env.kindOf x = some .cell := by show env.scope.names.lookup x = _; rw [ok.scope]; exact e
      obtain ⟨a, ha, hc⟩ := F.cell x e'
      exact .inr ⟨e', a, ha, hv ▸ hc⟩

theorem RelS.keeps {env : Env} {hb h h' : Heap} {Oo : List Addr} {os : List (List Addr)} {σ : St} (r : RelS c env hb Oo os h σ) (k : Kp h h') : RelS c env hb Oo os h' σ where
  top := fun b o e => k _ _ (r.top b o e)
  keep := fun b o e => k _ _ (r.keep b o e)
  low := fun a ha => let ⟨o, e, q⟩ := r.low a ha; ⟨o, k _ _ e, q⟩
  own := r.own
  nodup := r.nodup
  olow := fun a ha => let ⟨o, e⟩ := r.olow a ha; ⟨o, k _ _ e⟩
  odis := r.odis
  ofr := r.ofr
  ooff := r.ooff
  htop := r.htop
  lenS := r.lenS
  lenO := r.lenO
  fr := by
    obtain ⟨vals, F, q⟩ := r.fr
    refine ⟨vals, F.keeps fun b o _ e => k b o e, fun i x d j h1 h2 => ?_⟩
    obtain ⟨v, hv, w⟩ := q i x d j h1 h2
    exact ⟨v, hv, w.keeps k⟩

theorem mem_set_flatten {os : List (List Addr)} {i : Nat} {l : List Addr} {a : Addr} (h : a ∈ (os.set i l).flatten) : a ∈ l ∨ ∃ j, j ≠ i ∧ a ∈ os.getD j [] := by
  obtain ⟨m, hm, ha⟩ := List.mem_flatten.mp h
  obtain ⟨j, hj⟩ := List.getElem?_of_mem hm
  rw [List.getElem?_set] at hj
  split at hj
  · split at hj
    · cases hj; exact .inl ha
    · cases hj
  · rename_i hne
    exact .inr ⟨j, fun e => hne e.symm, by rw [List.getD_eq_getElem?_getD, hj]; exact ha⟩
theorem mem_getD_flatten {os : List (List Addr)} {i : Nat} {a : Addr} (h : a ∈ os.getD i []) : a ∈ os.flatten := by
  rw [List.getD_eq_getElem?_getD] at h
  cases q : os[i]? with
  | none => rw [q] at h; cases h
  | some l => rw [q] at h; exact List.mem_flatten.mpr ⟨l, List.mem_of_getElem? q, h⟩
theorem mem_flatten_set {os : List (List Addr)} {i j : Nat} {l : List Addr} {a : Addr} (hij : j ≠ i) (h : a ∈ os.getD j []) : a ∈ (os.set i l).flatten := by
  rw [List.getD_eq_getElem?_getD] at h
  cases q : os[j]? with
  | none => rw [q] at h; cases h
  | some m => rw [q] at h; exact List.mem_flatten.mpr ⟨m, List.mem_of_getElem? (i := j) (by rw [List.getElem?_set_ne (Ne.symm hij)]; exact q), h⟩
theorem getD_set_ne {os : List (List Addr)} {i j : Nat} {l : List Addr} (hij : j ≠ i) : (os.set i l).getD j [] = os.getD j [] := by
  rw [List.getD_eq_getElem?_getD, List.getD_eq_getElem?_getD, List.getElem?_set_ne (Ne.symm hij)]
theorem nodup_apart : ∀ {os : List (List Addr)} {i j : Nat} {a : Addr}, os.flatten.Nodup → a ∈ os.getD i [] → a ∈ os.getD j [] → i = j
  | [], i, j, a, _, h, _ => by rw [List.getD_eq_getElem?_getD] at h; simp at h
  | l :: os, 0, 0, a, _, _, _ => rfl
  | l :: os, 0, j + 1, a, n, h, h' => by
    rw [List.flatten_cons, List.nodup_append] at n
    exact absurd rfl (n.2.2 a (by simpa using h) a (mem_getD_flatten (os := os) (i := j) (by simpa using h')))
  | l :: os, i + 1, 0, a, n, h, h' => by
    rw [List.flatten_cons, List.nodup_append] at n
    exact absurd rfl (n.2.2 a (by simpa using h') a (mem_getD_flatten (os := os) (i := i) (by simpa using h)))
  | l :: os, i + 1, j + 1, a, n, h, h' => by
    rw [List.flatten_cons, List.nodup_append] at n
    exact congrArg (· + 1) (nodup_apart (os := os) (i := i) (j := j) (a := a) n.2.1 (by simpa using h) (by simpa using h'))
theorem nodup_set : ∀ {os : List (List Addr)} {i : Nat} {l : List Addr}, os.flatten.Nodup → l.Nodup → (∀ a ∈ l, ∀ j, j ≠ i → a ∉ os.getD j []) → (os.set i l).flatten.Nodup
  | [], _, _, n, _, _ => n
  | m :: os, 0, l, n, hl, h => by
    rw [List.flatten_cons, List.nodup_append] at n
    rw [List.set_cons_zero, List.flatten_cons, List.nodup_append]
    refine ⟨hl, n.2.1, fun a ha b hb e => ?_⟩
    subst e
    obtain ⟨q, hq, hm⟩ := List.mem_flatten.mp hb
    obtain ⟨j, hj⟩ := List.getElem?_of_mem hq
    exact h a ha (j + 1) (by omega) (by rw [List.getD_eq_getElem?_getD]; simp [hj, hm])
  | m :: os, i + 1, l, n, hl, h => by
    rw [List.flatten_cons, List.nodup_append] at n
    rw [List.set_cons_succ, List.flatten_cons, List.nodup_append]
    refine ⟨n.1, nodup_set n.2.1 hl fun a ha j hj => ?_, fun a ha b hb e => ?_⟩
    · have := h a ha (j + 1) (by omega)
      simpa using this
    · subst e
      rcases mem_set_flatten hb with hb | ⟨j, _, hb⟩
      · exact h a hb 0 (by omega) (by simpa using ha)
      · exact n.2.2 a ha a (mem_getD_flatten hb) rfl

/-- the one step: the frame may turn, slot i gets a new value; the rest stands -/
theorem RelS.step {env : Env} {hb h h' : Heap} {Oo : List Addr} {os : List (List Addr)} {σ : St} (r : RelS c env hb Oo os h σ) {vals vals' : Str → Option Value} (F : FrameIs env hb h vals)
    (q : ∀ (i : Nat) (x : Str) (d : PyData) (k : Nat), c.ns[i]? = some x → σ[i]? = some (some (d, k)) → ∃ v, vals x = some v ∧ ValOk (os.flatten ++ Oo) h v d k (os.getD i []))
    (F' : FrameIs env hb h' vals') {i : Nat} {xi : Str} (hxi : c.ns[i]? = some xi) (hv : ∀ y, y ≠ xi → vals' y = vals y) (nd : c.ns.Nodup) {sl : Option (PyData × Nat)} {l : List Addr}
    (hl : l.Nodup) (hnew : ∀ a ∈ l, a ∈ os.getD i [] ∨ h.get? a = none) (hold : ∀ a ∈ l, ∃ o, h'.get? a = some o ∧ IsSeq o)
    (hk : ∀ b o, b ∉ os.getD i [] → ¬ FrAddr env b → h.get? b = some o → h'.get? b = some o) (hkeep : Kp hb h')
    (hval : ∀ d k, sl = some (d, k) → ∃ v, vals' xi = some v ∧ ValOk ((os.set i l).flatten ++ Oo) h' v d k l) :
    RelS c env hb Oo (os.set i l) h' (σ.set i sl) := by
  have hnewb : ∀ a ∈ l, hb.get? a = none := fun a ha => (hnew a ha).elim (fun m => r.own a (mem_getD_flatten m)) fun e => gone r.keep e
  have hO : ∀ b, b ∈ (os.set i l).flatten ++ Oo → b ∈ os.flatten ++ Oo ∨ h.get? b = none := fun b hb' => by
    rcases List.mem_append.mp hb' with hb' | hb'
    · rcases mem_set_flatten hb' with hb' | ⟨j, _, hb'⟩
      · exact (hnew b hb').imp (fun m => List.mem_append_left _ (mem_getD_flatten m)) id
      · exact .inl (List.mem_append_left _ (mem_getD_flatten hb'))
    · exact .inl (List.mem_append_right _ hb')
  refine ⟨fun b o e => hkeep _ _ (r.htop b o e), hkeep, fun a ha => ?_, fun a ha => ?_, nodup_set r.nodup hl fun a ha j hj hm => ?_, fun a ha => ?_, fun a ha hm => ?_, r.ofr, r.ooff, r.htop, by rw [List.length_set]; exact r.lenS, by rw [List.length_set]; exact r.lenO, vals', F', fun j x d k h1 h2 => ?_⟩
  · rcases mem_set_flatten ha with ha | ⟨j, hj, ha⟩
    · exact hold a ha
    · obtain ⟨o, e, q⟩ := r.low a (mem_getD_flatten ha)
      exact ⟨o, hk a o (fun m => hj (nodup_apart r.nodup ha m)) (F.notSeq e q) e, q⟩
  · rcases mem_set_flatten ha with ha | ⟨j, hj, ha⟩
    · exact hnewb a ha
    · exact r.own a (mem_getD_flatten ha)
  · rcases hnew a ha with m | e
    · exact hj (nodup_apart r.nodup hm m)
    · obtain ⟨o, e', _⟩ := r.low a (mem_getD_flatten hm); rw [e] at e'; cases e'
  · obtain ⟨o, e⟩ := r.olow a ha
    exact ⟨o, hk a o (fun m => r.odis a ha (mem_getD_flatten m)) (r.ofr a ha) e⟩
  · rcases mem_set_flatten hm with m | ⟨j, _, m⟩
    · rcases hnew a m with m | e
      · exact r.odis a ha (mem_getD_flatten m)
      · obtain ⟨o, e'⟩ := r.olow a ha; rw [e] at e'; cases e'
    · exact r.odis a ha (mem_getD_flatten m)
  · by_cases hij : j = i
    · subst hij
      rw [hxi] at h1; cases h1
      have hlt : j < σ.length := by
        rcases Nat.lt_or_ge j σ.length with h | h
        · exact h
        · rw [List.getElem?_eq_none (by rw [List.length_set]; exact h)] at h2; cases h2
      rw [List.getElem?_set_self hlt] at h2
      cases h2
      obtain ⟨v, e1, w⟩ := hval d k rfl
      have hlo : j < os.length := by rw [r.lenO, ← r.lenS]; exact hlt
      exact ⟨v, e1, by rw [List.getD_eq_getElem?_getD, List.getElem?_set_self hlo]; exact w⟩
    · rw [List.getElem?_set_ne (Ne.symm hij)] at h2
      obtain ⟨v, e1, w⟩ := q j x d k h1 h2
      have hne : x ≠ xi := fun e => by
        subst e
        exact hij ((List.getElem?_inj (List.getElem?_eq_some_iff.mp h1).1 nd).mp (h1.trans hxi.symm))
      refine ⟨v, by rw [hv x hne]; exact e1, ?_⟩
      rw [getD_set_ne hij]
      refine w.move (fun b o nb e sq => ⟨hk b o (fun m => nb (List.mem_append_left _ (mem_getD_flatten m))) (F.notSeq e sq) e, fun m => ?_⟩) fun a ha => ⟨List.mem_append_left _ (mem_flatten_set hij ha), fun o e sq => hk a o (fun m => hij (nodup_apart r.nodup ha m)) (F.notSeq e sq) e⟩
      rcases hO b m with m | m
      · exact nb m
      · rw [m] at e; cases e

/-- more is barred: new objects of another's -/
theorem RelS.bar {env : Env} {hb h h' : Heap} {Oo wr : List Addr} {os : List (List Addr)} {σ : St} (r : RelS c env hb Oo os h σ) (hw : ∀ a ∈ wr, h.get? a = none) (k : Kp h h') (hw' : ∀ a ∈ wr, ∃ o, h'.get? a = some o) : RelS c env hb (wr ++ Oo) os h' σ := by
  obtain ⟨vals, F, q⟩ := r.fr
  have hO : ∀ a ∈ os.flatten ++ (wr ++ Oo), a ∈ os.flatten ++ Oo ∨ h.get? a = none := fun a ha => by
    rcases List.mem_append.mp ha with m | m
    · exact .inl (List.mem_append_left _ m)
    · rcases List.mem_append.mp m with m | m
      · exact .inr (hw a m)
      · exact .inl (List.mem_append_right _ m)
  have r' := r.keeps k
  refine ⟨r'.top, r'.keep, r'.low, r'.own, r'.nodup, fun a ha => ?_, fun a ha m => ?_, fun a ha fa => ?_, fun a ha => ?_, r.htop, r.lenS, r.lenO, vals, F.keeps fun b o _ e => k b o e, fun i x d j h1 h2 => ?_⟩
  · rcases List.mem_append.mp ha with m | m
    · exact hw' a m
    · exact r'.olow a m
  · rcases List.mem_append.mp ha with m' | m'
    · obtain ⟨o, e, _⟩ := r.low a m; rw [hw a m'] at e; cases e
    · exact r.odis a m' m
  · rcases List.mem_append.mp ha with m' | m'
    · have e := hw a m'
      rcases fa with rfl | ⟨y, hy, hc⟩
      · obtain ⟨m, ⟨o, _, _, e', _⟩, _⟩ := F.ns; rw [e] at e'; cases e'
      · obtain ⟨a', ha', o, e', _⟩ := F.cell y hy
        rw [hc] at ha'; cases ha'; rw [e] at e'; cases e'
    · exact r.ofr a m' fa
  · rcases List.mem_append.mp ha with m | m
    · exact gone r.top (hw a m)
    · exact r.ooff a m
  · obtain ⟨v, hv, w⟩ := q i x d j h1 h2
    refine ⟨v, hv, (w.more (fun a ha => ?_) hO).keeps k⟩
    rcases List.mem_append.mp ha with m | m
    · exact List.mem_append_left _ m
    · exact List.mem_append_right _ (List.mem_append_right _ m)
theorem RelS.unbar {env : Env} {hb h : Heap} {Oo wr : List Addr} {os : List (List Addr)} {σ : St} (r : RelS c env hb (wr ++ Oo) os h σ) : RelS c env hb Oo os h σ := by
  obtain ⟨vals, F, q⟩ := r.fr
  refine ⟨r.top, r.keep, r.low, r.own, r.nodup, fun a ha => r.olow a (List.mem_append_right _ ha), fun a ha => r.odis a (List.mem_append_right _ ha), fun a ha => r.ofr a (List.mem_append_right _ ha), fun a ha => r.ooff a (List.mem_append_right _ ha), r.htop, r.lenS, r.lenO, vals, F, fun i x d j h1 h2 => ?_⟩
  obtain ⟨v, hv, w⟩ := q i x d j h1 h2
  refine ⟨v, hv, w.move (fun b o nb e _ => ⟨e, fun m => nb ?_⟩) fun a ha => ⟨List.mem_append_left _ (mem_getD_flatten ha), fun o e _ => e⟩⟩
  rcases List.mem_append.mp m with m | m
  · exact List.mem_append_left _ m
  · exact List.mem_append_right _ (List.mem_append_right _ m)
/-- the barred objects may turn -/
theorem RelS.turn {env : Env} {hb h h' : Heap} {Oo wr : List Addr} {os : List (List Addr)} {σ : St} (r : RelS c env hb (wr ++ Oo) os h σ) (hwb : ∀ a ∈ wr, hb.get? a = none) (k : ∀ b o, b ∉ wr → h.get? b = some o → h'.get? b = some o)
    (hw' : ∀ a ∈ wr, ∃ o, h'.get? a = some o) : RelS c env hb (wr ++ Oo) os h' σ := by
  obtain ⟨vals, F, q⟩ := r.fr
  have nw : ∀ b, (∃ o, hb.get? b = some o) → b ∉ wr := fun b ⟨o, e⟩ m => by rw [hwb b m] at e; cases e
  have keep : Kp hb h' := fun b o e => k b o (nw b ⟨o, e⟩) (r.keep b o e)
  have ow : ∀ a ∈ os.flatten, a ∉ wr := fun a ha m => r.odis a (List.mem_append_left _ m) ha
  refine ⟨fun b o e => keep _ _ (r.htop b o e), keep, fun a ha => ?_, r.own, r.nodup, fun a ha => ?_, r.odis, r.ofr, r.ooff, r.htop, r.lenS, r.lenO, vals, F.keeps fun b o fa e => k b o (fun m => r.ofr b (List.mem_append_left _ m) fa) e, fun i x d j h1 h2 => ?_⟩
  · obtain ⟨o, e, sq⟩ := r.low a ha; exact ⟨o, k a o (ow a ha) e, sq⟩
  · by_cases m : a ∈ wr
    · exact hw' a m
    · obtain ⟨o, e⟩ := r.olow a ha; exact ⟨o, k a o m e⟩
  · obtain ⟨v, hv, w⟩ := q i x d j h1 h2
    exact ⟨v, hv, w.move (fun b o nb e _ => ⟨k b o (fun m => nb (List.mem_append_right _ (List.mem_append_left _ m))) e, nb⟩) fun a ha => ⟨List.mem_append_left _ (mem_getD_flatten ha), fun o e _ => k a o (ow a (mem_getD_flatten ha)) e⟩⟩
theorem RelS.leave {env : Env} {hb h h' : Heap} {Oo wr : List Addr} {os : List (List Addr)} {σ : St} (r : RelS c env hb (wr ++ Oo) os h σ) (hwb : ∀ a ∈ wr, hb.get? a = none) (hwo : ∀ a ∈ wr, a ∉ Oo) (k : ∀ b o, b ∉ wr → h.get? b = some o → h'.get? b = some o) : RelS c env hb Oo os h' σ := by
  obtain ⟨vals, F, q⟩ := r.fr
  have nw : ∀ b, (∃ o, hb.get? b = some o) → b ∉ wr := fun b ⟨o, e⟩ m => by rw [hwb b m] at e; cases e
  have keep : Kp hb h' := fun b o e => k b o (nw b ⟨o, e⟩) (r.keep b o e)
  have ow : ∀ a ∈ os.flatten, a ∉ wr := fun a ha m => r.odis a (List.mem_append_left _ m) ha
  refine ⟨fun b o e => keep _ _ (r.htop b o e), keep, fun a ha => ?_, r.own, r.nodup, fun a ha => ?_, fun a ha => r.odis a (List.mem_append_right _ ha), fun a ha => r.ofr a (List.mem_append_right _ ha), fun a ha => r.ooff a (List.mem_append_right _ ha), r.htop, r.lenS, r.lenO, vals, F.keeps fun b o fa e => k b o (fun m => r.ofr b (List.mem_append_left _ m) fa) e, fun i x d j h1 h2 => ?_⟩
  · obtain ⟨o, e, sq⟩ := r.low a ha; exact ⟨o, k a o (ow a ha) e, sq⟩
  · obtain ⟨o, e⟩ := r.olow a (List.mem_append_right _ ha); exact ⟨o, k a o (fun m => hwo a m ha) e⟩
  · obtain ⟨v, hv, w⟩ := q i x d j h1 h2
    refine ⟨v, hv, w.move (fun b o nb e _ => ⟨k b o (fun m => nb (List.mem_append_right _ (List.mem_append_left _ m))) e, fun m => nb ?_⟩) fun a ha => ⟨List.mem_append_left _ (mem_getD_flatten ha), fun o e _ => k a o (ow a (mem_getD_flatten ha)) e⟩⟩
    rcases List.mem_append.mp m with m | m
    · exact List.mem_append_left _ m
    · exact List.mem_append_right _ (List.mem_append_right _ m)
end
end Mine

set_option Elab.async false
set_option linter.unusedVariables false
set_option autoImplicit false
open PySem
namespace Mine

inductive Fl
  | next | brk | cont
  | ret (d : PyData)
abbrev XS := St → Option (Fl × St)

noncomputable def FlOk (Oo : List Addr) (h : Heap) : Fl → Flow → Prop
  | .next, .next => True
  | .brk, .brk => True
  | .cont, .cont => True
  | .ret d, .ret v => Rep Oo h v d
  | _, _ => False

noncomputable def Sm (gn : Bool) (s s' : Shared) : Prop :=
  ∃ h' tk gs, s' = { s with heap := h', toks := tk, gens := gs } ∧ (gn = false → gs = s.gens) ∧ ∀ (i : Nat) (x : GenState), s.gens[i]? = some x → gs[i]? = some x
theorem Sm.refl (gn : Bool) (s : Shared) : Sm gn s s := ⟨s.heap, s.toks, s.gens, rfl, fun _ => rfl, fun _ _ e => e⟩
theorem Sm.trans {gn : Bool} {s s' s'' : Shared} (x : Sm gn s s') (y : Sm gn s' s'') : Sm gn s s'' := by
  obtain ⟨h1, t1, g1, rfl, e1, f1⟩ := x
  obtain ⟨h2, t2, g2, rfl, e2, f2⟩ := y
  exact ⟨h2, t2, g2, rfl, fun e => (e2 e).trans (e1 e), fun i x e => f2 _ _ (f1 _ _ e)⟩
theorem Kps.sm {gn : Bool} {s s' : Shared} (x : Kps gn s s') : Sm gn s s' := let ⟨h, t, g, e, _, a, b⟩ := x; ⟨h, t, g, e, a, b⟩
theorem Sm.heap {gn : Bool} {s s' : Shared} (x : Sm gn s s') (h : Heap) (t : Nat) : Sm gn s { s' with heap := h, toks := t } := x.trans ⟨h, t, s'.gens, rfl, fun _ => rfl, fun _ _ e => e⟩

noncomputable def Mod (env : Env) (os : List (List Addr)) (h h' : Heap) : Prop := ∀ b o, b ∉ os.flatten → ¬ FrAddr env b → h.get? b = some o → h'.get? b = some o

structure Aft (c : Cx) (env : Env) (hb : Heap) (Oo : List Addr) (os : List (List Addr)) (s : Shared) (fl : Fl) (σ' : St) (f : Flow) (os' : List (List Addr)) (s' : Shared) : Prop where
  rel : RelS c env hb Oo os' s'.heap σ'
  fl : FlOk Oo s'.heap fl f
  sm : Sm c.gn s s'
  mod : Mod env os s.heap s'.heap
  sub : ∀ a ∈ os'.flatten, a ∈ os.flatten ∨ s.heap.get? a = none

structure ExS (c : Cx) (b : List Stmt) (g : XS) : Prop where
  run : ∀ {A : Around} {env : Env}, EnvOk c A env → ∀ {hb : Heap} {Oo : List Addr} {os : List (List Addr)} {s : Shared} {σ : St}, RelS c env hb Oo os s.heap σ → ∀ {fl : Fl} {σ' : St}, g σ = some (fl, σ') →
    wpAny c.M A (execs b env) (fun f s' => ∃ os', Aft c env hb Oo os s fl σ' f os' s') NoE s
structure Ex1 (c : Cx) (st : Stmt) (g : XS) : Prop where
  run : ∀ {A : Around} {env : Env}, EnvOk c A env → ∀ {hb : Heap} {Oo : List Addr} {os : List (List Addr)} {s : Shared} {σ : St}, RelS c env hb Oo os s.heap σ → ∀ {fl : Fl} {σ' : St}, g σ = some (fl, σ') →
    wpAny c.M A (exec st env) (fun f s' => ∃ os', Aft c env hb Oo os s fl σ' f os' s') NoE s

section
variable {c : Cx}

theorem Aft.then {env : Env} {hb : Heap} {Oo : List Addr} {os os1 os2 : List (List Addr)} {s s1 s2 : Shared} {fl fl1 : Fl} {σ1 σ2 : St} {f f1 : Flow} (x : Aft c env hb Oo os s fl1 σ1 f1 os1 s1) (y : Aft c env hb Oo os1 s1 fl σ2 f os2 s2) : Aft c env hb Oo os s fl σ2 f os2 s2 where
  rel := y.rel
  fl := y.fl
  sm := x.sm.trans y.sm
  mod := fun b o nb nf e => y.mod b o (fun m => (x.sub b m).elim nb fun q => by rw [q] at e; cases e) nf (x.mod b o nb nf e)
  sub := fun a ha => by
    rcases y.sub a ha with m | e
    · exact x.sub a m
    · by_cases hm : a ∈ os.flatten
      · exact .inl hm
      · cases q : s.heap.get? a with
        | none => exact .inr rfl
        | some o =>
          exfalso
          have hf : ¬ FrAddr env a := by
            obtain ⟨o2, e2, sq⟩ := y.rel.low a ha
            obtain ⟨vals, F, _⟩ := y.rel.fr
            exact F.notSeq e2 sq
          rw [x.mod a o hm hf q] at e; cases e

noncomputable def skipX : XS := fun σ => some (.next, σ)
noncomputable def seqX (f g : XS) : XS := fun σ => match f σ with
  | some (.next, σ1) => g σ1
  | r => r

theorem Aft.refl {env : Env} {hb : Heap} {Oo : List Addr} {os : List (List Addr)} {s : Shared} {σ : St} (r : RelS c env hb Oo os s.heap σ) {fl : Fl} {f : Flow} (h : FlOk Oo s.heap fl f) : Aft c env hb Oo os s fl σ f os s :=
  ⟨r, h, .refl _ _, fun _ _ _ _ e => e, fun _ h => .inl h⟩

theorem ex_nil : ExS c [] skipX := .mk fun ok hb Oo os s σ r fl σ' h => by
  cases h; exact wpAny_execs_nil ⟨os, .refl r trivial⟩

theorem ex_cons {st : Stmt} {rest : List Stmt} {f g : XS} (h1 : Ex1 c st f) (h2 : ExS c rest g) : ExS c (st :: rest) (seqX f g) := .mk fun {A env} ok hb Oo os s σ r fl σ' h => by
  refine wpAny_execs_cons ?_
  cases q : f σ with
  | none => unfold seqX at h; rw [q] at h; cases h
  | some p =>
    obtain ⟨fl1, σ1⟩ := p
    refine wpAny_mono (h1.run ok r q) (fun fw s1 a1 => ?_) fun _ _ f => f
    obtain ⟨os1, a1⟩ := a1
    unfold seqX at h
    rw [q] at h
    cases fl1 with
    | next =>
      cases fw with
      | next =>
        refine wpAny_mono (h2.run ok a1.rel h) (fun f2 s2 a2 => ?_) fun _ _ f => f
        obtain ⟨os2, a2⟩ := a2
        exact ⟨os2, a1.then a2⟩
      | brk => exact a1.fl.elim
      | cont => exact a1.fl.elim
      | ret v => exact a1.fl.elim
    | brk =>
      cases h
      cases fw with
      | brk => exact ⟨os1, a1⟩
      | next => exact a1.fl.elim
      | cont => exact a1.fl.elim
      | ret v => exact a1.fl.elim
    | cont =>
      cases h
      cases fw with
      | cont => exact ⟨os1, a1⟩
      | next => exact a1.fl.elim
      | brk => exact a1.fl.elim
      | ret v => exact a1.fl.elim
    | ret d =>
      cases h
      cases fw with
      | ret v => exact ⟨os1, a1⟩
      | next => exact a1.fl.elim
      | brk => exact a1.fl.elim
      | cont => exact a1.fl.elim
/-! a slot's lists are let free -/
noncomputable def freezeX (i : Nat) (σ : St) : St := match σ[i]? with
  | some (some (d, _)) => σ.set i (some (d, 0))
  | _ => σ
noncomputable def freezeL : List Nat → St → St
  | [], σ => σ
  | i :: is, σ => freezeL is (freezeX i σ)

theorem Own1s.freeze {O O' : List Addr} {h : Heap} (h1 : ∀ b ∈ O', b ∈ O) : ∀ {vs : List Value} {ds : List PyData} {as : List Addr}, (∀ a ∈ as, a ∉ O') → Own1s O h vs ds as → RepAll O' h vs ds := by
  intro vs ds as h2 w
  induction w with
  | nil => exact .nil
  | cons w _ ih => obtain ⟨_, _, l, r⟩ := w; exact .cons (l.rep (h2 _ List.mem_cons_self) (r.less h1)) (ih fun a ha => h2 a (List.mem_cons_of_mem _ ha))
theorem ValOk.freeze {O O' : List Addr} {h : Heap} {v : Value} {d : PyData} (h1 : ∀ b ∈ O', b ∈ O) : ∀ {k : Nat} {os : List Addr}, (∀ a ∈ os, a ∉ O') → ValOk O h v d k os → Rep O' h v d
  | 0, _, _, w => w.2.less h1
  | 1, _, h2, w => by obtain ⟨a, xs, e1, e2, e3, _, vs, l, r⟩ := w; subst e1 e2 e3; exact l.rep (h2 a List.mem_cons_self) (r.less h1)
  | 2, _, h2, w => by obtain ⟨a, xs, vs, as, e1, e2, e3, _, l, w⟩ := w; subst e1 e2 e3; exact l.rep (h2 a List.mem_cons_self) (w.freeze h1 fun a ha => h2 a (List.mem_cons_of_mem _ ha))

theorem set_flatten_sub {os : List (List Addr)} {i : Nat} {a : Addr} (h : a ∈ (os.set i []).flatten) : a ∈ os.flatten := by
  rcases mem_set_flatten h with h | ⟨j, _, h⟩
  · cases h
  · exact mem_getD_flatten h

theorem RelS.freeze1 {env : Env} {hb h : Heap} {Oo : List Addr} {os : List (List Addr)} {σ : St} (nk : NsOk c) (r : RelS c env hb Oo os h σ) (i : Nat) : ∃ os', RelS c env hb Oo os' h (freezeX i σ) ∧ ∀ a ∈ os'.flatten, a ∈ os.flatten := by
  unfold freezeX
  split
  · rename_i d k e
    obtain ⟨vals, F, q⟩ := r.fr
    have hlt : i < c.ns.length := by rw [← r.lenS]; exact (List.getElem?_eq_some_iff.mp e).1
    have hx : c.ns[i]? = some c.ns[i] := List.getElem?_eq_getElem hlt
    obtain ⟨v, hv, w⟩ := q i _ d k hx e
    refine ⟨os.set i [], r.step F q F hx (fun _ _ => rfl) nk.nodup .nil (fun a ha => nomatch ha) (fun a ha => nomatch ha) (fun b o _ _ e => e) r.keep fun d' k' e' => ?_, fun a ha => set_flatten_sub ha⟩
    cases e'
    refine ⟨v, hv, rfl, w.freeze (fun b hb' => ?_) fun a ha hm => ?_⟩
    · rcases List.mem_append.mp hb' with m | m
      · exact List.mem_append_left _ (set_flatten_sub m)
      · exact List.mem_append_right _ m
    · rcases List.mem_append.mp hm with m | m
      · rcases mem_set_flatten m with m | ⟨j, hj, m⟩
        · cases m
        · exact hj (nodup_apart r.nodup m ha)
      · exact r.odis a m (mem_getD_flatten ha)
  · exact ⟨os, r, fun _ h => h⟩
theorem RelS.freeze {env : Env} {hb h : Heap} {Oo : List Addr} (nk : NsOk c) : ∀ (is : List Nat) {os : List (List Addr)} {σ : St}, RelS c env hb Oo os h σ → ∃ os', RelS c env hb Oo os' h (freezeL is σ) ∧ ∀ a ∈ os'.flatten, a ∈ os.flatten
  | [], os, σ, r => ⟨os, r, fun _ h => h⟩
  | i :: is, os, σ, r => by
    obtain ⟨os1, r1, h1⟩ := r.freeze1 nk i
    obtain ⟨os2, r2, h2⟩ := RelS.freeze nk is r1
    exact ⟨os2, r2, fun a ha => h1 a (h2 a ha)⟩
theorem Aft.from {env : Env} {hb : Heap} {Oo : List Addr} {os os1 os2 : List (List Addr)} {s s2 : Shared} {fl : Fl} {σ2 : St} {f : Flow} (h : ∀ a ∈ os1.flatten, a ∈ os.flatten) (y : Aft c env hb Oo os1 s fl σ2 f os2 s2) : Aft c env hb Oo os s fl σ2 f os2 s2 :=
  ⟨y.rel, y.fl, y.sm, fun b o nb nf e => y.mod b o (fun m => nb (h b m)) nf e, fun a ha => (y.sub a ha).imp (h a) id⟩

inductive EscIx (ns : List Str) : List Str → List Nat → Prop
  | nil : EscIx ns [] []
  | here {x xs i is} : HasIdx ns x i → EscIx ns xs is → EscIx ns (x :: xs) (i :: is)
  | skip {x xs is} : EscIx ns xs is → EscIx ns (x :: xs) is

mutual
noncomputable def esc : Expr → List Str
  | .Name x _ => [x]
  | .Tuple es _ _ => escs es
  | .List es _ => escs es
  | .BoolOp _ es _ => escs es
  | .Call _ args _ _ => escs args
  | _ => []
noncomputable def escs : List Expr → List Str
  | [] => []
  | e :: es => esc e ++ escs es
end

/-! x = e -/
noncomputable def keepX (i : Nat) (σ : St) : Option (PyData × Nat) → Option (Fl × St)
  | some (d, 0) => some (.next, σ.set i (some (d, 0)))
  | some (d, 3) => some (.next, σ.set i (some (d, 1)))
  | _ => none
noncomputable def asgX (i : Nat) (fz : List Nat) (f : XE) : XS := fun σ => keepX i (freezeL fz σ) (f (freezeL fz σ))

/-- a value is stored under a name -/
theorem RelS.store {A : Around} {env : Env} (nk : NsOk c) (ok : EnvOk c A env) {hb : Heap} {Oo : List Addr} {os : List (List Addr)} {s s1 : Shared} {σ : St} (r : RelS c env hb Oo os s.heap σ) {x : Str} {i : Nat} (hi : c.ns[i]? = some x)
    (K : Kps c.gn s s1) {v : Value} {d : PyData} {k : Nat} (rv : Res (os.flatten ++ Oo) s.heap s1.heap v d k) {fl : Fl} {σ' : St} (h : keepX i σ (some (d, k)) = some (fl, σ')) {Q : Unit → Shared → Prop}
    (hQ : ∀ s2 os', Aft c env hb Oo os s fl σ' .next os' s2 → (∀ b, ¬ FrAddr env b → s2.heap.get? b = s1.heap.get? b) → Q () s2) : wpAny c.M A (storeName env x v) Q NoE s1 := by
  obtain ⟨vals, F, q⟩ := r.fr
  have F1 : FrameIs env hb s1.heap vals := F.keeps fun b o _ e => K.kp b o e
  have hx : env.kindOf x = some .local ∨ env.kindOf x = some .cell := by
    show env.scope.names.lookup x = _ ∨ env.scope.names.lookup x = _
    rw [ok.scope]; exact nk.kinds x (List.mem_of_getElem? hi)
  refine F1.store ok.kind' hx fun h2 tk F2 e2 => ?_
  have hk : ∀ b o, b ∉ os.getD i [] → ¬ FrAddr env b → s.heap.get? b = some o → h2.get? b = some o := fun b o _ nf e => (e2 b nf).trans (K.kp b o e)
  have hkeep : Kp hb h2 := fun b o e => (e2 b fun fa => by
    rcases fa with rfl | ⟨y, hy, hc⟩
    · rw [F.newL] at e; cases e
    · rw [F.newC y b hc] at e; cases e).trans (K.kp b o (r.keep b o e))
  have sub : ∀ {l : List Addr}, (∀ a ∈ l, s.heap.get? a = none) → ∀ a ∈ (os.set i l).flatten, a ∈ os.flatten ∨ s.heap.get? a = none := fun hl a ha => by
    rcases mem_set_flatten ha with m | ⟨j, _, m⟩
    · exact .inr (hl a m)
    · exact .inl (mem_getD_flatten m)
  have mv : ∀ b o, s1.heap.get? b = some o → IsSeq o → h2.get? b = some o := fun b o e sq => (e2 b (F1.notSeq e sq)).trans e
  match k, rv, h with
  | 0, rv, h =>
    cases h
    refine hQ _ (os.set i []) ⟨r.step F q F2 hi (fun y hy => by simp [hy]) nk.nodup .nil (fun a ha => nomatch ha) (fun a ha => nomatch ha) hk hkeep fun d' k' e' => ?_, trivial, K.sm.heap _ _, fun b o _ nf e => (e2 b nf).trans (K.kp b o e), sub fun a ha => nomatch ha⟩ e2
    cases e'
    refine ⟨v, by simp, rfl, Rep.moveS (fun b o nb e sq => ⟨mv b o e sq, fun m => nb ?_⟩) rv⟩
    rcases List.mem_append.mp m with m | m
    · exact List.mem_append_left _ (set_flatten_sub m)
    · exact List.mem_append_right _ m
  | 3, ⟨a, xs, vs, e1, e3, f, ⟨⟨n, el⟩, z⟩, ra⟩, h =>
    cases h
    subst e1 e3
    have hl2 : LstAt h2 a vs := ⟨⟨n, mv a _ el ⟨_, _, rfl⟩⟩, z⟩
    refine hQ _ (os.set i [a]) ⟨r.step F q F2 hi (fun y hy => by simp [hy]) nk.nodup (by simp) (fun b hb' => .inr (by rw [List.mem_singleton.mp hb']; exact f)) (fun b hb' => by rw [List.mem_singleton.mp hb']; exact ⟨_, hl2.1.choose_spec, _, _, rfl⟩) hk hkeep fun d' k' e' => ?_, trivial, K.sm.heap _ _, fun b o _ nf e => (e2 b nf).trans (K.kp b o e), sub fun b hb' => by rw [List.mem_singleton.mp hb']; exact f⟩ e2
    cases e'
    have hlo : i < os.length := by rw [r.lenO]; exact (List.getElem?_eq_some_iff.mp hi).1
    refine ⟨_, by simp, a, xs, rfl, rfl, rfl, List.mem_append_left _ (List.mem_flatten.mpr ⟨[a], List.mem_of_getElem? (i := i) (List.getElem?_set_self hlo), List.mem_cons_self⟩), vs, hl2, RepAll.moveS (fun b o nb e sq => ⟨mv b o e sq, fun m => nb ?_⟩) ra⟩
    rcases List.mem_append.mp m with m | m
    · rcases mem_set_flatten m with m | ⟨j, _, m⟩
      · rw [List.mem_singleton.mp m]; exact List.mem_cons_self
      · exact List.mem_cons_of_mem _ (List.mem_append_left _ (mem_getD_flatten m))
    · exact List.mem_cons_of_mem _ (List.mem_append_right _ m)
  | 1, _, h => cases h
  | 2, _, h => cases h
  | _ + 4, _, h => cases h

theorem ex_assignZ {x : Str} {p pos : Pos} {e : Expr} {i : Nat} {fz : List Nat} {f : XE} (nk : NsOk c) (hi : HasIdx c.ns x i) (he : EvS c e f)
    (hs : ∀ env : Env, env.scope = c.scope → swapsWith e (some (.Name x p)) pos.line env = pure false := by intro _ _; rfl) : Ex1 c (.Assign [.Name x p] e pos) (asgX i fz f) := .mk fun {A env} ok hb Oo os s σ r fl σ' h => by
  obtain ⟨os1, r1, h1⟩ := r.freeze nk fz
  unfold asgX at h
  cases q : f (freezeL fz σ) with
  | none => rw [q] at h; cases h
  | some dk =>
    obtain ⟨d, k⟩ := dk
    rw [q] at h
    refine wpAny_Assign_Name (wpAny_mono (he.run ok (r1.rel nk ok) q) (fun v s1 hv => ?_) fun _ _ f => f) (hs env ok.scope)
    exact r1.store nk ok hi.get hv.1 hv.2 h fun s2 os2 a _ => ⟨os2, a.from h1⟩
theorem ex_assign {x : Str} {p pos : Pos} {e : Expr} {i : Nat} {fz : List Nat} {f : XE} (nk : NsOk c) (hi : HasIdx c.ns x i) (hz : EscIx c.ns (esc e) fz) (he : EvS c e f)
    (hs : ∀ env : Env, env.scope = c.scope → swapsWith e (some (.Name x p)) pos.line env = pure false := by intro _ _; rfl) : Ex1 c (.Assign [.Name x p] e pos) (asgX i fz f) := ex_assignZ nk hi he hs
theorem ex_assign0 {x : Str} {p pos : Pos} {e : Expr} {i : Nat} {f : XE} (nk : NsOk c) (hi : HasIdx c.ns x i) (he : EvS c e f)
    (hs : ∀ env : Env, env.scope = c.scope → swapsWith e (some (.Name x p)) pos.line env = pure false := by intro _ _; rfl) : Ex1 c (.Assign [.Name x p] e pos) (asgX i [] f) := ex_assignZ nk hi he hs
end
end Mine

set_option Elab.async false
set_option linter.unusedVariables false
set_option autoImplicit false
open PySem
namespace Mine
section
variable {c : Cx}

theorem ex_break {pos : Pos} : Ex1 c (.Break pos) (fun σ => some (.brk, σ)) := .mk fun ok hb Oo os s σ r fl σ' h => by
  cases h; exact fun _ _ _ => ⟨os, .refl r trivial⟩
theorem ex_continue {pos : Pos} : Ex1 c (.Continue pos) (fun σ => some (.cont, σ)) := .mk fun ok hb Oo os s σ r fl σ' h => by
  cases h; exact fun _ _ _ => ⟨os, .refl r trivial⟩

noncomputable def ifX (t : St → Option Bool) (f g : XS) : XS := fun σ => match t σ with
  | some true => f σ
  | some false => g σ
  | none => none

theorem RelS.after {env : Env} {hb : Heap} {Oo : List Addr} {os os2 : List (List Addr)} {s s1 s2 : Shared} {fl : Fl} {σ2 : St} {f : Flow} (K : Kps c.gn s s1) (y : Aft c env hb Oo os s1 fl σ2 f os2 s2) : Aft c env hb Oo os s fl σ2 f os2 s2 :=
  ⟨y.rel, y.fl, K.sm.trans y.sm, fun b o nb nf e => y.mod b o nb nf (K.kp b o e), fun a ha => (y.sub a ha).imp id fun e => gone K.kp e⟩

theorem ex_if {test : Expr} {body orelse : List Stmt} {pos : Pos} {t : St → Option Bool} {f g : XS} (nk : NsOk c) (ht : TrS c test t) (hf : ExS c body f) (hg : ExS c orelse g) : Ex1 c (.If test body orelse pos) (ifX t f g) := .mk fun {A env} ok hb Oo os s σ r fl σ' h => by
  unfold ifX at h
  refine wpAny_If ?_
  split at h
  · rename_i e
    refine wpAny_mono (ht.run ok (r.rel nk ok) e) (fun b s1 h1 => ?_) fun _ _ f => f
    obtain ⟨K, rfl⟩ := h1
    exact wpAny_mono (hf.run ok (r.keeps K.kp) h) (fun fw s2 ⟨os2, a⟩ => ⟨os2, RelS.after K a⟩) fun _ _ f => f
  · rename_i e
    refine wpAny_mono (ht.run ok (r.rel nk ok) e) (fun b s1 h1 => ?_) fun _ _ f => f
    obtain ⟨K, rfl⟩ := h1
    exact wpAny_mono (hg.run ok (r.keeps K.kp) h) (fun fw s2 ⟨os2, a⟩ => ⟨os2, RelS.after K a⟩) fun _ _ f => f
  · cases h

noncomputable def retX (fz : List Nat) (f : XE) : XS := fun σ => match f (freezeL fz σ) with
  | some (d, k) => if (k == 0 || k == 3) = true then some (.ret d, freezeL fz σ) else none
  | none => none
theorem ex_return {e : Expr} {pos : Pos} {fz : List Nat} {f : XE} (nk : NsOk c) (hz : EscIx c.ns (esc e) fz) (he : EvS c e f) : Ex1 c (.Return (some e) pos) (retX fz f) := .mk fun {A env} ok hb Oo os s σ r fl σ' h => by
  obtain ⟨os1, r1, h1⟩ := r.freeze nk fz
  unfold retX at h
  split at h
  · rename_i d k q
    split at h
    · rename_i hk
      cases h
      have R := r1.rel nk ok
      refine wpAny_Return_some (wpAny_mono (he.run ok R q) (fun v s1 hv => ?_) fun _ _ f => f)
      have rv := hv.2.free R.low hk
      exact ⟨os1, Aft.from h1 (RelS.after hv.1 (.refl (r1.keeps hv.1.kp) (rv.less fun a ha => List.mem_append_right _ ha)))⟩
    · cases h
  · cases h

/-! for -/
noncomputable def loopX (i : Nat) (g : XS) : List PyData → XS
  | [], σ => some (.next, σ)
  | d :: ds, σ => match g (σ.set i (some (d, 0))) with
    | some (.next, σ1) => loopX i g ds σ1
    | some (.cont, σ1) => loopX i g ds σ1
    | some (.brk, σ1) => some (.next, σ1)
    | some (.ret v, σ1) => some (.ret v, σ1)
    | none => none
noncomputable def forX (i : Nat) (fz : List Nat) (fi : XI) (g : XS) : XS := fun σ => match fi (freezeL fz σ) with
  | some (xs, k) => if (k == 0 || k == 3) = true then loopX i g xs (freezeL fz σ) else none
  | none => none

inductive FoI (c : Cx) (env : Env) (hb : Heap) (Oo wr : List Addr) (os1 : List (List Addr)) (s s₂ : Shared) (T : Nat → Heap → Prop) (i : Nat) (g : XS) (xs : List PyData) (fl : Fl) (σ' : St) (n : Nat) : Nat → Shared → Prop
  | mk {s' : Shared} (os' : List (List Addr)) (j : Nat) (σj : St) : RelS c env hb (wr ++ Oo) os' s'.heap σj → T j s'.heap → Sm c.gn s s' → (∀ b o, b ∉ os1.flatten → ¬ FrAddr env b → b ∉ wr → s₂.heap.get? b = some o → s'.heap.get? b = some o) →
    (∀ a ∈ os'.flatten, a ∈ os1.flatten ∨ s₂.heap.get? a = none) → loopX i g (xs.drop j) σj = some (fl, σ') → j ≤ n → FoI c env hb Oo wr os1 s s₂ T i g xs fl σ' n (n + 1 - j) s'
theorem ex_forZ {x : Str} {p pos : Pos} {iter : Expr} {body : List Stmt} {i : Nat} {fz : List Nat} {fi : XI} {g : XS} (nk : NsOk c) (hi : HasIdx c.ns x i) (hit : ItS c iter fi) (hbody : ExS c body g)
    (hs : ∀ env v, foldedSetIterable iter env v = pure v := by intro _ _; rfl) : Ex1 c (.For (.Name x p) iter body [] pos) (forX i fz fi g) := .mk fun {A env} ok hb Oo os s σ r fl σ' h => by
  obtain ⟨os1, r1, hsub⟩ := r.freeze nk fz
  unfold forX at h
  split at h
  · rename_i xs k q
    split at h
    · rename_i hk
      have R := r1.rel nk ok
      refine wpAny_For (wpAny_mono (hit.run ok R q) (fun xv s₁ h₁ => ?_) fun _ _ f => f) (hs env)
      obtain ⟨K₁, iv⟩ := h₁
      refine wpAny_mono (iter_walk ok.a.handled iv) (fun it s₂ h₂ => ?_) fun _ _ f => f
      obtain ⟨I, fp, wr, n, P, T, hn, W, hT, K₂, hz, hwr, hfp, hP, hTw⟩ := h₂
      have kp₂ : Kp s₁.heap s₂.heap := by obtain ⟨_, _, rfl, q⟩ := K₂; exact q
      have K₂' : Kps c.gn s s₂ := K₁.trans (.of K₂)
      have r₁ := r1.keeps K₁.kp
      have r₂ : RelS c env hb (wr ++ Oo) os1 s₂.heap (freezeL fz σ) := r₁.bar hwr kp₂ (hTw 0 _ hT)
      have hwb : ∀ a ∈ wr, hb.get? a = none := fun a ha => gone r₁.keep (hwr a ha)
      obtain ⟨vals, F, _⟩ := r1.fr
      have F₁ : FrameIs env hb s₁.heap vals := F.keeps fun b o _ e => K₁.kp b o e
      have frs : ∀ b, FrAddr env b → ∃ o, s₁.heap.get? b = some o := fun b fa => by
        rcases fa with rfl | ⟨y, hy, hc⟩
        · obtain ⟨m, ⟨o, _, _, e', _⟩, _⟩ := F₁.ns; exact ⟨o, e'⟩
        · obtain ⟨a', ha', o, e', _⟩ := F₁.cell y hy
          rw [hc] at ha'; cases ha'; exact ⟨o, e'⟩
      have hfp' : ∀ b ∈ fp, b ∉ os1.flatten ∧ ¬ FrAddr env b ∧ ∃ o, s₂.heap.get? b = some o := fun b hb' => by
        obtain ⟨ex, or⟩ := hfp b hb'
        rcases or with e | e
        · refine ⟨fun m => ?_, fun fa => ?_, ex⟩
          · obtain ⟨o, e', _⟩ := r₁.low b m; rw [e] at e'; cases e'
          · obtain ⟨o, e'⟩ := frs b fa; rw [e] at e'; cases e'
        · subst e
          cases iv with
          | list l _ h0 h3 hk3 =>
            refine ⟨fun m => ?_, F₁.notSeq l.1.choose_spec ⟨_, _, rfl⟩, ex⟩
            rcases hk3 with rfl | rfl | rfl
            · exact h0 rfl (List.mem_append_left _ m)
            · simp at hk
            · obtain ⟨o, e', _⟩ := r1.low b m; rw [h3 rfl] at e'; cases e'
          | tuple l _ h0 => exact ⟨fun m => h0 (List.mem_append_left _ m), F₁.notSeq l.1.choose_spec ⟨_, _, rfl⟩, ex⟩
          | range hr _ _ _ _ e =>
            refine ⟨fun m => ?_, fun fa => ?_, ex⟩
            · obtain ⟨o, e', _⟩ := r1.low b m; rw [e] at e'; cases e'
            · rcases fa with rfl | ⟨y, hy, hc⟩
              · obtain ⟨m, ⟨o, _, _, e', _⟩, _⟩ := F.ns; rw [e] at e'; cases e'
              · obtain ⟨a', ha', o, e', _⟩ := F.cell y hy
                rw [hc] at ha'; cases ha'; rw [e] at e'; cases e'
      -- the turns
      refine codeAny_forLoop (R := fun r s' => match r with | .ok f => ∃ os', Aft c env hb Oo os s fl σ' f os' s' | .error e => cameBackBy c.M A env NoE e s')
        (FoI c env hb Oo wr os1 s s₂ T i g xs fl σ' n) ?_ (n + 1)
        ⟨os1, 0, _, r₂, hT, K₂'.sm, fun _ _ _ _ _ e => e, fun _ m => .inl m, h, Nat.zero_le _⟩
      have fin : ∀ {s3 : Shared} {os3 : List (List Addr)} {f : Flow}, RelS c env hb (wr ++ Oo) os3 s3.heap σ' → FlOk Oo s3.heap fl f → Sm c.gn s s3 → (∀ b o, b ∉ os1.flatten → ¬ FrAddr env b → b ∉ wr → s₂.heap.get? b = some o → s3.heap.get? b = some o) →
          (∀ a ∈ os3.flatten, a ∈ os1.flatten ∨ s₂.heap.get? a = none) → Aft c env hb Oo os s fl σ' f os3 s3 := fun r3 f3 sm3 m3 u3 =>
        ⟨r3.unbar, f3, sm3, fun b o nb nf e => m3 b o (fun m => nb (hsub b m)) nf (fun m => by rw [gone K₁.kp (hwr b m)] at e; cases e) (K₂'.kp b o e), fun a ha => (u3 a ha).imp (hsub a) fun e => gone K₂'.kp e⟩
      rintro k' s' ⟨os', j, σj, rj, hTj, smj, mj, uj, hl, hj⟩
      have fpd : ∀ b ∈ fp, b ∉ os'.flatten := fun b hb' m => (uj b m).elim (hfp' b hb').1 fun e => by
        obtain ⟨o, e'⟩ := (hfp' b hb').2.2; rw [e] at e'; cases e'
      by_cases hlt : j < n
      · refine W.item j _ _ _ hlt hTj fun v h₄ tk₄ hPv hT₄ hk₄ => ?_
        obtain ⟨dv, hdv, rv⟩ := hP j v hlt hPv
        have hil : j < xs.length := hn ▸ hlt
        have hdrop : xs.drop j = dv :: xs.drop (j + 1) := by
          rw [List.drop_eq_getElem_cons hil]
          rw [List.getElem?_eq_getElem hil] at hdv
          cases hdv; rfl
        rw [hdrop] at hl
        have r₄ := rj.turn hwb hk₄ (hTw _ _ hT₄)
        have rv₄ : Rep (os'.flatten ++ (wr ++ Oo)) h₄ v dv := rv.moveS fun b o nb e sq => by
          have nf := F₁.notSeq e sq
          have nw : b ∉ wr := fun m => by rw [hwr b m] at e; cases e
          have n1 : b ∉ os1.flatten := fun m => nb (List.mem_append_left _ m)
          refine ⟨hk₄ b o nw (mj b o n1 nf nw (kp₂ b o e)), fun m => ?_⟩
          rcases List.mem_append.mp m with m | m
          · exact (uj b m).elim n1 fun q => by rw [kp₂ b o e] at q; cases q
          · rcases List.mem_append.mp m with m | m
            · exact nw m
            · exact nb (List.mem_append_right _ m)
        refine wpAny_assign_Name (wpAny_mono (r₄.store (s := { s' with heap := h₄, toks := tk₄ }) (s1 := { s' with heap := h₄, toks := tk₄ }) nk ok hi.get (Kps.refl _ _) (k := 0) rv₄ rfl (Q := fun _ s2 => ∃ os2, Aft c env hb (wr ++ Oo) os' { s' with heap := h₄, toks := tk₄ } .next (σj.set i (some (dv, 0))) .next os2 s2) fun s2 os2 a _ => ⟨os2, a⟩) (fun _ s5 h5 => ?_) fun _ _ f => f.elim)
        obtain ⟨os5, a5⟩ := h5
        cases qg : g (σj.set i (some (dv, 0))) with
        | none => unfold loopX at hl; rw [qg] at hl; cases hl
        | some p =>
          obtain ⟨fl6, σ6⟩ := p
          refine wpAny_mono (hbody.run ok a5.rel qg) (fun fw s6 h6 => ?_) fun _ _ f => f.elim
          obtain ⟨os6, a6⟩ := h6
          have a56 := a5.then a6
          have sm6 : Sm c.gn s s6 := (smj.heap h₄ tk₄).trans a56.sm
          have m6 : ∀ b o, b ∉ os1.flatten → ¬ FrAddr env b → b ∉ wr → s₂.heap.get? b = some o → s6.heap.get? b = some o := fun b o n1 nf nw e =>
            a56.mod b o (fun m => (uj b m).elim n1 fun q => by rw [q] at e; cases e) nf (hk₄ b o nw (mj b o n1 nf nw e))
          have u6 : ∀ a ∈ os6.flatten, a ∈ os1.flatten ∨ s₂.heap.get? a = none := fun a ha => by
            rcases a56.sub a ha with m | e
            · exact uj a m
            · by_cases m1 : a ∈ os1.flatten
              · exact .inl m1
              · cases q : s₂.heap.get? a with
                | none => exact .inr rfl
                | some o =>
                  exfalso
                  obtain ⟨vals6, F6, _⟩ := a6.rel.fr
                  obtain ⟨o6, e6, sq6⟩ := a6.rel.low a ha
                  have nf := F6.notSeq e6 sq6
                  have nw : a ∉ wr := fun m => a6.rel.odis a (List.mem_append_left _ m) ha
                  have e' : h₄.get? a = none := e
                  rw [hk₄ a o nw (mj a o m1 nf nw q)] at e'; cases e'
          have hT6 : T (j + 1) s6.heap := W.frame _ _ _ hT₄ fun b hb' o e => a56.mod b o (fpd b hb') (hfp' b hb').2.1 e
          unfold loopX at hl
          rw [qg] at hl
          cases fl6 with
          | next =>
            cases fw with
            | next => exact ⟨n + 1 - (j + 1), by omega, os6, j + 1, σ6, a6.rel, hT6, sm6, m6, u6, hl, hlt⟩
            | brk => exact a6.fl.elim
            | cont => exact a6.fl.elim
            | ret v => exact a6.fl.elim
          | cont =>
            cases fw with
            | cont => exact ⟨n + 1 - (j + 1), by omega, os6, j + 1, σ6, a6.rel, hT6, sm6, m6, u6, hl, hlt⟩
            | brk => exact a6.fl.elim
            | next => exact a6.fl.elim
            | ret v => exact a6.fl.elim
          | brk =>
            cases hl
            cases fw with
            | brk => exact ⟨os6, fin a6.rel trivial sm6 m6 u6⟩
            | cont => exact a6.fl.elim
            | next => exact a6.fl.elim
            | ret v => exact a6.fl.elim
          | ret d =>
            cases hl
            cases fw with
            | ret v => exact ⟨os6, fin a6.rel (Rep.less a6.fl fun a ha => List.mem_append_right _ ha) sm6 m6 u6⟩
            | cont => exact a6.fl.elim
            | next => exact a6.fl.elim
            | brk => exact a6.fl.elim
      · have hjn : j = n := by omega
        subst hjn
        refine W.done _ _ _ hTj fun h₄ tk₄ hk₄ => ?_
        rw [hn, List.drop_length] at hl
        cases hl
        have rl : RelS c env hb Oo os' h₄ σ' := rj.leave hwb (fun a ha m => by obtain ⟨o, e⟩ := r₁.olow a m; rw [hwr a ha] at e; cases e) hk₄
        refine wpAny_execs_nil ⟨os', rl, trivial, smj.heap h₄ tk₄, fun b o nb nf e => ?_, fun a ha => (uj a ha).imp (hsub a) fun e => gone K₂'.kp e⟩
        have nw : b ∉ wr := fun m => by rw [gone K₁.kp (hwr b m)] at e; cases e
        exact hk₄ b o nw (mj b o (fun m => nb (hsub b m)) nf nw (K₂'.kp b o e))
    · cases h
  · cases h
theorem ex_for {x : Str} {p pos : Pos} {iter : Expr} {body : List Stmt} {i : Nat} {fz : List Nat} {fi : XI} {g : XS} (nk : NsOk c) (hi : HasIdx c.ns x i) (hz : EscIx c.ns (esc iter) fz) (hit : ItS c iter fi) (hbody : ExS c body g)
    (hs : ∀ env v, foldedSetIterable iter env v = pure v := by intro _ _; rfl) : Ex1 c (.For (.Name x p) iter body [] pos) (forX i fz fi g) := ex_forZ nk hi hit hbody hs
theorem ex_for0 {x : Str} {p pos : Pos} {iter : Expr} {body : List Stmt} {i : Nat} {fi : XI} {g : XS} (nk : NsOk c) (hi : HasIdx c.ns x i) (hit : ItS c iter fi) (hbody : ExS c body g)
    (hs : ∀ env v, foldedSetIterable iter env v = pure v := by intro _ _; rfl) : Ex1 c (.For (.Name x p) iter body [] pos) (forX i [] fi g) := ex_forZ nk hi hit hbody hs
end
end Mine

set_option Elab.async false
set_option linter.unusedVariables false
set_option autoImplicit false
open PySem
namespace Mine

theorem setItem_lst {prog : Program} {w : World} {A : Around} {E : Value → Shared → Prop} {s : Shared} {l : Addr} {items : Array Value} {k : Int} {t : Tok} {v : Value} {j : Nat} {Q : Unit → Shared → Prop} (hl : LstAt s.heap l items)
    (hj : ixOf k items.size = some j)
    (hQ : ∀ h', LstAt h' l (items.setIfInBounds j v) → Heap.SameBut l s.heap h' → Q () { s with heap := h' }) :
    wpAny (model prog w) A (setItem (.ref l) (.int k t) v) Q E s := by
  obtain ⟨⟨n, ho⟩, hz⟩ := id hl
  have hf := ixOf_fit hj hz
  have hlt : j < items.size := by
    rcases ixOf_cases hj with ⟨a, b, rfl⟩ | ⟨a, b, rfl⟩ <;> omega
  have hx' : items[j]? = some items[j] := Array.getElem?_eq_getElem hlt
  have fin : LstAt (s.heap.update l (Obj.mapSeq (·.setIfInBounds j v))) l (items.setIfInBounds j v) :=
    ⟨⟨_, IsL.update (n := n) ho _⟩, by simpa using hz⟩
  have tail : wpAny (model prog w) A.in1 (setSeqItemAt l j v >>= fun _ => ret .none) (fun fin s' => ∃ r, fin = .done (.ret r) ∧ wpAny (model prog w) A (pure ()) Q E s') E s :=
    wpAny_bind (wpAny_setSeqItemAt ho rfl (wpAny_pure ⟨.none, rfl, wpAny_pure (hQ _ fin (Heap.SameBut.update ..))⟩))
  unfold setItem
  try with_reducible refine wpAny_holding ?_
  first | refine wpAny_bind (wpAny_pure ?_) | skip
  refine wpAny_bind (wpAny_sequenceKey hl.isList.typeIs (by decide) ?_)
  refine wpAny_bind (wpAny_callSpecial?_slot (name := Str.ofString "__setitem__") hl.isList.typeIs slot_list_setitem
    (wpAny_call_entry slot_list_setitem hl.isList.typeIs entry_list_setitem ?_ (args_list_setitem _ _ _)))
  show wpAny _ _ (Builtin.List.listSubscript? (.int k t) >>= _) _ _ s
  rcases ixOf_cases hj with ⟨a, b, rfl⟩ | ⟨a, b, e⟩
  · refine wpAny_bind (wpAny_listSubscript_int (fitsIndex_of a hf.2) ?_)
    clear hf
    obtain ⟨j, rfl⟩ := Int.eq_ofNat_of_zero_le a
    show wpAny _ _ ((seqItemAt l j >>= fun r => pure (r.map (j, ·))) >>= _) _ _ s
    refine wpAny_bind (wpAny_bind (wpAny_seqItemAt ho rfl (wpAny_pure ?_)))
    rw [show items[j]? = some items[j] from hx']
    exact tail
  · refine wpAny_bind (wpAny_listSubscript_int (fitsIndex_neg a hf.1) ?_)
    clear hf
    have hidx := ixOf_seq hj
    obtain ⟨m, rfl⟩ : ∃ m : Nat, k = Int.negSucc m := by
      cases k with
      | ofNat n => exact absurd a (Int.not_lt.mpr (Int.natCast_nonneg n))
      | negSucc n => exact ⟨n, rfl⟩
    show wpAny _ _ ((Builtin.List.listItems (.ref l) >>= fun xs => pure ((seqIndex? (Int.negSucc m) xs.size).bind fun i => xs[i]?.map (i, ·))) >>= _) _ _ s
    refine wpAny_bind (wpAny_bind ?_)
    show wpAny _ _ (seqItems? (.ref l) >>= _) _ _ s
    refine wpAny_bind (wpAny_seqItems ho rfl (wpAny_pure (wpAny_pure ?_)))
    rw [hidx]
    simp only [Option.bind_some, hx', Option.map_some]
    exact tail

section
variable {c : Cx}

theorem RelS.get {A : Around} {env : Env} {hb h : Heap} {Oo : List Addr} {os : List (List Addr)} {σ : St} (nk : NsOk c) (ok : EnvOk c A env) (r : RelS c env hb Oo os h σ) {i : Nat} {x : Str} {d : PyData} {k : Nat} (hi : c.ns[i]? = some x) (e : σ[i]? = some (some (d, k))) :
    ∃ v, VarIs env h x v ∧ ValOk (os.flatten ++ Oo) h v d k (os.getD i []) := by
  obtain ⟨vals, F, q⟩ := r.fr
  obtain ⟨v, hv, w⟩ := q i x d k hi e
  refine ⟨v, ?_, w⟩
  rcases nk.kinds x (List.mem_of_getElem? hi) with e | e
  · have e' : env.kindOf x = some .local := by show env.scope.names.lookup x = _; rw [ok.scope]; exact e
    obtain ⟨m, hn, hm⟩ := F.ns
    exact .inl ⟨e', m, hn, by rw [hm x e', hv]⟩
  · have e' : env.kindOf x = some .cell := by show env.scope.names.lookup x = _; rw [ok.scope]; exact e
    obtain ⟨a, ha, hc⟩ := F.cell x e'
    exact .inr ⟨e', a, ha, hv ▸ hc⟩

/-- an owned list of free items is turned -/
theorem RelS.mutate {env : Env} {hb h h' : Heap} {Oo : List Addr} {os : List (List Addr)} {σ : St} (nk : NsOk c) (r : RelS c env hb Oo os h σ) {i : Nat} {x : Str} {xs ys : List PyData} (hi : c.ns[i]? = some x) (e : σ[i]? = some (some (.list xs, 1))) {a : Addr} (ha : os.getD i [] = [a])
    (hs : Heap.SameBut a h h') {vs : Array Value} (l : LstAt h' a vs) (ra : RepAll (os.flatten ++ Oo) h vs.toList ys) : RelS c env hb Oo (os.set i [a]) h' (σ.set i (some (.list ys, 1))) ∧ ∀ b ∈ (os.set i [a]).flatten, b ∈ os.flatten := by
  obtain ⟨vals, F, q⟩ := r.fr
  obtain ⟨v, hv, w⟩ := q i x _ _ hi e
  obtain ⟨a', xs', e1, e2, e3, hm, vs', l', _⟩ := w
  rw [ha] at e3; cases e3; cases e2
  have hmem : ∀ b ∈ (os.set i [a]).flatten, b ∈ os.flatten := fun b hb' => by
    rcases mem_set_flatten hb' with m | ⟨j, _, m⟩
    · rw [List.mem_singleton.mp m]; exact mem_getD_flatten (i := i) (by rw [ha]; exact List.mem_cons_self)
    · exact mem_getD_flatten m
  have hnf : ¬ FrAddr env a := F.notSeq l'.1.choose_spec ⟨_, _, rfl⟩
  have hba : hb.get? a = none := r.own a (mem_getD_flatten (i := i) (by rw [ha]; exact List.mem_cons_self))
  refine ⟨r.step F q (F.keeps fun b o fa e => (hs.2 b fun e' => hnf (e' ▸ fa)).trans e) hi (fun _ _ => rfl) nk.nodup (by simp) (fun b hb' => .inl (by rw [ha]; exact hb')) (fun b hb' => by rw [List.mem_singleton.mp hb']; exact ⟨_, l.1.choose_spec, _, _, rfl⟩)
    (fun b o nb _ e => (hs.2 b fun e' => nb (by rw [ha, e']; exact List.mem_cons_self)).trans e) (fun b o e => (hs.2 b fun e' => by rw [e', hba] at e; cases e).trans (r.keep b o e)) fun d k e' => ?_, hmem⟩
  cases e'
  have hlo : i < os.length := by rw [r.lenO]; exact (List.getElem?_eq_some_iff.mp hi).1
  refine ⟨v, hv, a, ys, e1, rfl, rfl, List.mem_append_left _ (List.mem_flatten.mpr ⟨[a], List.mem_of_getElem? (i := i) (List.getElem?_set_self hlo), List.mem_cons_self⟩), vs, l, ra.move fun b o nb e => ⟨(hs.2 b fun e' => nb (e' ▸ hm)).trans e, fun m => nb ?_⟩⟩
  rcases List.mem_append.mp m with m | m
  · exact List.mem_append_left _ (hmem b m)
  · exact List.mem_append_right _ m

theorem RelS.own1 {env : Env} {hb h : Heap} {Oo : List Addr} {os : List (List Addr)} {σ : St} (r : RelS c env hb Oo os h σ) {i : Nat} {x : Str} {xs : List PyData} (hi : c.ns[i]? = some x) (e : σ[i]? = some (some (.list xs, 1))) :
    ∃ a, os.getD i [] = [a] ∧ ∃ vs : Array Value, LstAt h a vs ∧ RepAll (os.flatten ++ Oo) h vs.toList xs := by
  obtain ⟨vals, F, q⟩ := r.fr
  obtain ⟨v, hv, a, xs', e1, e2, e3, hm, vs', l', ra⟩ := q i x _ _ hi e
  cases e2
  exact ⟨a, e3, vs', l', ra⟩

theorem base_Name (x : Str) (p : Pos) (n : Str) (env : Env) : attributeBase (.Name x p) n env (eval (.Name x p) env) = eval (.Name x p) env := rfl

/-! x.append(e) -/
noncomputable def appX (i : Nat) (fz : List Nat) (f : XE) : XS := fun σ => match (freezeL fz σ)[i]?, f (freezeL fz σ) with
  | some (some (.list xs, 1)), some (d, k) => if (k == 0 || k == 3) = true ∧ xs.length < 1000000 then some (.next, (freezeL fz σ).set i (some (.list (xs ++ [d]), 1))) else none
  | _, _ => none

theorem ex_append {x : Str} {p1 apos cpos pos : Pos} {e : Expr} {i : Nat} {fz : List Nat} {f : XE} (nk : NsOk c) (hi : HasIdx c.ns x i) (hz : EscIx c.ns (esc e) fz) (he : EvS c e f) (hline : (apos.endLine == cpos.line) = true) (hp : Plain [e] := by intro _; rfl) :
    Ex1 c (.Expr (.Call (.Attribute (.Name x p1) "append" apos) [e] [] cpos) pos) (appX i fz f) := .mk fun {A env} ok hb Oo os s σ r fl σ' h => by
  obtain ⟨os1, r1, hsub⟩ := r.freeze nk fz
  unfold appX at h
  split at h
  · rename_i xs d k e1 e2
    split at h
    · rename_i hc
      cases h
      obtain ⟨v, hv, w⟩ := r1.get nk ok hi.get e1
      obtain ⟨a, _, rfl, e0, hos, hm, _⟩ := w
      obtain ⟨a', hos', vs, l, ra⟩ := r1.own1 hi.get e1
      rw [hos] at hos'; cases hos'
      have R := r1.rel nk ok
      refine wpAny_Expr (Call_method1 (base_Name ..) (hp env) hline (wpAny_Name (wpAny_var ok hv ?_) (ok.dbg x (List.mem_of_getElem? hi.get)))) (by show (env.scope.kind == .module && _) = false; rw [ok.kind']; rfl) rfl
      refine ⟨"list", "list.append", F.plainAttrs_list, F.slot_list_append, F.type_list_append, l.isList.typeIs, fun b hb => by cases hb; exact ⟨_, l.1.choose_spec, rfl⟩, P.append_list (wpAny_mono (he.run ok R e2) (fun y s1 h1 => ?_) fun _ _ f => f)⟩
      obtain ⟨K, ry⟩ := h1
      have ry' := ry.free R.low hc.1
      obtain ⟨⟨n, lg⟩, lz⟩ := l.keeps K.kp
      refine ⟨vs, n, lz, lg, ?_⟩
      have rk := r1.keeps K.kp
      have hsz := LstAt.size (h := s.heap) (a := a) ra
      obtain ⟨r2, hsub2⟩ := rk.mutate nk hi.get e1 hos (Heap.SameBut.update s1.heap a (Obj.mapSeq fun xs => xs.push y)) (vs := vs.push y) (ys := xs ++ [d]) ⟨⟨_, IsL.update (n := n) lg (fun xs => xs.push y)⟩, by rw [Array.size_push, hsz]; exact Nat.le_trans (Nat.succ_le_of_lt hc.2) (Nat.le_trans (by decide) line_big)⟩
        (by rw [Array.toList_push]; exact (ra.keeps K.kp).append (.cons ry' .nil))
      refine ⟨os1.set i [a], Aft.from hsub (RelS.after K ⟨r2, trivial, (Sm.refl _ _).heap _ _, fun b o nb _ e => ?_, fun b hb => .inl (hsub2 b hb)⟩)⟩
      have hab : a ≠ b := fun e' => nb (by rw [← e']; exact mem_getD_flatten (i := i) (by rw [hos]; exact List.mem_cons_self))
      exact (Heap.get?_update_other s1.heap _ hab).trans e
    · cases h
  · cases h

/-! x[i] = e -/
noncomputable def setX (i : Nat) (fz : List Nat) (f g : XE) : XS := fun σ => match (freezeL fz σ)[i]?, f (freezeL fz σ), g (freezeL fz σ) with
  | some (some (.list xs, 1)), some (d, k), some (.int j, _) => if (k == 0 || k == 3) = true then (match ixOf j xs.length with
    | some n => some (.next, (freezeL fz σ).set i (some (.list (xs.set n d), 1)))
    | none => none) else none
  | _, _, _ => none

theorem ex_setitem {x : Str} {p1 p2 pos : Pos} {e ie : Expr} {i : Nat} {fz : List Nat} {f g : XE} (nk : NsOk c) (hi : HasIdx c.ns x i) (hz : EscIx c.ns (esc e) fz) (he : EvS c e f) (hie : EvS c ie g)
    (hs : ∀ env, swapsWith e (some (.Subscript (.Name x p1) ie p2)) pos.line env = pure false := by intro _; rfl) : Ex1 c (.Assign [.Subscript (.Name x p1) ie p2] e pos) (setX i fz f g) := .mk fun {A env} ok hb Oo os s σ r fl σ' h => by
  obtain ⟨os1, r1, hsub⟩ := r.freeze nk fz
  unfold setX at h
  split at h
  · rename_i xs d k j k' e1 e2 e3
    split at h
    · rename_i hc
      split at h
      · rename_i n hn
        cases h
        have R := r1.rel nk ok
        refine wpAny_Assign_Subscript (wpAny_mono (he.run ok R e2) (fun y s1 h1 => ?_) fun _ _ f => f) (hs env)
        obtain ⟨K, ry⟩ := h1
        have ry' := ry.free R.low hc
        have rk := r1.keeps K.kp
        obtain ⟨v, hv, w⟩ := rk.get nk ok hi.get e1
        obtain ⟨a, _, rfl, e0, hos, hm, _⟩ := w
        obtain ⟨a', hos', vs, l, ra⟩ := rk.own1 hi.get e1
        rw [hos] at hos'; cases hos'
        refine wpAny_Name (wpAny_var ok hv ?_) (ok.dbg x (List.mem_of_getElem? hi.get))
        refine wpAny_mono (hie.run ok (rk.rel nk ok) e3) (fun iv s2 h2 => ?_) fun _ _ f => f
        obtain ⟨K2, ri⟩ := h2
        obtain ⟨t, rfl⟩ := ri.int_inv
        have hsz := LstAt.size (h := s1.heap) (a := a) ra
        refine setItem_lst (l.keeps K2.kp) (by rw [hsz]; exact hn) fun h' l' hs' => ?_
        have rk2 := rk.keeps K2.kp
        obtain ⟨r2, hsub2⟩ := rk2.mutate nk hi.get e1 hos hs' l' (ys := xs.set n d) (by rw [Array.toList_setIfInBounds]; exact (ra.keeps K2.kp).set n (ry'.keeps K2.kp))
        refine ⟨os1.set i [a], Aft.from hsub (RelS.after (K.trans K2) ⟨r2, trivial, (Sm.refl _ _).heap _ _, fun b o nb _ e => ?_, fun b hb => .inl (hsub2 b hb)⟩)⟩
        exact (hs'.2 b (fun e' => nb (e' ▸ mem_getD_flatten (i := i) (by rw [hos]; exact List.mem_cons_self)))).trans e
      · cases h
    · cases h
  · cases h

/-! del x[i] -/
noncomputable def delX (i : Nat) (g : XE) : XS := fun σ => match σ[i]?, g σ with
  | some (some (.list xs, 1)), some (.int j, _) => (match ixOf j xs.length with
    | some n => some (.next, σ.set i (some (.list (xs.eraseIdx n), 1)))
    | none => none)
  | _, _ => none

theorem ex_del {x : Str} {p1 p2 pos : Pos} {ie : Expr} {i : Nat} {g : XE} (nk : NsOk c) (hi : HasIdx c.ns x i) (hie : EvS c ie g) : Ex1 c (.Delete [.Subscript (.Name x p1) ie p2] pos) (delX i g) := .mk fun {A env} ok hb Oo os s σ r fl σ' h => by
  unfold delX at h
  split at h
  · rename_i xs j k' e1 e3
    split at h
    · rename_i n hn
      cases h
      refine wpAny_Delete (wpAny_deleteEach_cons ?_)
      rw [show delete (.Subscript (.Name x p1) ie p2) env = (do let ov ← eval (.Name x p1) env; let iv ← holding [ov] (eval ie env); standAt p2; holding [ov, iv] (delItem ov iv); release [ov, iv] []) from rfl]
      obtain ⟨v, hv, w⟩ := r.get nk ok hi.get e1
      obtain ⟨a, _, rfl, e0, hos, hm, _⟩ := w
      obtain ⟨a', hos', vs, l, ra⟩ := r.own1 hi.get e1
      rw [hos] at hos'; cases hos'
      refine wpAny_bind (wpAny_Name (wpAny_var ok hv ?_) (ok.dbg x (List.mem_of_getElem? hi.get)))
      refine wpAny_bind (wpAny_holding (wpAny_mono (hie.run ok (r.rel nk ok) e3) (fun iv s2 h2 => ?_) fun _ _ f => f))
      obtain ⟨K2, ri⟩ := h2
      obtain ⟨t, rfl⟩ := ri.int_inv
      have hsz := LstAt.size (h := s.heap) (a := a) ra
      have l2 := l.keeps K2.kp
      have hj : ixOf j vs.size = some n := by rw [hsz]; exact hn
      have hlt : n < vs.size := by rcases ixOf_cases hj with ⟨q1, q2, rfl⟩ | ⟨q1, q2, rfl⟩ <;> omega
      have hfit : Builtin.List.listFitsIndex j = true := by
        have hf := ixOf_fit hj l.2
        rcases ixOf_cases hj with ⟨q1, _, _⟩ | ⟨q1, _, _⟩
        · exact fitsIndex_of q1 hf.2
        · exact fitsIndex_neg q1 hf.1
      refine wpAny_bind (wpAny_standAt (wpAny_bind (wpAny_holding (wpAny_delItem_plain l2.1 hfit (ixOf_seq hj) (fun h' l' hs' => ?_) l2.2))))
      have rk2 := r.keeps K2.kp
      obtain ⟨r2, hsub2⟩ := rk2.mutate nk hi.get e1 hos hs' ⟨l', Nat.le_trans (by simp only [Array.eraseIdxIfInBounds]; split <;> simp) l2.2⟩ (ys := xs.eraseIdx n) (by
        have : (vs.eraseIdxIfInBounds n).toList = vs.toList.eraseIdx n := by simp [Array.eraseIdxIfInBounds, hlt]
        rw [this]; exact (ra.keeps K2.kp).erase n)
      intro Γ p hΓ
      rw [Sem.wp_release]
      refine wpAny_deleteEach_nil ⟨os.set i [a], RelS.after K2 ⟨r2, trivial, (Sm.refl _ _).heap _ _, fun b o nb _ e => ?_, fun b hb => .inl (hsub2 b hb)⟩⟩
      exact (hs'.2 b (fun e' => nb (e' ▸ mem_getD_flatten (i := i) (by rw [hos]; exact List.mem_cons_self)))).trans e
    · cases h
  · cases h

/-! x = [.. for ..], a local name: the store comes ahead of the letting go -/
theorem RelS.drop {env : Env} {hb h h' : Heap} {Oo : List Addr} {os : List (List Addr)} {σ : St} (r : RelS c env hb Oo os h σ) {C : Addr} {m : Str → Option Value} (hn : h.Ns C m) (hf : ¬ FrAddr env C) (ho : C ∉ Oo) (hb' : hb.get? C = none) (hs : Heap.SameBut C h h') : RelS c env hb Oo os h' σ := by
  obtain ⟨vals, F, q⟩ := r.fr
  have nC : ∀ b o, h.get? b = some o → IsSeq o → b ≠ C := fun b o e ⟨vs, n, d⟩ e' => by
    subst e'
    obtain ⟨o', es, ep, e2, d', _⟩ := hn
    rw [e] at e2; cases e2; rw [d] at d'; cases d'
  have keep : Kp hb h' := fun b o e => hs.extBut b o (fun e' => by rw [e', hb'] at e; cases e) (r.keep b o e)
  refine ⟨fun b o e => keep _ _ (r.htop b o e), keep, fun a ha => ?_, r.own, r.nodup, fun a ha => ?_, r.odis, r.ofr, r.ooff, r.htop, r.lenS, r.lenO, vals, F.keeps fun b o fa e => hs.extBut b o (fun e' => hf (e' ▸ fa)) e, fun i x d j h1 h2 => ?_⟩
  · obtain ⟨o, e, sq⟩ := r.low a ha; exact ⟨o, hs.extBut a o (nC a o e sq) e, sq⟩
  · obtain ⟨o, e⟩ := r.olow a ha; exact ⟨o, hs.extBut a o (fun e' => ho (e' ▸ ha)) e⟩
  · obtain ⟨v, hv, w⟩ := q i x d j h1 h2
    exact ⟨v, hv, w.move (fun b o nb e sq => ⟨hs.extBut b o (nC b o e sq) e, nb⟩) fun a ha => ⟨List.mem_append_left _ (mem_getD_flatten ha), fun o e sq => hs.extBut a o (nC a o e sq) e⟩⟩

theorem ex_assign_comp {elt iter : Expr} {x y : Str} {px py : Pos} {ifs : List Expr} {scope : Scope} {pos spos : Pos} {is : List Nat} {i : Nat} {fi : XI} {ft : St → Option Bool} {fe : XE} (nk : NsOk c) (hy : HasIdx c.ns y i) (co : CompOk c scope x) (hi : ItS c iter fi) (hix : HasIdxs c.ns (freeNames scope.names) is)
    (ht : TestsS (compCx c scope x) ifs ft) (he : EvS (compCx c scope x) elt fe) (hsw : ∀ env : Env, env.scope = c.scope → swapsWith (.ListComp elt [⟨.Name x px, iter, ifs, 0⟩] scope pos) (some (.Name y py)) spos.line env = pure true)
    (hs : ∀ env v, foldedSetIterable iter env v = pure v := by intro _ _; rfl) :
    Ex1 c (.Assign [.Name y py] (.ListComp elt [⟨.Name x px, iter, ifs, 0⟩] scope pos) spos) (asgX i [] (compX is fi ft fe)) := .mk fun {A env} ok hb Oo os s σ r fl σ' h => by
  unfold asgX at h
  simp only [freezeL] at h
  cases q : compX is fi ft fe σ with
  | none => rw [q] at h; cases h
  | some dk =>
    unfold compX at q
    split at q
    · rename_i xs kk fs e1 e2
      cases e3 : compL fs ft fe xs with
      | none => rw [e3] at q; cases q
      | some ds =>
        rw [e3] at q; cases q
        rw [show compX is fi ft fe σ = some (.list ds, 3) by unfold compX; rw [e1, e2]; simp only [e3]; rfl] at h
        rw [exec_Assign_Name_used _ _ _ _ (hsw env ok.scope)]
        refine wpAny_bind (wpAny_standAt (wpAny_bind ?_))
        show wpAny _ A (do let _ ← comprehension (.ListComp elt [⟨.Name x px, iter, ifs, 0⟩] scope pos) scope env _ (newList []) false (eval iter env) (some (assign (.Name y py) env))) _ _ s
        have R := r.rel nk ok
        refine wpAny_bind (wpAny_mono (comp_core co hi hix ht he hs ok R e1 e2 e3 (use := some (assign (.Name y py) env)) (Q := fun _ s' => ∃ os', Aft c env hb Oo os s fl σ' .next os' s') fun D C s' m ys K hD hC hDC hn hl ra => ?_) (fun _ s' hq => wpAny_pure (wpAny_pure hq)) fun _ _ f => f)
        have rv : Res (os.flatten ++ Oo) s.heap s'.heap (.ref D) (.list ds) 3 := ⟨D, ds, ys, rfl, rfl, hD, hl, ra.less fun a ha => by
          rcases List.mem_cons.mp ha with q | q
          · rw [q]; exact List.mem_cons_self
          · exact List.mem_cons_of_mem _ (List.mem_cons_of_mem _ q)⟩
        obtain ⟨vals, F, _⟩ := r.fr
        have hf : ¬ FrAddr env C := fun fa => by
          rcases fa with rfl | ⟨y, hy, hc⟩
          · obtain ⟨m, ⟨o, _, _, e', _⟩, _⟩ := F.ns; rw [hC] at e'; cases e'
          · obtain ⟨a', ha', o, e', _⟩ := F.cell y hy
            rw [hc] at ha'; cases ha'; rw [hC] at e'; cases e'
        show wpAny _ A (assign (.Name y py) env (.ref D)) _ _ _
        refine wpAny_assign_Name (r.store nk ok hy.get K rv h fun s2 os2 a e2 => ?_)
        have hn2 : s2.heap.Ns C m := hn.at' fun o e => (e2 C hf).trans e
        have hfl : fl = .next := by simp only [keepX, Option.some.injEq, Prod.mk.injEq] at h; exact h.1.symm
        subst hfl
        refine ⟨m, hn2, fun h' hs' => ⟨os2, a.rel.drop hn2 hf (fun m => ?_) (gone r.keep hC) hs', trivial, a.sm.heap h' s2.toks, fun b o nb nf e => hs'.extBut b o (fun e' => by rw [e', hC] at e; cases e) (a.mod b o nb nf e), a.sub⟩⟩
        obtain ⟨o, e⟩ := r.olow C m
        rw [hC] at e; cases e
    · cases q
end
end Mine

set_option Elab.async false
set_option linter.unusedVariables false
set_option autoImplicit false
set_option linter.unusedSimpArgs false
open PySem
namespace Mine

theorem bindL_local {kindOf : Str → Option NameKind} {x : Str} (hx : kindOf x = some .local) : ∀ (binds : List (Str × Value)) (m : Str → Option Value), bindL kindOf binds m x = (binds.reverse.lookup x).or (m x)
  | [], m => rfl
  | (n, v) :: r, m => by
    unfold bindL
    rw [bindL_local hx r, List.reverse_cons, List.lookup_append, Option.or_assoc]
    congr 1
    by_cases e : x = n
    · subst e
      simp [hx, List.lookup_cons]
    · have hb : (x == n) = false := beq_eq_false_iff_ne.mpr e
      by_cases hn : kindOf n = some .local
      · simp [hn, e, List.lookup_cons, hb]
      · simp [hn, List.lookup_cons, hb]
theorem bindC_cell {kindOf : Str → Option NameKind} {x : Str} (hx : kindOf x = some .cell) : ∀ (binds : List (Str × Value)) (m : Str → Option Value), bindC kindOf binds m x = (binds.reverse.lookup x).or (m x)
  | [], m => rfl
  | (n, v) :: r, m => by
    unfold bindC
    rw [bindC_cell hx r, List.reverse_cons, List.lookup_append, Option.or_assoc]
    congr 1
    by_cases e : x = n
    · subst e
      simp [hx, List.lookup_cons]
    · have hb : (x == n) = false := beq_eq_false_iff_ne.mpr e
      by_cases hn : kindOf n = some .local
      · simp [hn, List.lookup_cons, hb]
      · simp [hn, e, List.lookup_cons, hb]

theorem lookup_zip : ∀ {ps : List Str} {vs : List Value}, ps.Nodup → ∀ {i : Nat} {x : Str} {v : Value}, ps[i]? = some x → vs[i]? = some v → (ps.zip vs).reverse.lookup x = some v
  | [], _, _, i, x, v, h, _ => by simp at h
  | p :: ps, [], _, i, x, v, _, h => by simp at h
  | p :: ps, w :: vs, nd, 0, x, v, h1, h2 => by
    simp only [List.getElem?_cons_zero, Option.some.injEq] at h1 h2
    subst h1 h2
    rw [List.zip_cons_cons, List.reverse_cons, List.lookup_append]
    have : (ps.zip vs).reverse.lookup p = none := by
      rw [List.lookup_eq_none_iff]
      intro q hq
      have hm : q.1 ∈ ps := (List.of_mem_zip (List.mem_reverse.mp hq)).1
      have hne : p ≠ q.1 := fun e => (List.nodup_cons.mp nd).1 (by rw [e]; exact hm)
      simp [hne]
    rw [this]
    simp [List.lookup_cons]
  | p :: ps, w :: vs, nd, i + 1, x, v, h1, h2 => by
    simp only [List.getElem?_cons_succ] at h1 h2
    rw [List.zip_cons_cons, List.reverse_cons, List.lookup_append, lookup_zip (List.nodup_cons.mp nd).2 h1 h2]
    rfl

noncomputable def fnX (np nr : Nat) (g : XS) : List PyData → Option PyData := fun ds =>
  if ds.length = np then (match g (ds.map (fun d => some (d, 0)) ++ List.replicate nr none) with
    | some (.ret d, _) => some d
    | _ => none) else none

inductive FdOk (b : Base) (scope : Scope) (body : List Stmt) (ps : List Str) (x : Str) : Prop
  | mk (a o fd) : b.mg x = some (.ref a) → b.top.get? a = some o → o.data = .func fd → b.top.CodeRec fd.code fd.qualname → fd.body = .stmts body → fd.closure = [] → fd.scope = scope → fd.globals = mainGlobals → fd.builtins = builtinsNs →
    (∀ vs : List Value, vs.length = ps.length → bindArgs fd ⟨vs, []⟩ = pure (ps.zip vs)) → FdOk b scope body ps x

theorem fn_of0 {b : Base} (bo : BaseOk b) {scope : Scope} {body : List Stmt} {ps rest : List Str} {x : Str} {lvl : Nat} {gn : Bool} {g : XS} (fd : FdOk b scope body ps x) (nk : NsOk ⟨b, scope, ps ++ rest, lvl, gn⟩) (hk : scope.kind = .function) (hco : scope.isCoroutine = false) (hgen : scope.isGenerator = false)
    (hdbg : ∀ y ∈ ps ++ rest, (y == ("__debug__" : Str)) = false) (hb : NsOk ⟨b, scope, ps ++ rest, lvl, gn⟩ → ExS ⟨b, scope, ps ++ rest, lvl, gn⟩ body g) : Fn b gn (lvl + 1) x (fnX ps.length rest.length g) := by
  obtain ⟨a, o, fd, hg, ho, hd, hcd, hbody, hclo, hsc, hgl, hbi, hbind⟩ := fd
  refine ⟨a, o, fd, hg, ho, hd, fun {A O s vs ds d} ao top low off r h => ?_⟩
  unfold fnX at h
  split at h
  · rename_i hlen
    split at h
    · rename_i d' σ' e
      cases h
      have hvl : vs.length = ps.length := by rw [r.length, hlen]
      have hcells : ∀ n y, scope.names.lookup y = some .cell → ∃ q, (cellsFrom n scope.names []).lookup y = some q := fun n y hy => Option.isSome_iff_exists.mp (PySem.W.cellsFrom_some _ _ _ (.inl hy))
      have hnd : ps.Nodup := (List.nodup_append.mp nk.nodup).1
      refine codeAny_call_cells (fd := fd) (body := body) (binds := ps.zip vs) (by have := ao.depth; omega) (top _ _ ho) hd (bo.nolimit.keeps top) (hcd.keeps top) hbody (hbind vs hvl) hclo (fun y hy => ?_) (fun s₁ X => ?_) (by rw [hsc]; exact hco) (by rw [hsc]; exact hgen) (by rw [hsc]; exact hk)
      · have hm : y.1 ∈ ps ++ rest := List.mem_append_left _ (List.of_mem_zip hy).1
        rw [hsc]
        rcases nk.kinds y.1 hm with q | q
        · exact .inl q
        · obtain ⟨q', hq'⟩ := hcells (s.heap.objs.size + 1) y.1 q
          exact .inr ⟨q, by rw [hq']; rfl⟩
      · have ok : EnvOk ⟨b, scope, ps ++ rest, lvl, gn⟩ (A.deeper (callEnvC fd s.heap.objs.size a)) (callEnvC fd s.heap.objs.size a) :=
          ⟨bo, ⟨ao.handled, by have := ao.depth; show A.depth + 1 + 4 * lvl < _; omega, by have := ao.units; show A.units + 3 + 200 + 20 * lvl < _; omega⟩, hsc, hk, hgl, hbi, hdbg⟩
        have hkind : ∀ y, (callEnvC fd s.heap.objs.size a).kindOf y = scope.names.lookup y := fun y => by show fd.scope.names.lookup y = _; rw [hsc]
        obtain ⟨h₁, tk, rfl, kp⟩ := X.done
        have F : FrameIs (callEnvC fd s.heap.objs.size a) s.heap h₁ (fun y => (ps.zip vs).reverse.lookup y) :=
          { ns := ⟨_, X.toInCall.ns, fun y hy => by rw [bindL_local hy]; simp⟩
            cell := fun y hy => by
              obtain ⟨q, hq⟩ := hcells (s.heap.objs.size + 1) y ((hkind y).symm.trans hy)
              have hq' : (callEnvC fd s.heap.objs.size a).cells.lookup y = some q := by
                show (cellsFrom _ fd.scope.names []).lookup y = _
                rw [hsc]; exact hq
              have := X.cell y q hq'
              rw [bindC_cell hy] at this
              exact ⟨q, hq', by simpa using this⟩
            newL := fresh_none
            newC := fun y q hq => by
              have : s.heap.objs.size < q := X.above y q (mem_of_lookup hq)
              cases e : s.heap.get? q with
              | none => rfl
              | some o => exact absurd (Heap.lt_size e) (Nat.not_lt.mpr (Nat.le_of_lt this))
            inj := fun y z q h1 h2 => name_of_addr X.apart (mem_of_lookup h1) (mem_of_lookup h2) }
        have hfl : (List.replicate (ps ++ rest).length ([] : List Addr)).flatten = [] := by simp
        have rel : RelS ⟨b, scope, ps ++ rest, lvl, gn⟩ (callEnvC fd s.heap.objs.size a) s.heap O (List.replicate (ps ++ rest).length []) h₁ (ds.map (fun d => some (d, 0)) ++ List.replicate rest.length none) := by
          refine ⟨fun b o e => kp _ _ (top b o e), kp, fun q hq => ?_, fun q hq => ?_, by rw [hfl]; exact .nil, fun q hq => let ⟨o, e⟩ := low q hq; ⟨o, kp _ _ e⟩, fun q hq => ?_, fun q hq fa => ?_, off, top, ?_, by simp, _, F, fun i y e k h1 h2 => ?_⟩
          · rw [hfl] at hq; cases hq
          · rw [hfl] at hq; cases hq
          · rw [hfl]; exact fun h => nomatch h
          · obtain ⟨o, e⟩ := low q hq
            rcases fa with rfl | ⟨y, _, hc⟩
            · rw [F.newL] at e; cases e
            · rw [F.newC y q hc] at e; cases e
          · simp [hlen]
          · have hlt : i < ds.length := by
              rcases Nat.lt_or_ge i ds.length with q | q
              · exact q
              · rw [List.getElem?_append_right (by simpa using q)] at h2
                have := List.mem_of_getElem? h2
                rw [List.mem_replicate] at this
                cases this.2
            rw [List.getElem?_append_left (by simpa using hlt), List.getElem?_map] at h2
            have hdi : ds[i]? = some e ∧ k = 0 := by
              cases q : ds[i]? with
              | none => rw [q] at h2; cases h2
              | some d' => rw [q] at h2; simp at h2; exact ⟨by rw [h2.1], h2.2.symm⟩
            obtain ⟨hdi, rfl⟩ := hdi
            obtain ⟨v, hv, rv⟩ := r.get hdi
            have hpi : ps[i]? = some y := by
              rw [show (⟨b, scope, ps ++ rest, lvl, gn⟩ : Cx).ns = ps ++ rest from rfl, List.getElem?_append_left (by rw [← hlen]; exact hlt)] at h1
              exact h1
            refine ⟨v, lookup_zip hnd hpi hv, ?_, ?_⟩
            · rw [List.getD_eq_getElem?_getD, List.getElem?_replicate]; split <;> rfl
            · rw [hfl]; exact rv.keeps kp
        refine wpAny_mono ((hb nk).run ok rel e) (fun f s' a' => ?_) fun _ _ f => f.elim
        obtain ⟨os', a'⟩ := a'
        cases f with
        | ret v =>
          refine ⟨v, rfl, ?_, a'.fl⟩
          obtain ⟨h2, t2, g2, e2, e3, e4⟩ := a'.sm
          refine ⟨h2, t2, g2, e2, ?_, e3, e4⟩
          have := a'.rel.keep
          rw [e2] at this
          exact this
        | next => exact a'.fl.elim
        | brk => exact a'.fl.elim
        | cont => exact a'.fl.elim
    · cases h
  · cases h

theorem fn_of {b : Base} (bo : BaseOk b) {scope : Scope} {body : List Stmt} (ps rest ns : List Str) {x : Str} {lvl : Nat} {gn : Bool} {g : XS} (fd : FdOk b scope body ps x) (hns : ps ++ rest = ns) (nk : NsOk ⟨b, scope, ns, lvl, gn⟩) (hk : scope.kind = .function) (hco : scope.isCoroutine = false) (hgen : scope.isGenerator = false)
    (hdbg : ∀ y ∈ ns, (y == ("__debug__" : Str)) = false) (hb : NsOk ⟨b, scope, ns, lvl, gn⟩ → ExS ⟨b, scope, ns, lvl, gn⟩ body g) : Fn b gn (lvl + 1) x (fnX ps.length rest.length g) := by
  subst hns
  exact fn_of0 bo fd nk hk hco hgen hdbg hb

noncomputable def nsB (scope : Scope) (ns : List Str) : Bool := (ns.all fun x => scope.names.lookup x == some .local || scope.names.lookup x == some .cell) && decide ns.Nodup
theorem NsOk.of {c : Cx} (h : nsB c.scope c.ns = true) : NsOk c := by
  unfold nsB at h
  obtain ⟨h1, h2⟩ := Bool.and_eq_true_iff.mp h
  refine ⟨fun x hx => ?_, of_decide_eq_true h2⟩
  have := List.all_eq_true.mp h1 x hx
  rcases Bool.or_eq_true_iff.mp this with q | q
  · exact .inl (beq_iff_eq.mp q)
  · exact .inr (beq_iff_eq.mp q)
noncomputable def dbgB (ns : List Str) : Bool := ns.all fun x => !(x == ("__debug__" : Str))
theorem dbg_of {ns : List Str} (h : dbgB ns = true) : ∀ y ∈ ns, (y == ("__debug__" : Str)) = false := fun y hy => by
  have := List.all_eq_true.mp h y hy
  simpa using this
noncomputable def compB (scope outer : Scope) (x : Str) : Bool :=
  scope.kind == .function && (scope.names.all fun y => y.2 != .cell) && (scope.names.all fun y => y.2 != .local || scope.names.lookup y.1 == some .local) && scope.names.lookup x == some .local &&
    ((freeNames scope.names).all fun n => outer.names.lookup n == some .cell && (relS scope outer).names.lookup n == some .cell) && dbgB (x :: freeNames scope.names)
theorem CompOk.of {c : Cx} {scope : Scope} {x : Str} (h : compB scope c.scope x = true) : CompOk c scope x := by
  unfold compB at h
  simp only [Bool.and_eq_true] at h
  obtain ⟨⟨⟨⟨⟨h1, h2⟩, h3⟩, h4⟩, h5⟩, h6⟩ := h
  refine ⟨beq_iff_eq.mp h1, fun y hy e => ?_, fun y hy e => ?_, beq_iff_eq.mp h4, fun n hn => ?_, dbg_of h6⟩
  · have := List.all_eq_true.mp h2 y hy
    rw [e] at this; exact absurd this (by decide)
  · have := List.all_eq_true.mp h3 y hy
    rcases Bool.or_eq_true_iff.mp this with q | q
    · rw [e] at q; exact absurd q (by decide)
    · exact beq_iff_eq.mp q
  · have := List.all_eq_true.mp h5 n hn
    obtain ⟨a, b⟩ := Bool.and_eq_true_iff.mp this
    exact ⟨beq_iff_eq.mp a, beq_iff_eq.mp b⟩
theorem Fn.imp {b : Base} {gn : Bool} {lvl : Nat} {x : Str} {F F' : List PyData → Option PyData} (h : Fn b gn lvl x F) (hi : ∀ ds d, F' ds = some d → F ds = some d) : Fn b gn lvl x F' := by
  obtain ⟨a, o, fd, h1, h2, h3, h4⟩ := h
  exact ⟨a, o, fd, h1, h2, h3, fun ao t l f r e => h4 ao t l f r (hi _ _ e)⟩

noncomputable def swapB (outer scope : Scope) (t : Str) (l1 l2 : Nat) : Bool :=
  (if outer.kind.isAnnotationScope then ScopeKind.function else outer.kind) == .function && outer.names.lookup t == some .local && l1 == l2 && !(scope.names.any fun (n, k) => n == t && (k == .local || k == .cell))
theorem swap_comp {outer : Scope} {elt : Expr} {gens : List Comprehension} {scope : Scope} {pos p : Pos} {t : Str} {line : Nat} {b : Bool} (hb : swapB outer scope t p.line pos.line = b) (env : Env) (h : env.scope = outer) :
    swapsWith (.ListComp elt gens scope pos) (some (.Name t p)) line env = pure b := by
  subst h
  subst hb
  rfl

inductive FreeNs : List (Str × NameKind) → List Str → Prop
  | nil : FreeNs [] []
  | free {n l fr} : FreeNs l fr → FreeNs ((n, .free) :: l) (n :: fr)
  | loc {n l fr} : FreeNs l fr → FreeNs ((n, .local) :: l) fr
  | glob {n l fr} : FreeNs l fr → FreeNs ((n, .globalImplicit) :: l) fr
theorem FreeNs.eq : ∀ {l : List (Str × NameKind)} {fr : List Str}, FreeNs l fr → freeNames l = fr
  | _, _, .nil => rfl
  | _, _, .free h => by rw [← h.eq]; rfl
  | _, _, .loc h => by rw [← h.eq]; rfl
  | _, _, .glob h => by rw [← h.eq]; rfl

theorem ev_compF {c : Cx} {elt iter : Expr} {x : Str} {px : Pos} {ifs : List Expr} {scope : Scope} {pos : Pos} {is : List Nat} {fr : List Str} {fi : XI} {ft : St → Option Bool} {fe : XE} (hf : FreeNs scope.names fr) (co : compB scope c.scope x = true) (hi : ItS c iter fi) (hix : HasIdxs c.ns fr is)
    (ht : TestsS ⟨c.b, relS scope c.scope, x :: fr, c.lvl, false⟩ ifs ft) (he : EvS ⟨c.b, relS scope c.scope, x :: fr, c.lvl, false⟩ elt fe) (hs : ∀ env v, foldedSetIterable iter env v = pure v := by intro _ _; rfl) :
    EvS c (.ListComp elt [⟨.Name x px, iter, ifs, 0⟩] scope pos) (compX is fi ft fe) := by
  have := hf.eq; subst this
  exact ev_comp (CompOk.of co) hi hix ht he hs
theorem ex_assign_compF {c : Cx} {elt iter : Expr} {x y : Str} {px py : Pos} {ifs : List Expr} {scope : Scope} {pos spos : Pos} {is : List Nat} {fr : List Str} {i : Nat} {fi : XI} {ft : St → Option Bool} {fe : XE} (nk : NsOk c) (hy : HasIdx c.ns y i) (hsw : swapB c.scope scope y py.line pos.line = true) (hf : FreeNs scope.names fr) (co : compB scope c.scope x = true) (hi : ItS c iter fi) (hix : HasIdxs c.ns fr is)
    (ht : TestsS ⟨c.b, relS scope c.scope, x :: fr, c.lvl, false⟩ ifs ft) (he : EvS ⟨c.b, relS scope c.scope, x :: fr, c.lvl, false⟩ elt fe) (hs : ∀ env v, foldedSetIterable iter env v = pure v := by intro _ _; rfl) :
    Ex1 c (.Assign [.Name y py] (.ListComp elt [⟨.Name x px, iter, ifs, 0⟩] scope pos) spos) (asgX i [] (compX is fi ft fe)) := by
  have := hf.eq; subst this
  exact ex_assign_comp nk hy (CompOk.of co) hi hix ht he (swap_comp hsw) hs
theorem ex_assign_compC {c : Cx} {elt iter : Expr} {x y : Str} {px py : Pos} {ifs : List Expr} {scope : Scope} {pos spos : Pos} {is : List Nat} {fr : List Str} {i : Nat} {fi : XI} {ft : St → Option Bool} {fe : XE} (nk : NsOk c) (hy : HasIdx c.ns y i) (hsw : swapB c.scope scope y py.line pos.line = false) (hf : FreeNs scope.names fr) (co : compB scope c.scope x = true) (hi : ItS c iter fi) (hix : HasIdxs c.ns fr is)
    (ht : TestsS ⟨c.b, relS scope c.scope, x :: fr, c.lvl, false⟩ ifs ft) (he : EvS ⟨c.b, relS scope c.scope, x :: fr, c.lvl, false⟩ elt fe) (hs : ∀ env v, foldedSetIterable iter env v = pure v := by intro _ _; rfl) :
    Ex1 c (.Assign [.Name y py] (.ListComp elt [⟨.Name x px, iter, ifs, 0⟩] scope pos) spos) (asgX i [] (compX is fi ft fe)) :=
  ex_assign0 nk hy (ev_compF hf co hi hix ht he hs) (swap_comp hsw)
end Mine

set_option Elab.async false
set_option linter.unusedVariables false
set_option autoImplicit false
open PySem
namespace Mine
section
variable {c : Cx}

/-! x.find(e), of strs -/
/-! x.index(e), of lists -/
/-! a, b, c = e -/
inductive NamesIx (ns : List Str) : List Expr → List Nat → Prop
  | nil : NamesIx ns [] []
  | cons {x p i es is} : HasIdx ns x i → NamesIx ns es is → NamesIx ns (.Name x p :: es) (i :: is)
noncomputable def setsX : List Nat → List PyData → St → St
  | i :: is, d :: ds, σ => setsX is ds (σ.set i (some (d, 0)))
  | _, _, σ => σ
noncomputable def unpX (is fz : List Nat) (f : XE) : XS := fun σ => match f (freezeL fz σ) with
  | some (.tuple ds, k) => if k = 0 ∧ ds.length = is.length then some (.next, setsX is ds (freezeL fz σ)) else none
  | _ => none
theorem NamesIx.len {ns : List Str} {es : List Expr} {is : List Nat} (h : NamesIx ns es is) (env : Env) : (assignEach es env).length = is.length := by
  induction h with
  | nil => rfl
  | cons _ _ ih => exact congrArg (· + 1) ih
theorem NamesIx.star {ns : List Str} {es : List Expr} {is : List Nat} (h : NamesIx ns es is) (env : Env) : (assignEach es env).findIdx? (·.1) = none := by
  rw [List.findIdx?_eq_none_iff]
  induction h with
  | nil => intro x hx; cases hx
  | cons _ _ ih =>
    intro x hx
    rcases List.mem_cons.mp hx with rfl | hx
    · rfl
    · exact ih x hx
theorem stores_names {A : Around} {env : Env} (nk : NsOk c) (ok : EnvOk c A env) {hb : Heap} {Oo : List Addr} {es : List Expr} {is : List Nat} (hn : NamesIx c.ns es is) : ∀ {os : List (List Addr)} {s : Shared} {σ : St} {vs : List Value} {ds : List PyData},
    RelS c env hb Oo os s.heap σ → RepAll (os.flatten ++ Oo) s.heap vs ds → ds.length = is.length →
    wpAny c.M A (assignInOrder ((assignEach es env).map (·.2)) vs) (fun _ s' => ∃ os', Aft c env hb Oo os s .next (setsX is ds σ) .next os' s') NoE s := by
  induction hn with
  | nil =>
    intro os s σ vs ds r ra hl
    cases ds with
    | nil => cases ra; exact wpAny_pure ⟨os, Aft.refl r trivial⟩
    | cons _ _ => cases hl
  | @cons x p i es is hi hn ih =>
    intro os s σ vs ds r ra hl
    cases ra with
    | nil => cases hl
    | @cons v vs d ds rv ra =>
      refine PyProof.Rows.assignInOrder_cons (PyProof.Rows.assign_Name (r.store nk ok hi.get (Kps.refl _ _) (k := 0) rv rfl fun s2 os' aft e2 => ?_))
      obtain ⟨vals, F, _⟩ := r.fr
      refine wpAny_mono (ih aft.rel (ra.moveS fun b o nb e sq => ⟨(e2 b (F.notSeq e sq)).trans e, fun m => nb ?_⟩) (by simpa using hl)) (fun _ s3 h3 => ?_) fun _ _ f => f
      · rcases List.mem_append.mp m with m | m
        · rcases aft.sub b m with m | q
          · exact List.mem_append_left _ m
          · rw [q] at e; cases e
        · exact List.mem_append_right _ m
      · obtain ⟨os3, a3⟩ := h3
        exact ⟨os3, aft.then a3⟩
theorem ex_unpack {es : List Expr} {k0 : Nat} {tpos pos : Pos} {e : Expr} {is fz : List Nat} {f : XE} (nk : NsOk c) (hn : NamesIx c.ns es is) (hz : EscIx c.ns (esc e) fz) (he : EvS c e f)
    (hs : ∀ env : Env, swapsWithSole [.Tuple es k0 tpos] e pos.line env = pure false := by intro _; rfl) (hw : ∀ env : Env, swappedStores [.Tuple es k0 tpos] e env = pure none := by intro _; rfl) :
    Ex1 c (.Assign [.Tuple es k0 tpos] e pos) (unpX is fz f) := .mk fun {A env} ok hb Oo os s σ r fl σ' h => by
  obtain ⟨os1, r1, h1⟩ := r.freeze nk fz
  unfold unpX at h
  split at h
  · rename_i ds k q
    split at h
    · rename_i hc
      obtain ⟨rfl, hl⟩ := hc
      cases h
      refine PyProof.Rows.Assign_Tuple (wpAny_mono (he.run ok (r1.rel nk ok) q) (fun v s1 hv => ?_) fun _ _ f => f) (hs env) (hw env)
      obtain ⟨a, vs, rfl, _, ⟨⟨n, ta⟩, tz⟩, ra⟩ := Rep.tup hv.2
      have hsz := LstAt.size (h := s1.heap) (a := a) ra
      refine wpAny_assign_Tuple ok.a.handled (⟨_, ta, rfl, _, rfl⟩ : s1.heap.IsTuple a vs) (by rw [hn.len, hsz, hl]) (hn.star env) fun h' hx => ?_
      have kp : Kp s1.heap h' := fun b o e => hx b o (Nat.ne_of_lt (Heap.lt_size e)) e
      have K2 : Kps c.gn s { s1 with heap := h' } := hv.1.heap (t := s1.toks) kp
      refine wpAny_mono (stores_names nk ok hn (s := { s1 with heap := h' }) (r1.keeps K2.kp) (ra.keeps kp) hl) (fun _ s3 h3 => ?_) fun _ _ f => f
      obtain ⟨os3, a3⟩ := h3
      exact ⟨os3, Aft.from h1 (RelS.after K2 a3)⟩
    · cases h
  · cases h
/-! a tuple to look at only -/
end
end Mine

set_option Elab.async false
set_option linter.unusedVariables false
set_option autoImplicit false
open PySem
namespace Mine
section
variable {c : Cx}

/-! x = y.pop() -/
noncomputable def popX (i j : Nat) : XS := fun σ => match σ[j]? with
  | some (some (.list xs, 1)) => (match xs[xs.length - 1]? with
    | some d => some (.next, (σ.set j (some (.list (xs.eraseIdx (xs.length - 1)), 1))).set i (some (d, 0)))
    | none => none)
  | _ => none
theorem ex_pop {x y : Str} {p p1 apos cpos pos : Pos} {i j : Nat} (nk : NsOk c) (hi : HasIdx c.ns x i) (hj : HasIdx c.ns y j) (hline : (apos.endLine == cpos.line) = true) :
    Ex1 c (.Assign [.Name x p] (.Call (.Attribute (.Name y p1) "pop" apos) [] [] cpos) pos) (popX i j) := .mk fun {A env} ok hb Oo os s σ r fl σ' h => by
  unfold popX at h
  split at h
  · rename_i xs e1
    split at h
    · rename_i d hd
      cases h
      obtain ⟨v, hv, w⟩ := r.get nk ok hj.get e1
      obtain ⟨a, _, rfl, e0, hos, hm, _⟩ := w
      obtain ⟨a', hos', vs, l, ra⟩ := r.own1 hj.get e1
      rw [hos] at hos'; cases hos'
      refine wpAny_Assign_Name (Call_method0 (base_Name ..) hline (wpAny_Name (wpAny_var ok hv ?_) (ok.dbg y (List.mem_of_getElem? hj.get)))) rfl
      have hsz := LstAt.size (h := s.heap) (a := a) ra
      obtain ⟨u, hu, ru⟩ := ra.get hd
      obtain ⟨⟨n, lg⟩, lz⟩ := id l
      have hu' : vs[vs.size - 1]? = some u := by rw [hsz]; simpa using hu
      refine ⟨"list", "list.pop", F.plainAttrs_list, F.slot_list_pop, F.type_list_pop, l.isList.typeIs, fun b hb => by cases hb; exact ⟨_, l.1.choose_spec, rfl⟩, P.pop_list lg hu' ?_ lz⟩
      obtain ⟨r2, hsub2⟩ := r.mutate nk hj.get e1 hos (Heap.SameBut.update s.heap a (Obj.mapSeq fun xs => xs.eraseIdxIfInBounds (vs.size - 1))) (vs := vs.eraseIdxIfInBounds (vs.size - 1)) (ys := xs.eraseIdx (xs.length - 1)) ⟨⟨_, IsL.update (n := n) lg (fun xs => xs.eraseIdxIfInBounds (vs.size - 1))⟩, by rw [← Array.length_toList, Array.toList_eraseIdxIfInBounds]; exact Nat.le_trans (List.length_eraseIdx_le ..) (by rw [Array.length_toList]; exact lz)⟩
        (by rw [Array.toList_eraseIdxIfInBounds, hsz]; exact ra.erase (xs.length - 1))
      have haO : a ∈ os.flatten := mem_getD_flatten (i := j) (by rw [hos]; exact List.mem_cons_self)
      have a1 : Aft c env hb Oo os s .next (σ.set j (some (.list (xs.eraseIdx (xs.length - 1)), 1))) .next (os.set j [a]) { s with heap := s.heap.update a (Obj.mapSeq fun xs => xs.eraseIdxIfInBounds (vs.size - 1)) } :=
        ⟨r2, trivial, (Sm.refl _ _).heap _ _, fun b o nb _ e => (Heap.get?_update_other s.heap _ (show a ≠ b from fun e' => nb (e' ▸ haO))).trans e, fun b hb => .inl (hsub2 b hb)⟩
      refine r2.store nk ok hi.get (s := { s with heap := s.heap.update a (Obj.mapSeq fun xs => xs.eraseIdxIfInBounds (vs.size - 1)) }) (Kps.refl _ _) (k := 0) (v := u) (d := d) ?_ rfl fun s2 os2 aft _ => ⟨os2, a1.then aft⟩
      refine ru.move fun b o nb e => ⟨(Heap.get?_update_other s.heap _ (show a ≠ b from fun e' => nb (e' ▸ List.mem_append_left _ haO))).trans e, fun m => nb ?_⟩
      rcases List.mem_append.mp m with m | m
      · exact List.mem_append_left _ (hsub2 b m)
      · exact List.mem_append_right _ m
    · cases h
  · cases h

/-! lists of lists, deep -/
theorem Own1s.get {O : List Addr} {h : Heap} : ∀ {vs : List Value} {ds : List PyData} {as : List Addr}, Own1s O h vs ds as → ∀ {j : Nat} {d : PyData}, ds[j]? = some d → ∃ a xs, as[j]? = some a ∧ vs[j]? = some (.ref a) ∧ d = .list xs ∧ Own1 O h a xs
:= by
  intro vs ds as w
  induction w with
  | nil => intro j d e; cases e
  | cons w _ ih =>
    intro j d e
    cases j with
    | zero => exact ⟨_, _, rfl, rfl, (Option.some.inj e).symm, w⟩
    | succ j => exact ih (j := j) e
theorem Own1s.lens {O : List Addr} {h : Heap} : ∀ {vs : List Value} {ds : List PyData} {as : List Addr}, Own1s O h vs ds as → vs.length = ds.length ∧ as.length = ds.length := by
  intro vs ds as w
  induction w with
  | nil => exact ⟨rfl, rfl⟩
  | cons _ _ ih => exact ⟨congrArg (· + 1) ih.1, congrArg (· + 1) ih.2⟩
theorem Own1s.snoc {O : List Addr} {h : Heap} {a : Addr} {xs : List PyData} (w' : Own1 O h a xs) : ∀ {vs : List Value} {ds : List PyData} {as : List Addr}, Own1s O h vs ds as → Own1s O h (vs ++ [.ref a]) (ds ++ [.list xs]) (as ++ [a]) := by
  intro vs ds as w
  induction w with
  | nil => exact .cons w' .nil
  | cons w _ ih => exact .cons w ih
theorem Own1s.mem {O : List Addr} {h : Heap} : ∀ {vs : List Value} {ds : List PyData} {as : List Addr}, Own1s O h vs ds as → ∀ a ∈ as, ∃ vs', LstAt h a vs' := by
  intro vs ds as w
  induction w with
  | nil => exact fun a ha => nomatch ha
  | cons w _ ih =>
    intro a ha
    rcases List.mem_cons.mp ha with rfl | ha
    · obtain ⟨_, vs', l, _⟩ := w; exact ⟨vs', l⟩
    · exact ih a ha
/-- one inner list is turned, the rest stands -/
theorem Own1s.turn {O O' : List Addr} {h h' : Heap} {b : Addr} {ys : List PyData} (hO : ∀ a, a ∈ O → a ∈ O') (hO' : ∀ a, a ∈ O' → a ∈ O) (hs : Heap.SameBut b h h') (w' : Own1 O' h' b ys) (hbO : b ∈ O) : ∀ {vs : List Value} {ds : List PyData} {as : List Addr} {j : Nat}, Own1s O h vs ds as → as.Nodup → as[j]? = some b → Own1s O' h' vs (ds.set j (.list ys)) as
  | _, _, _, j, .nil, _, e => by simp at e
  | _, _, _, 0, .cons w ws, nd, e => by
    simp only [List.getElem?_cons_zero, Option.some.injEq] at e; subst e
    refine .cons w' ?_
    have hn := (List.nodup_cons.mp nd).1
    clear w nd w'
    induction ws with
    | nil => exact .nil
    | @cons a vs xs ds as w ws ih =>
      obtain ⟨m, vs', l, ra⟩ := w
      refine .cons ⟨hO _ m, vs', ?_, ra.move fun x o nx e => ⟨(hs.2 x fun e' => nx (e' ▸ hbO)).trans e, fun m => nx (hO' _ m)⟩⟩ (ih fun h => hn (List.mem_cons_of_mem _ h))
      exact ⟨⟨_, (hs.2 a fun e' => hn (e' ▸ List.mem_cons_self)).trans l.1.choose_spec⟩, l.2⟩
  | _, _, _, j + 1, .cons w ws, nd, e => by
    simp only [List.getElem?_cons_succ] at e
    obtain ⟨n1, n2⟩ := List.nodup_cons.mp nd
    obtain ⟨m, vs', l, ra⟩ := w
    refine .cons ⟨hO _ m, vs', ?_, ra.move fun x o nx e => ⟨(hs.2 x fun e' => nx (e' ▸ hbO)).trans e, fun m => nx (hO' _ m)⟩⟩ (Own1s.turn hO hO' hs w' hbO ws n2 e)
    exact ⟨⟨_, (hs.2 _ fun e' => n1 (by rw [e']; exact List.mem_of_getElem? e)).trans l.1.choose_spec⟩, l.2⟩

theorem getD_nodup {os : List (List Addr)} {i : Nat} (h : os.flatten.Nodup) : (os.getD i []).Nodup := by
  rw [List.getD_eq_getElem?_getD]
  cases e : os[i]? with
  | none => exact List.nodup_nil
  | some l =>
    have : l ∈ os := List.mem_of_getElem? e
    exact List.Sublist.nodup (List.sublist_flatten_of_mem this) h
/-- a deep list is turned -/
theorem RelS.mutate2 {env : Env} {hb h h' : Heap} {Oo : List Addr} {os : List (List Addr)} {σ : St} (nk : NsOk c) (r : RelS c env hb Oo os h σ) {i : Nat} {x : Str} {xs ys : List PyData} (hi : c.ns[i]? = some x) (e : σ[i]? = some (some (.list xs, 2))) {a : Addr} {as as' : List Addr} (ha : os.getD i [] = a :: as)
    (hnd : (a :: as').Nodup) (hnew : ∀ b ∈ as', b ∈ as ∨ h.get? b = none) (hs : ∀ b o, b ∉ a :: as → h.get? b = some o → h'.get? b = some o) {vs : Array Value} (l : LstAt h' a vs) (w : Own1s ((os.set i (a :: as')).flatten ++ Oo) h' vs.toList ys as') :
    RelS c env hb Oo (os.set i (a :: as')) h' (σ.set i (some (.list ys, 2))) ∧ ∀ b ∈ (os.set i (a :: as')).flatten, b ∈ os.flatten ∨ h.get? b = none := by
  obtain ⟨vals, F, q⟩ := r.fr
  obtain ⟨v, hv, w0⟩ := q i x _ _ hi e
  obtain ⟨a', xs', vs', as0, e1, e2, e3, hm, l', w'⟩ := w0
  rw [ha] at e3; cases e3; cases e2
  have hmem : ∀ b ∈ (os.set i (a :: as')).flatten, b ∈ os.flatten ∨ h.get? b = none := fun b hb' => by
    rcases mem_set_flatten hb' with m | ⟨j, _, m⟩
    · rcases List.mem_cons.mp m with rfl | m
      · exact .inl (mem_getD_flatten (i := i) (by rw [ha]; exact List.mem_cons_self))
      · exact (hnew b m).imp (fun m => mem_getD_flatten (i := i) (by rw [ha]; exact List.mem_cons_of_mem _ m)) id
    · exact .inl (mem_getD_flatten m)
  have hseq : ∀ b ∈ a :: as, ∃ o, h.get? b = some o ∧ IsSeq o := fun b hb' => r.low b (mem_getD_flatten (i := i) (by rw [ha]; exact hb'))
  have hnf : ∀ b, FrAddr env b → b ∉ a :: as := fun b fa hb' => by
    obtain ⟨o, eo, sq⟩ := hseq b hb'
    exact F.notSeq eo sq fa
  have hba : ∀ b ∈ a :: as, hb.get? b = none := fun b hb' => r.own b (mem_getD_flatten (i := i) (by rw [ha]; exact hb'))
  refine ⟨r.step F q (F.keeps fun b o fa e => hs b o (hnf b fa) e) hi (fun _ _ => rfl) nk.nodup hnd (fun b hb' => ?_) (fun b hb' => ?_)
    (fun b o nb _ e => hs b o (by rw [ha] at nb; exact nb) e) (fun b o e => hs b o (fun m => by rw [hba b m] at e; cases e) (r.keep b o e)) fun d k e' => ?_, hmem⟩
  · rw [ha]
    rcases List.mem_cons.mp hb' with rfl | m
    · exact .inl List.mem_cons_self
    · exact (hnew b m).imp (List.mem_cons_of_mem _) id
  · rcases List.mem_cons.mp hb' with rfl | m
    · exact ⟨_, l.1.choose_spec, _, _, rfl⟩
    · obtain ⟨vs', l'⟩ := w.mem b m
      exact ⟨_, l'.1.choose_spec, _, _, rfl⟩
  · cases e'
    have hlo : i < os.length := by rw [r.lenO]; exact (List.getElem?_eq_some_iff.mp hi).1
    exact ⟨v, hv, a, ys, vs, as', e1, rfl, rfl, List.mem_append_left _ (List.mem_flatten.mpr ⟨a :: as', List.mem_of_getElem? (i := i) (List.getElem?_set_self hlo), List.mem_cons_self⟩), l, w⟩

/-! x = [] -/
noncomputable def deep0X (i : Nat) : XS := fun σ => some (.next, σ.set i (some (.list [], 2)))
theorem ex_deep0 {x : Str} {p lp pos : Pos} {i : Nat} (nk : NsOk c) (hi : HasIdx c.ns x i) : Ex1 c (.Assign [.Name x p] (.List [] lp) pos) (deep0X i) := .mk fun {A env} ok hb Oo os s σ r fl σ' h => by
  cases h
  refine wpAny_Assign_Name (wpAny_mono ((ev_lst (c := c) (es := []) (fs := []) args_nil).run ok (r.rel nk ok) (d := .list []) (k := 3) rfl) (fun v s1 hv => ?_) fun _ _ f => f) rfl
  obtain ⟨K, a, xs, vs, rfl, e0, hf, hl, ra⟩ := hv
  cases e0
  obtain ⟨vals, F, q⟩ := r.fr
  have F1 : FrameIs env hb s1.heap vals := F.keeps fun b o _ e => K.kp b o e
  have hx : env.kindOf x = some .local ∨ env.kindOf x = some .cell := by
    show env.scope.names.lookup x = _ ∨ env.scope.names.lookup x = _
    rw [ok.scope]; exact nk.kinds x (List.mem_of_getElem? hi.get)
  refine F1.store ok.kind' hx fun h2 tk F2 e2 => ?_
  have mv : ∀ b o, s1.heap.get? b = some o → IsSeq o → h2.get? b = some o := fun b o e sq => (e2 b (F1.notSeq e sq)).trans e
  have hl2 : LstAt h2 a vs := ⟨⟨_, mv a _ hl.1.choose_spec ⟨_, _, rfl⟩⟩, hl.2⟩
  have hk : ∀ b o, b ∉ os.getD i [] → ¬ FrAddr env b → s.heap.get? b = some o → h2.get? b = some o := fun b o _ nf e => (e2 b nf).trans (K.kp b o e)
  have hkeep : Kp hb h2 := fun b o e => (e2 b fun fa => by
    rcases fa with rfl | ⟨y, hy, hc⟩
    · rw [F.newL] at e; cases e
    · rw [F.newC y b hc] at e; cases e).trans (K.kp b o (r.keep b o e))
  have hvs : vs.toList = [] := by
    have := ra.length
    exact List.length_eq_zero_iff.mp this
  refine ⟨os.set i [a], r.step F q F2 hi.get (fun y hy => by simp [hy]) nk.nodup (by simp) (fun b hb' => .inr (by rw [List.mem_singleton.mp hb']; exact hf)) (fun b hb' => by rw [List.mem_singleton.mp hb']; exact ⟨_, hl2.1.choose_spec, _, _, rfl⟩) hk hkeep fun d' k' e' => ?_, trivial, K.sm.heap _ _, fun b o _ nf e => (e2 b nf).trans (K.kp b o e), fun b hb' => ?_⟩
  · cases e'
    have hlo : i < os.length := by rw [r.lenO]; exact (List.getElem?_eq_some_iff.mp hi.get).1
    exact ⟨_, by simp, a, [], vs, [], rfl, rfl, rfl, List.mem_append_left _ (List.mem_flatten.mpr ⟨[a], List.mem_of_getElem? (i := i) (List.getElem?_set_self hlo), List.mem_cons_self⟩), hl2, by rw [hvs]; exact .nil⟩
  · rcases mem_set_flatten hb' with m | ⟨j, _, m⟩
    · exact .inr (by rw [List.mem_singleton.mp m]; exact hf)
    · exact .inl (mem_getD_flatten m)

/-! x.append([]) -/
noncomputable def deepNX (i : Nat) : XS := fun σ => match σ[i]? with
  | some (some (.list xs, 2)) => if xs.length < 1000000 then some (.next, σ.set i (some (.list (xs ++ [.list []]), 2))) else none
  | _ => none
theorem ex_deepN {x : Str} {p1 apos cpos lp pos : Pos} {i : Nat} (nk : NsOk c) (hi : HasIdx c.ns x i) (hline : (apos.endLine == cpos.line) = true) :
    Ex1 c (.Expr (.Call (.Attribute (.Name x p1) "append" apos) [.List [] lp] [] cpos) pos) (deepNX i) := .mk fun {A env} ok hb Oo os s σ r fl σ' h => by
  unfold deepNX at h
  split at h
  · rename_i xs e1
    split at h
    · rename_i hz
      cases h
      obtain ⟨v, hv, w⟩ := r.get nk ok hi.get e1
      obtain ⟨a, _, vs, as, rfl, e0, hos, hm, l, ws⟩ := w
      cases e0
      have R := r.rel nk ok
      refine wpAny_Expr (Call_method1 (base_Name ..) rfl hline (wpAny_Name (wpAny_var ok hv ?_) (ok.dbg x (List.mem_of_getElem? hi.get)))) (by show (env.scope.kind == .module && _) = false; rw [ok.kind']; rfl) rfl
      refine ⟨"list", "list.append", F.plainAttrs_list, F.slot_list_append, F.type_list_append, l.isList.typeIs, fun b hb => by cases hb; exact ⟨_, l.1.choose_spec, rfl⟩, P.append_list (wpAny_mono ((ev_lst (c := c) (es := []) (fs := []) args_nil).run ok R (d := .list []) (k := 3) rfl) (fun y s1 h1 => ?_) fun _ _ f => f)⟩
      obtain ⟨K, b, xs0, vs0, rfl, e0, hf, hl0, ra0⟩ := h1
      cases e0
      obtain ⟨⟨n, lg⟩, lz⟩ := l.keeps K.kp
      refine ⟨vs, n, lz, lg, ?_⟩
      have hvs0 : vs0.toList = [] := List.length_eq_zero_iff.mp ra0.length
      have hlen := ws.lens
      have hvl : vs.size = xs.length := by have := hlen.1; simpa using this
      have hba : ∀ d ∈ a :: as, ∃ o, s.heap.get? d = some o := fun d hd => by
        obtain ⟨o, e, _⟩ := r.low d (mem_getD_flatten (i := i) (by rw [hos]; exact hd)); exact ⟨o, e⟩
      have hbn : b ∉ a :: as := fun m => by obtain ⟨o, e⟩ := hba b m; rw [hf] at e; cases e
      have hnd : (a :: as).Nodup := by rw [← hos]; exact getD_nodup r.nodup
      have hab : a ≠ b := fun e => hbn (e ▸ List.mem_cons_self)
      have hupd : ∀ d, a ≠ d → (s1.heap.update a (Obj.mapSeq fun xs => xs.push (.ref b))).get? d = s1.heap.get? d := fun d hd => Heap.get?_update_other s1.heap _ hd
      have hl0' : LstAt (s1.heap.update a (Obj.mapSeq fun xs => xs.push (.ref b))) b vs0 := ⟨⟨_, (hupd b hab).trans hl0.1.choose_spec⟩, hl0.2⟩
      have hlo : i < os.length := by rw [r.lenO]; exact (List.getElem?_eq_some_iff.mp hi.get).1
      have hset : ∀ d ∈ a :: (as ++ [b]), d ∈ (os.set i (a :: (as ++ [b]))).flatten ++ Oo := fun d hd => List.mem_append_left _ (List.mem_flatten.mpr ⟨_, List.mem_of_getElem? (i := i) (List.getElem?_set_self hlo), hd⟩)
      have hsub0 : ∀ d, d ∈ (os.set i (a :: (as ++ [b]))).flatten ++ Oo → d ∈ os.flatten ++ Oo ∨ d = b := fun d hd => by
        rcases List.mem_append.mp hd with m | m
        · rcases mem_set_flatten m with m | ⟨j, _, m⟩
          · rcases List.mem_cons.mp m with rfl | m
            · exact .inl hm
            · rcases List.mem_append.mp m with m | m
              · exact .inl (List.mem_append_left _ (mem_getD_flatten (i := i) (by rw [hos]; exact List.mem_cons_of_mem _ m)))
              · exact .inr (List.mem_singleton.mp m)
          · exact .inl (List.mem_append_left _ (mem_getD_flatten m))
        · exact .inl (List.mem_append_right _ m)
      have hws : Own1s ((os.set i (a :: (as ++ [b]))).flatten ++ Oo) (s1.heap.update a (Obj.mapSeq fun xs => xs.push (.ref b))) vs.toList xs as := by
        have : ∀ {vs : List Value} {ds : List PyData} {as' : List Addr}, Own1s (os.flatten ++ Oo) s.heap vs ds as' → (∀ d ∈ as', d ∈ as) → Own1s ((os.set i (a :: (as ++ [b]))).flatten ++ Oo) (s1.heap.update a (Obj.mapSeq fun xs => xs.push (.ref b))) vs ds as' := fun w => by
          induction w with
          | nil => exact fun _ => .nil
          | @cons d vs xs ds as' w ws ih =>
            intro hsub
            obtain ⟨m, vs', l', ra'⟩ := w
            have hd : d ∈ as := hsub d List.mem_cons_self
            have had : a ≠ d := fun e => (List.nodup_cons.mp hnd).1 (e ▸ hd)
            refine .cons ⟨hset d (List.mem_cons_of_mem _ (List.mem_append_left _ hd)), vs', ⟨⟨_, (hupd d had).trans (K.kp _ _ l'.1.choose_spec)⟩, l'.2⟩, ra'.move fun y o ny e => ⟨(hupd y fun e' => ny (e' ▸ hm)).trans (K.kp y o e), fun m => ?_⟩⟩ (ih fun d hd => hsub d (List.mem_cons_of_mem _ hd))
            rcases hsub0 y m with m | rfl
            · exact ny m
            · rw [hf] at e; cases e
        exact this ws fun _ h => h
      obtain ⟨r2, hsub2⟩ := r.mutate2 (h' := s1.heap.update a (Obj.mapSeq fun xs => xs.push (.ref b))) (as' := as ++ [b]) (ys := xs ++ [.list []]) (vs := vs.push (.ref b)) nk hi.get e1 hos
        (by
          rw [← List.cons_append, List.nodup_append]
          exact ⟨hnd, by simp, fun x hx y hy e => by rw [List.mem_singleton.mp hy] at e; exact hbn (e ▸ hx)⟩)
        (fun d hd => (List.mem_append.mp hd).imp id fun m => by rw [List.mem_singleton.mp m]; exact hf)
        (fun d o nd e => (hupd d fun e' => nd (e' ▸ List.mem_cons_self)).trans (K.kp d o e))
        ⟨⟨_, IsL.update (n := n) lg (fun xs => xs.push (.ref b))⟩, by rw [Array.size_push, hvl]; exact Nat.le_trans (Nat.succ_le_of_lt hz) (Nat.le_trans (by decide) line_big)⟩
        (by rw [Array.toList_push]; exact hws.snoc ⟨hset b (List.mem_cons_of_mem _ (List.mem_append_right _ List.mem_cons_self)), vs0, hl0', by rw [hvs0]; exact .nil⟩)
      refine ⟨_, r2, trivial, K.sm.heap _ _, fun d o nd _ e => (hupd d fun e' => nd (e' ▸ mem_getD_flatten (i := i) (by rw [hos]; exact List.mem_cons_self))).trans (K.kp d o e), hsub2⟩
    · cases h
  · cases h

/-! x[e].append(d) -/
noncomputable def deepAX (i : Nat) (fz : List Nat) (g f : XE) : XS := fun σ => match (freezeL fz σ)[i]?, g (freezeL fz σ), f (freezeL fz σ) with
  | some (some (.list xs, 2)), some (.int z, _), some (d, k) => (match ixOf z xs.length with
    | some j => (match xs[j]? with
      | some (.list ys) => if (k == 0 || k == 3) = true ∧ ys.length < 1000000 then some (.next, (freezeL fz σ).set i (some (.list (xs.set j (.list (ys ++ [d]))), 2))) else none
      | _ => none)
    | none => none)
  | _, _, _ => none
theorem base_Sub (o i : Expr) (p : Pos) (n : Str) (env : Env) : attributeBase (.Subscript o i p) n env (eval (.Subscript o i p) env) = eval (.Subscript o i p) env := rfl
theorem ex_deepA {x : Str} {p1 p2 apos cpos pos : Pos} {ie e : Expr} {i : Nat} {fz : List Nat} {g f : XE} (nk : NsOk c) (hi : HasIdx c.ns x i) (hz : EscIx c.ns (esc e) fz) (hie : EvS c ie g) (he : EvS c e f) (hline : (apos.endLine == cpos.line) = true)
    (hs : ∀ o i, subscripted ie false o i = operate [o, i] (getItem o i) := by intro _ _; rfl) (hp : Plain [e] := by intro _; rfl) :
    Ex1 c (.Expr (.Call (.Attribute (.Subscript (.Name x p1) ie p2) "append" apos) [e] [] cpos) pos) (deepAX i fz g f) := .mk fun {A env} ok hb Oo os0 s σ r0 fl σ' h => by
  obtain ⟨os, r, hsubz⟩ := r0.freeze nk fz
  unfold deepAX at h
  split at h
  · rename_i xs z k1 d k e1 e2 e3
    split at h
    · rename_i j hj
      split at h
      · rename_i ys hy
        split at h
        · rename_i hc
          cases h
          obtain ⟨v, hv, w⟩ := r.get nk ok hi.get e1
          obtain ⟨a, _, vs, as, rfl, e0, hos, hm, l, ws⟩ := w
          cases e0
          have R := r.rel nk ok
          obtain ⟨b, ys', hb1, hb2, eb, wb⟩ := ws.get hy
          cases eb
          have hvl : vs.size = xs.length := by have := ws.lens.1; simpa using this
          refine wpAny_Expr (Call_method1 (base_Sub ..) (hp env) hline ?_) (by show (env.scope.kind == .module && _) = false; rw [ok.kind']; rfl) rfl
          refine PyProof.Rows.Subscript_ (wpAny_Name (wpAny_var ok hv ?_) (ok.dbg x (List.mem_of_getElem? hi.get)))
          refine wpAny_mono (hie.run ok R e2) (fun v2 s1 h1 => ?_) fun _ _ f => f
          obtain ⟨K1, rz⟩ := h1
          obtain ⟨t, rfl⟩ := rz.int_inv
          have l1 := l.keeps K1.kp
          refine PyProof.Rows.tail_any l1.isList.typeIs slot_list_getitem.lookup (getItem_lst l1 (by rw [hvl]; exact hj) (by simpa using hb2) ?_) (hs _ _)
          obtain ⟨mb, vb, lb, rb⟩ := wb
          have lb1 := lb.keeps K1.kp
          refine ⟨"list", "list.append", F.plainAttrs_list, F.slot_list_append, F.type_list_append, lb1.isList.typeIs, fun b hb => by cases hb; exact ⟨_, lb1.1.choose_spec, rfl⟩, P.append_list (wpAny_mono (he.run ok (R.keeps K1.kp) e3) (fun y s2 h2 => ?_) fun _ _ f => f)⟩
          obtain ⟨K2, ry⟩ := h2
          have ry' := ry.free (R.keeps K1.kp).low hc.1
          have K := K1.trans K2
          obtain ⟨⟨n, lg⟩, lz⟩ := lb1.keeps K2.kp
          refine ⟨vb, n, lz, lg, ?_⟩
          have hnd : (a :: as).Nodup := by rw [← hos]; exact getD_nodup r.nodup
          have hbm : b ∈ as := List.mem_of_getElem? hb1
          have hab : b ≠ a := fun e => (List.nodup_cons.mp hnd).1 (e ▸ hbm)
          have hsz := LstAt.size (h := s.heap) (a := b) rb
          have hSB := Heap.SameBut.update s2.heap b (Obj.mapSeq fun xs => xs.push y)
          have hlo : i < os.length := by rw [r.lenO]; exact (List.getElem?_eq_some_iff.mp hi.get).1
          have hss : os.set i (a :: as) = os := by
            refine List.ext_getElem? fun j => ?_
            rw [List.getElem?_set]
            by_cases hij : i = j
            · subst hij
              rw [if_pos rfl, if_pos hlo]
              rw [List.getD_eq_getElem?_getD, List.getElem?_eq_getElem hlo] at hos
              rw [List.getElem?_eq_getElem hlo]
              exact congrArg some hos.symm
            · rw [if_neg hij]
          have wT : Own1s (os.flatten ++ Oo) (s2.heap.update b (Obj.mapSeq fun xs => xs.push y)) vs.toList (xs.set j (.list (ys ++ [d]))) as :=
            Own1s.turn (fun _ h => h) (fun _ h => h) hSB ⟨mb, vb.push y, ⟨⟨_, IsL.update (n := n) lg (fun xs => xs.push y)⟩, by rw [Array.size_push, hsz]; exact Nat.le_trans (Nat.succ_le_of_lt hc.2) (Nat.le_trans (by decide) line_big)⟩, by
              rw [Array.toList_push]
              exact ((rb.keeps K.kp).append (.cons ry' .nil)).move fun x o nx e => ⟨(hSB.2 x fun e' => nx (e' ▸ mb)).trans e, nx⟩⟩ mb (ws.keeps K.kp) (List.nodup_cons.mp hnd).2 hb1
          obtain ⟨r2, hsub2⟩ := r.mutate2 (h' := s2.heap.update b (Obj.mapSeq fun xs => xs.push y)) (as' := as) (ys := xs.set j (.list (ys ++ [d]))) (vs := vs) nk hi.get e1 hos hnd (fun d hd => .inl hd)
            (fun x o nx e => (hSB.2 x fun e' => nx (e' ▸ List.mem_cons_of_mem _ hbm)).trans (K.kp x o e)) ⟨⟨_, (hSB.2 a hab.symm).trans (K.kp _ _ l.1.choose_spec)⟩, l.2⟩ (by rw [hss]; exact wT)
          refine ⟨_, Aft.from hsubz ⟨r2, trivial, K.sm.heap _ _, fun x o nx _ e => (hSB.2 x fun e' => nx (e' ▸ mem_getD_flatten (i := i) (by rw [hos]; exact List.mem_cons_of_mem _ hbm))).trans (K.kp x o e), hsub2⟩⟩
        · cases h
      · cases h
    · cases h
  · cases h
end
end Mine

set_option Elab.async false
set_option linter.unusedVariables false
set_option autoImplicit false
open PySem
namespace Mine

theorem compTurn_in (elt t1 i1 : Expr) (ifs1 : List Expr) (target iter : Expr) (ifs : List Expr) (scope : Scope) (pos : Pos) (it acc : Value) (env : Env) :
    compTurn (.ListComp elt [⟨t1, i1, ifs1, 0⟩, ⟨target, iter, ifs, 0⟩] scope pos) 1 it acc env = (do
      standAt iter.pos
      match ← pyNext it with
      | none => pure (.done .next)
      | some v =>
        letOwnedTupleGo target it v
        assign target env v
        let mut ok := true
        for c in ifs do
          if ok then ok ← isTrue c env (eval c env)
        if ok then
          (do let _ ← call (.builtin "list.append") [acc, ← eval elt env])
        again (.compLoop (.ListComp elt [⟨t1, i1, ifs1, 0⟩, ⟨target, iter, ifs, 0⟩] scope pos) 1 it acc env)) := by rfl
theorem compTurn_out (elt t1 i1 : Expr) (ifs1 : List Expr) (target iter : Expr) (ifs : List Expr) (scope : Scope) (pos : Pos) (it acc : Value) (env : Env) :
    compTurn (.ListComp elt [⟨t1, i1, ifs1, 0⟩, ⟨target, iter, ifs, 0⟩] scope pos) 0 it acc env = (do
      standAt i1.pos
      match ← pyNext it with
      | none => pure (.done .next)
      | some v =>
        letOwnedTupleGo t1 it v
        assign t1 env v
        let mut ok := true
        for c in ifs1 do
          if ok then ok ← isTrue c env (eval c env)
        if ok then
          let x ← eval iter env
          standAt iter.pos
          let x ← foldedSetIterable iter env x
          let _ ← runOwn (.compStart (.ListComp elt [⟨t1, i1, ifs1, 0⟩, ⟨target, iter, ifs, 0⟩] scope pos) 1 (← holding [x] (pyIter x)) acc env) env
        again (.compLoop (.ListComp elt [⟨t1, i1, ifs1, 0⟩, ⟨target, iter, ifs, 0⟩] scope pos) 0 it acc env)) := by rfl
section
variable {prog : Program} {w : World} {A : Around} {E : Value → Shared → Prop} {R : Result → Shared → Prop} {s : Shared}
theorem codeAny_compLoop_in {elt t1 i1 target iter : Expr} {ifs1 ifs : List Expr} {scope : Scope} {pos : Pos} {it acc : Value} {env : Env} (I : Nat → Shared → Prop)
    (turn : ∀ n s, I n s → wpAny (model prog w) A (pyNext it) (fun r s₁ => match r with
      | none => R (.ok .next) s₁
      | some v => wpAny (model prog w) A (assign target env v) (fun _ s₂ =>
          wpAny (model prog w) A (forIn ifs true fun c r => if r = true then do let ok ← isTrue c env (eval c env); pure (ForInStep.yield ok) else pure (ForInStep.yield r)) (fun ok s₃ =>
            if ok = true then wpAny (model prog w) A (eval elt env) (fun x s₄ =>
              wpAny (model prog w) A (call (.builtin "list.append") [acc, x]) (fun _ s₅ => ∃ m, m < n ∧ I m s₅) (notedBy (model prog w) A env fun e s' => R (.error e) s') s₄) (notedBy (model prog w) A env fun e s' => R (.error e) s') s₃
            else ∃ m, m < n ∧ I m s₃) (notedBy (model prog w) A env fun e s' => R (.error e) s') s₂) (notedBy (model prog w) A env fun e s' => R (.error e) s') s₁) (notedBy (model prog w) A env fun e s' => R (.error e) s') s)
    (n : Nat) (h : I n s) (ht : ∀ v, letOwnedTupleGo target it v = pure () := by intro _; rfl) :
    codeAny (model prog w) A (.compLoop (.ListComp elt [⟨t1, i1, ifs1, 0⟩, ⟨target, iter, ifs, 0⟩] scope pos) 1 it acc env) R s := by
  refine codeAny_loop rfl I (fun n s hI => ?_) n h
  show wpAny _ A ((compTurn (.ListComp elt [⟨t1, i1, ifs1, 0⟩, ⟨target, iter, ifs, 0⟩] scope pos) 1 it acc env).onRaise (fun x => do noteFrame x env; theTreesLotGoes x)) _ _ s
  refine wpAny_noted ?_
  rw [compTurn_in]
  refine wpAny_bind (wpAny_standAt (wpAny_bind (wpAny_mono (turn n s hI) (fun r s₁ h₁ => ?_) fun _ _ h' => h')))
  cases r with
  | none => exact wpAny_pure h₁
  | some v =>
    refine wpAny_bind (wpAny_of_eq (ht v) ?_)
    refine wpAny_bind (wpAny_mono h₁ (fun _ s₂ h₂ => wpAny_bind (wpAny_mono h₂ (fun ok s₃ h₃ => ?_) fun _ _ h' => h')) fun _ _ h' => h')
    cases ok with
    | false => exact wpAny_pure ⟨rfl, h₃⟩
    | true =>
      exact wpAny_bind (wpAny_bind (wpAny_mono h₃ (fun x s₄ h₄ => wpAny_bind (wpAny_mono h₄ (fun _ s₅ h₅ => wpAny_pure (wpAny_pure ⟨rfl, h₅⟩)) fun _ _ h' => h')) fun _ _ h' => h'))
theorem codeAny_compStart_in {elt t1 i1 target iter : Expr} {ifs1 ifs : List Expr} {scope : Scope} {pos : Pos} {it acc : Value} {env : Env}
    (h0 : codeAny (model prog w) A (.compLoop (.ListComp elt [⟨t1, i1, ifs1, 0⟩, ⟨target, iter, ifs, 0⟩] scope pos) 1 it acc env) R s)
    (h : wpAny (model prog w) A (pyIter it) (fun it' s' => codeAny (model prog w) A (.compLoop (.ListComp elt [⟨t1, i1, ifs1, 0⟩, ⟨target, iter, ifs, 0⟩] scope pos) 1 it' acc env) R s')
      (notedBy (model prog w) A env fun x s' => R (.error x) s') s) :
    codeAny (model prog w) A (.compStart (.ListComp elt [⟨t1, i1, ifs1, 0⟩, ⟨target, iter, ifs, 0⟩] scope pos) 1 it acc env) R s := by
  refine codeAny_of_tree ?_
  show wpAny _ _ ((compStart (.ListComp elt [⟨t1, i1, ifs1, 0⟩, ⟨target, iter, ifs, 0⟩] scope pos) 1 it acc env).onRaise (fun x => do noteFrame x env; standAt theWindowsPlace)) _ _ s
  refine wpAny_notedAt ?_
  unfold compStart
  show wpAny _ _ (ask >>= _) _ _ s
  refine wpAny_bind (wpAny_askSetting (wpAny_ite ?_))
  split
  · first
      | exact wpAny_bind (wpAny_pure (wpAny_pure (And.intro rfl h0)))
      | exact wpAny_pure (And.intro rfl h0)
  · first
      | exact wpAny_bind (wpAny_rule (wpAny_bind (wpAny_standAt (wpAny_bind (wpAny_mono h (fun it' s' h' => wpAny_pure (And.intro rfl h')) fun _ _ x => x)))))
      | (refine wpAny_bind (wpAny_rule ?_); show wpAny _ _ (standAt iter.pos >>= _) _ _ s; exact wpAny_bind (wpAny_standAt (wpAny_bind (wpAny_mono h (fun it' s' h' => wpAny_pure (And.intro rfl h')) fun _ _ x => x))))
theorem codeAny_compLoop_out {elt t1 i1 target iter : Expr} {ifs : List Expr} {scope : Scope} {pos : Pos} {it acc : Value} {env : Env} (I : Nat → Shared → Prop)
    (turn : ∀ n s, I n s → wpAny (model prog w) A (pyNext it) (fun r s₁ => match r with
      | none => R (.ok .next) s₁
      | some v => wpAny (model prog w) A (assign t1 env v) (fun _ s₂ => wpAny (model prog w) A (eval iter env) (fun x s₃ => wpAny (model prog w) A (pyIter x) (fun it2 s₄ =>
          codeAny (model prog w) A (.compStart (.ListComp elt [⟨t1, i1, [], 0⟩, ⟨target, iter, ifs, 0⟩] scope pos) 1 it2 acc env) (fun r s₅ => r = .ok .next ∧ ∃ m, m < n ∧ I m s₅) s₄) NoE s₃) NoE s₂) NoE s₁) NoE s)
    (n : Nat) (h : I n s) (ht : ∀ v, letOwnedTupleGo t1 it v = pure () := by intro _; rfl) (hf : ∀ x, foldedSetIterable iter env x = pure x := by intro _; rfl) :
    codeAny (model prog w) A (.compLoop (.ListComp elt [⟨t1, i1, [], 0⟩, ⟨target, iter, ifs, 0⟩] scope pos) 0 it acc env) R s := by
  refine codeAny_loop rfl I (fun n s hI => ?_) n h
  show wpAny _ A ((compTurn (.ListComp elt [⟨t1, i1, [], 0⟩, ⟨target, iter, ifs, 0⟩] scope pos) 0 it acc env).onRaise (fun x => do noteFrame x env; theTreesLotGoes x)) _ _ s
  refine wpAny_noted ?_
  rw [compTurn_out]
  refine wpAny_bind (wpAny_standAt (wpAny_bind (wpAny_mono (turn n s hI) (fun r s₁ h₁ => ?_) fun _ _ h' => h'.elim)))
  cases r with
  | none => exact wpAny_pure h₁
  | some v =>
    refine wpAny_bind (wpAny_of_eq (ht v) ?_)
    refine wpAny_bind (wpAny_mono h₁ (fun _ s₂ h₂ => wpAny_bind (wpAny_tests_nil ?_)) fun _ _ h' => h'.elim)
    rw [if_pos rfl]
    refine wpAny_bind (wpAny_mono h₂ (fun x s₃ h₃ => ?_) fun _ _ h' => h'.elim)
    refine wpAny_bind (wpAny_standAt (wpAny_bind (wpAny_of_eq (hf x) (wpAny_bind (wpAny_holding (wpAny_mono h₃ (fun it2 s₄ h₄ => ?_) fun _ _ h' => h'.elim))))))
    refine wpAny_bind (wpAny_runOwn (codeAny_mono h₄ fun r s₅ h₅ => ?_))
    obtain ⟨rfl, h₅⟩ := h₅
    exact wpAny_pure ⟨rfl, h₅⟩
end
end Mine

set_option Elab.async false
set_option linter.unusedVariables false
set_option autoImplicit false
open PySem
namespace Mine
section
variable {c : Cx}
noncomputable def comp2Cx (c : Cx) (scope : Scope) (x y : Str) : Cx := { b := c.b, scope := relS scope c.scope, ns := y :: x :: freeNames scope.names, lvl := c.lvl, gn := false }
noncomputable def comp2L (fs : St) (fi : XI) (ft : St → Option Bool) (fe : XE) : List PyData → Option (List PyData)
  | [] => some []
  | d :: ds => match fi (some (d, 0) :: fs) with
    | some (ys, k) => if (k == 0 || k == 3) = true then (match compL (some (d, 0) :: fs) ft fe ys with
      | some es => (comp2L fs fi ft fe ds).map (es ++ ·)
      | none => none) else none
    | none => none
noncomputable def comp2X (is : List Nat) (f1 f2 : XI) (ft : St → Option Bool) (fe : XE) : XE := fun σ => match f1 σ, freeOf is σ with
  | some (xs, _), some fs => (match comp2L fs f2 ft fe xs with
    | some ds => if ds.length ≤ 1000000 then some (.list ds, 3) else none
    | none => none)
  | _, _ => none

theorem comp_rel2 {scope : Scope} {x y : Str} (co : CompOk c scope x) (co2 : CompOk c scope y) {is : List Nat} (hi : HasIdxs c.ns (freeNames scope.names) is) {env : Env} (he : env.scope = c.scope) {O : List Addr} {h : Heap} {σ fs : St} (R : Rel c env O h σ)
    (hf : freeOf is σ = some fs) {cl : List (Str × Addr)} (hcl : ∀ n ∈ freeNames scope.names, cl.lookup n = env.cells.lookup n) {C : Addr} {m : Str → Option Value} (hn : h.Ns C m) {v : Value} (hv : m x = some v) {d : PyData} (rv : Rep O h v d) {v2 : Value} (hv2 : m y = some v2) {d2 : PyData} (rv2 : Rep O h v2 d2) :
    Rel (comp2Cx c scope x y) (compEnvC scope cl C env) O h (some (d2, 0) :: some (d, 0) :: fs) where
  top := R.top
  low := R.low
  off := R.off
  var := fun i z e k h1 h2 => by
    cases i with
    | zero =>
      simp only [comp2Cx, List.getElem?_cons_zero, Option.some.injEq] at h1 h2
      subst h1; cases h2
      exact ⟨v2, [], .inl ⟨lookup_relabel_local co2.tgt, m, hn, hv2⟩, rfl, rv2⟩
    | succ i => exact (comp_rel co hi he R hf hcl hn hv rv).var i z e k (by simpa [comp2Cx, compCx] using h1) (by simpa using h2)
theorem comp_env2 {scope : Scope} {x y : Str} (co : CompOk c scope x) (co2 : CompOk c scope y) {A : Around} {env : Env} (ok : EnvOk c A env) (cl : List (Str × Addr)) (C : Addr) : EnvOk (comp2Cx c scope x y) A (compEnvC scope cl C env) where
  base := ok.base
  a := ok.a
  scope := by show relabel scope env = _; rw [relabel_eq, ok.scope]; rfl
  kind := co.kind
  globals := ok.globals
  builtins := ok.builtins
  dbg := fun n hn => by
    rcases List.mem_cons.mp hn with rfl | hn
    · exact co2.dbg _ List.mem_cons_self
    · exact co.dbg _ hn

inductive CiI (s : Shared) (T : Nat → Heap → Prop) (wr O : List Addr) (n : Nat) (D C : Addr) (x : Str) (v : Value) (G : List PyData → Option (List PyData)) (ys tgt : List PyData) : Nat → Shared → Prop
  | mk (h' : Heap) (tk : Nat) (m' : Str → Option Value) (zs : Array Value) (i : Nat) (fs' rest : List PyData) : i ≤ n → T i h' → LstAt h' D zs → h'.Ns C m' → m' x = some v → (∀ b o, b ≠ C → b ∉ wr → b ≠ D → s.heap.get? b = some o → h'.get? b = some o) →
    RepAll (wr ++ O) h' zs.toList fs' → G (ys.drop i) = some rest → fs' ++ rest = tgt → CiI s T wr O n D C x v G ys tgt (n + 1 - i) { s with heap := h', toks := tk }
inductive CiP (s : Shared) (wr O : List Addr) (D C : Addr) (tgt : List PyData) : Shared → Prop
  | mk (h' : Heap) (tk : Nat) (m' : Str → Option Value) (arr' : Array Value) : h'.Ns C m' → LstAt h' D arr' → (∀ b o, b ≠ C → b ∉ wr → b ≠ D → s.heap.get? b = some o → h'.get? b = some o) → RepAll (wr ++ O) h' arr'.toList tgt → CiP s wr O D C tgt { s with heap := h', toks := tk }
theorem comp_inner {elt i1 iter : Expr} {x y : Str} {px py : Pos} {ifs : List Expr} {scope : Scope} {pos : Pos} {is : List Nat} {ft : St → Option Bool} {fe : XE} (co : CompOk c scope x) (co2 : CompOk c scope y) (hxy : x ≠ y) (hix : HasIdxs c.ns (freeNames scope.names) is)
    (ht : TestsS (comp2Cx c scope x y) ifs ft) (he : EvS (comp2Cx c scope x y) elt fe) {A : Around} {env : Env} (ok : EnvOk c A env) {O O₀ X : List Addr} (hOX : O = X ++ O₀) {hB : Heap} {s : Shared} {σ fs : St} (R₀ : Rel c env O₀ hB σ) (kpB : Kp hB s.heap) (e2 : freeOf is σ = some fs)
    {cl : List (Str × Addr)} (hcl : ∀ n ∈ freeNames scope.names, cl.lookup n = env.cells.lookup n) {C D : Addr} (hDC : D ≠ C) (hDX : D ∈ X) (hCX : C ∈ X) {m : Str → Option Value} (hn : s.heap.Ns C m) {v : Value} (hv : m x = some v) {d : PyData}
    {I : Addr} {fp wr : List Addr} {n : Nat} {P : Nat → Value → Prop} {T : Nat → Heap → Prop} (W : Walks c.b.prog c.b.w A I fp wr n P T) (hT : T 0 s.heap) (hDf : D ∉ fp) (hCf : C ∉ fp) {ys : List PyData} (hny : n = ys.length) (hP : ∀ i v, i < n → P i v → ∃ d, ys[i]? = some d ∧ Rep (wr ++ O) s.heap v d)
    (hnewX : ∀ b ∈ wr ++ X, hB.get? b = none) (hXs : ∀ b ∈ X, ∃ o, s.heap.get? b = some o) (hTw : ∀ i h, T i h → ∀ b ∈ wr, ∃ o, h.get? b = some o) (rvw : Rep (wr ++ O) s.heap v d)
    {arr : Array Value} {es0 es : List PyData} (hl : LstAt s.heap D arr) (ha : RepAll (wr ++ O) s.heap arr.toList es0) (e3 : compL (some (d, 0) :: fs) ft fe ys = some es) (hz : (es0 ++ es).length ≤ sizeLine) :
    codeAny c.M A (.compStart (.ListComp elt [⟨.Name x px, i1, [], 0⟩, ⟨.Name y py, iter, ifs, 0⟩] scope pos) 1 (.ref I) (.ref D) (compEnvC scope cl C env))
      (fun r s' => r = .ok .next ∧ CiP s wr O D C (es0 ++ es) s') s := by
  have hCw : C ∉ wr := fun h => hCf (W.sub _ h)
  have hDw : D ∉ wr := fun h => hDf (W.sub _ h)
  have hDO : D ∈ O := by rw [hOX]; exact List.mem_append_left _ hDX
  have hCO : C ∈ O := by rw [hOX]; exact List.mem_append_left _ hCX
  have loop : codeAny c.M A (.compLoop (.ListComp elt [⟨.Name x px, i1, [], 0⟩, ⟨.Name y py, iter, ifs, 0⟩] scope pos) 1 (.ref I) (.ref D) (compEnvC scope cl C env))
      (fun r s' => r = .ok .next ∧ CiP s wr O D C (es0 ++ es) s') s := by
    refine codeAny_compLoop_in
      (CiI s T wr O n D C x v (compL (some (d, 0) :: fs) ft fe) ys (es0 ++ es))
      ?_ (n + 1) ⟨s.heap, s.toks, m, arr, 0, es0, es, Nat.zero_le _, hT, hl, hn, hv, fun b o _ _ _ e => e, ha, e3, rfl⟩
    rintro k s' ⟨H, tk, m', zs, i, fs', rest, hin, hT', hl', hn', hvx, hk', hes, hrest, hds⟩
    by_cases hlt : i < n
    · refine W.item i _ _ _ hlt hT' fun u h₄ tk₄ hPu hT₄ hk₄ => ?_
      obtain ⟨du, hdu, ru⟩ := hP i u hlt hPu
      have hy : (compEnvC scope cl C env).kindOf y = some .local := lookup_relabel_local co2.tgt
      refine wpAny_assign_Name (wpAny_storeName_local hy (hn'.at' fun o e => hk₄ _ o hCw e) (fun h₅ hn₅ hs₅ => ?_) (by simp [compEnvC, relabel, co.kind]))
      replace hs₅ : Heap.SameBut C h₄ h₅ := hs₅
      replace hn₅ : h₅.Ns C _ := hn₅
      have hkk : ∀ b o, b ≠ C → b ∉ wr → b ≠ D → s.heap.get? b = some o → h₅.get? b = some o := fun b o h1 h2 h3 e => hs₅.extBut b o h1 (hk₄ b o h2 (hk' b o h1 h2 h3 e))
      have hl₅ : LstAt h₅ D zs := let ⟨⟨q, e⟩, z⟩ := hl'; ⟨⟨q, hs₅.extBut _ _ hDC (hk₄ _ _ hDw e)⟩, z⟩
      have hT₅ : T (i + 1) h₅ := W.frame _ _ _ hT₄ fun b hb o e => hs₅.extBut b o (fun h => hCf (h ▸ hb)) e
      have mvO : ∀ b o, b ∉ wr ++ O → s.heap.get? b = some o → h₅.get? b = some o := fun b o nb e => hkk b o (fun q => nb (by rw [q]; exact List.mem_append_right _ hCO)) (fun q => nb (List.mem_append_left _ q)) (fun q => nb (by rw [q]; exact List.mem_append_right _ hDO)) e
      have hes₅ : RepAll (wr ++ O) h₅ zs.toList fs' := hes.move fun b o nb e => ⟨hs₅.extBut b o (fun q => nb (by rw [q]; exact List.mem_append_right _ hCO)) (hk₄ b o (fun q => nb (List.mem_append_left _ q)) e), nb⟩
      have R₅ : Rel c env (wr ++ O) h₅ σ := by
        have hX₅ : ∀ a ∈ wr ++ X, ∃ o, h₅.get? a = some o := fun a ha => by
          rcases List.mem_append.mp ha with ha | ha
          · exact hTw _ _ hT₅ a ha
          · by_cases h1 : a = D
            · rw [h1]; exact ⟨_, hl₅.1.choose_spec⟩
            · by_cases h2 : a = C
              · rw [h2]; obtain ⟨o, _, _, e, _⟩ := hn₅; exact ⟨o, e⟩
              · by_cases h3 : a ∈ wr
                · exact hTw _ _ hT₅ a h3
                · obtain ⟨o, e⟩ := hXs a ha
                  exact ⟨o, hkk a o h2 h3 h1 e⟩
        have := R₀.more (X := wr ++ X) hnewX (h' := h₅) (fun b o e => hkk b o (fun q => by rw [q, hnewX C (List.mem_append_right _ hCX)] at e; cases e) (fun q => by rw [hnewX b (List.mem_append_left _ q)] at e; cases e) (fun q => by rw [q, hnewX D (List.mem_append_right _ hDX)] at e; cases e) (kpB b o e)) hX₅
        rw [hOX, ← List.append_assoc]; exact this
      have rv₅ : Rep (wr ++ O) h₅ v d := rvw.move fun b o nb e => ⟨mvO b o nb e, nb⟩
      have ru₅ : Rep (wr ++ O) h₅ u du := ru.move fun b o nb e => ⟨mvO b o nb e, nb⟩
      have RC := comp_rel2 co co2 hix ok.scope R₅ e2 hcl hn₅ (v := v) (by simp [hxy, hvx]) rv₅ (v2 := u) (by simp) ru₅
      have okC := comp_env2 co co2 ok cl C
      have hil : i < ys.length := hny ▸ hlt
      have hdrop : ys.drop i = du :: ys.drop (i + 1) := by
        rw [List.drop_eq_getElem_cons hil]
        rw [List.getElem?_eq_getElem hil] at hdu
        cases hdu; rfl
      rw [hdrop] at hrest
      unfold compL at hrest
      split at hrest
      · rename_i ht1
        split at hrest
        · rename_i e k he1
          split at hrest
          · rename_i hk1
            cases q : compL (some (d, 0) :: fs) ft fe (ys.drop (i + 1)) with
            | none => rw [q] at hrest; cases hrest
            | some rest' =>
              rw [q] at hrest; cases hrest
              refine wpAny_mono (ht.run okC (s := { s with heap := h₅, toks := tk₄ + 1 }) RC ht1) (fun r s₆ h₆ => ?_) fun _ _ f => f
              obtain ⟨K₆, rfl⟩ := h₆
              rw [if_pos rfl]
              have RC₆ := RC.keeps K₆.kp
              refine wpAny_mono (he.run okC RC₆ he1) (fun w s₇ h₇ => ?_) fun _ _ f => f.elim
              obtain ⟨K₇, rw₇⟩ := h₇
              have ry' := rw₇.free RC₆.low hk1
              have K₇' := (K₆.trans K₇).strict
              obtain ⟨H₇, tk₇, rfl, kp₇⟩ := K₇'
              have hl₇ := hl₅.keeps kp₇
              have hsz := LstAt.size (h := h₅) (a := D) hes₅
              have hlen : fs'.length + 1 ≤ sizeLine := by
                have := congrArg List.length hds
                rw [List.length_append, List.length_cons] at this
                omega
              refine wpAny_list_append_plain (hsz := hl₇.2) (show Heap.PlainList H₇ _ _ from hl₇.1) fun H₈ hl₈ hs₈ => ?_
              refine ⟨n + 1 - (i + 1), by omega, H₈, _, _, zs.push w, i + 1, fs' ++ [e], rest', hlt, ?_, ⟨hl₈, by rw [Array.size_push, hsz]; exact hlen⟩, (hn₅.keeps kp₇).sameBut hs₈ (Ne.symm hDC), by simp [hxy, hvx], ?_, ?_, q, by rw [List.append_assoc]; exact hds⟩
              · exact W.frame _ _ _ hT₅ fun b hb o e => hs₈.extBut b o (fun h => hDf (h ▸ hb)) (kp₇ b o e)
              · exact fun b o h1 h2 h3 e => hs₈.extBut b o h3 (kp₇ b o (hkk b o h1 h2 h3 e))
              · rw [Array.toList_push]
                exact ((hes₅.keeps kp₇).append (.cons ry' .nil)).move fun b o nb e => ⟨hs₈.extBut b o (fun q => nb (by rw [q]; exact List.mem_append_right _ hDO)) e, nb⟩
          · cases hrest
        · cases hrest
      · rename_i ht1
        refine wpAny_mono (ht.run okC (s := { s with heap := h₅, toks := tk₄ + 1 }) RC ht1) (fun r s₆ h₆ => ?_) fun _ _ f => f
        obtain ⟨K₆, rfl⟩ := h₆
        rw [if_neg Bool.false_ne_true]
        obtain ⟨H₆, tk₆, rfl, kp₆⟩ := K₆.strict
        exact ⟨n + 1 - (i + 1), by omega, H₆, _, _, zs, i + 1, fs', rest, hlt, W.frame _ _ _ hT₅ fun b _ o e => kp₆ b o e, hl₅.keeps kp₆, hn₅.keeps kp₆, by simp [hxy, hvx], fun b o h1 h2 h3 e => kp₆ b o (hkk b o h1 h2 h3 e), hes₅.keeps kp₆, hrest, hds⟩
      · cases hrest
    · have hin' : i = n := by omega
      subst hin'
      refine W.done _ _ _ hT' fun h₄ tk₄ hk₄ => ?_
      have hnil : rest = [] := by
        rw [hny, List.drop_length] at hrest
        cases hrest; rfl
      subst hnil
      rw [List.append_nil] at hds
      subst hds
      refine ⟨rfl, h₄, tk₄, m', zs, hn'.at' fun o e => hk₄ _ o hCw e, let ⟨⟨q, e⟩, z⟩ := hl'; ⟨⟨q, hk₄ _ _ hDw e⟩, z⟩, fun b o h1 h2 h3 e => hk₄ b o h2 (hk' b o h1 h2 h3 e), hes.move fun b o nb e => ⟨hk₄ b o (fun q => nb (List.mem_append_left _ q)) e, nb⟩⟩
  exact codeAny_compStart_in loop (W.self 0 _ _ _ hT loop)
end
end Mine

set_option Elab.async false
set_option linter.unusedVariables false
set_option autoImplicit false
open PySem
namespace Mine
section
variable {c : Cx}
theorem IterVal.off {O : List Addr} {h₀ h : Heap} {k : Nat} {v : Value} {xs : List PyData} (iv : IterVal O h₀ h k v xs) (hk : (k == 0 || k == 3) = true) {b : Addr} (e : v = .ref b) : b ∉ O ∨ h₀.get? b = none := by
  have hk' : k = 0 ∨ k = 3 := by simpa using hk
  cases iv with
  | list l r h0 h3 _ => cases e; exact hk'.elim (fun q => .inl (h0 q)) fun q => .inr (h3 q)
  | tuple l r n => cases e; exact .inl n
  | range _ _ _ _ _ n => cases e; exact .inr n
  | str _ _ => cases e

theorem comp2_core {elt i1 iter : Expr} {x y : Str} {px py : Pos} {ifs : List Expr} {scope : Scope} {pos : Pos} {is : List Nat} {f1 f2 : XI} {ft : St → Option Bool} {fe : XE} (co : CompOk c scope x) (co2 : CompOk c scope y) (hxy : x ≠ y) (hi : ItS c i1 f1) (hix : HasIdxs c.ns (freeNames scope.names) is)
    (hi2 : ItS (compCx c scope x) iter f2) (ht : TestsS (comp2Cx c scope x y) ifs ft) (he : EvS (comp2Cx c scope x y) elt fe) (hs : ∀ env v, foldedSetIterable i1 env v = pure v) (hs2 : ∀ env v, foldedSetIterable iter env v = pure v)
    {A : Around} {env : Env} (ok : EnvOk c A env) {O : List Addr} {s : Shared} {σ : St} (R : Rel c env O s.heap σ)
    {xs : List PyData} {kk : Nat} {fs : St} {ds : List PyData} (e1 : f1 σ = some (xs, kk)) (e2 : freeOf is σ = some fs) (e3 : comp2L fs f2 ft fe xs = some ds) (hdl : ds.length ≤ 1000000) {use : Option (Value → Sem Unit)} {Q : Value → Shared → Prop} {pos' : Pos}
    (hQ : ∀ (D C : Addr) (s' : Shared) (m : Str → Option Value) (ys : Array Value), Kps c.gn s s' → s.heap.get? D = none → s.heap.get? C = none → D ≠ C → s'.heap.Ns C m → LstAt s'.heap D ys → RepAll (D :: C :: O) s'.heap ys.toList ds →
      compPost c.M A NoE use Q (.ref D) C (.ok .next) s') :
    wpAny c.M A (comprehension (.ListComp elt [⟨.Name x px, i1, [], 0⟩, ⟨.Name y py, iter, ifs, 0⟩] scope pos) scope env pos' (newList []) false (eval i1 env) use) Q NoE s := by
  have hcells : ∀ n ∈ freeNames scope.names, ∃ a, env.cells.lookup n = some a := fun n hn => by
    obtain ⟨j, hj⟩ := List.getElem?_of_mem hn
    obtain ⟨i, hi', hl⟩ := hix.get hj
    obtain ⟨p, hp⟩ := freeOf_some e2 hi'
    obtain ⟨v, os, hv, _⟩ := R.var i n p.1 p.2 hl hp
    rcases hv with ⟨e1, _⟩ | ⟨_, a, hl', _⟩
    · exfalso
      have : env.scope.names.lookup n = some .local := e1
      rw [ok.scope, (co.cell n hn).1] at this
      cases this
    · exact ⟨a, hl'⟩
  obtain ⟨cl, hclos, hcl⟩ := closure_ok env scope hcells
  refine wpAny_comprehension_free (use := use) rfl (hs env) hclos co.kind co.loc (wpAny_mono (hi.run ok R e1) (fun xv s₁ h₁ => ?_) fun _ _ f => f)
  obtain ⟨K₁, iv⟩ := h₁
  refine wpAny_mono (iter_walk ok.a.handled iv) (fun it s₂ h₂ => ?_) fun _ _ f => f
  obtain ⟨I, fp, wr, n, P, T, hn, W, hT, K₂, hz, hwr, hfp, hP, hTw⟩ := h₂
  have kp₂ : Kp s₁.heap s₂.heap := by obtain ⟨_, _, rfl, q⟩ := K₂; exact q
  have K₂' : Kps c.gn s s₂ := K₁.trans (.of K₂)
  refine wpAny_newObj_type (wpAny_newFunctionEnv co.nocell (by intro y hy; simp at hy) (fun h₁ hns₁ hsb₁ => ?_) co.kind)
  dsimp only at hns₁ hsb₁ ⊢
  generalize hH2 : s₂.heap.push { cls := .type "list", dict := none, data := .seq ([] : List Value).toArray } = H2 at hns₁ hsb₁ ⊢
  have hC : H2.objs.size = s₂.heap.objs.size + 1 := by rw [← hH2, Heap.size_push]
  have hDC : s₂.heap.objs.size ≠ H2.objs.size := by rw [hC]; exact Nat.ne_of_lt (Nat.lt_succ_self _)
  have below : ∀ b, b < s₂.heap.objs.size → b ≠ H2.objs.size ∧ b ≠ s₂.heap.objs.size := fun b hb => ⟨by rw [hC]; exact Nat.ne_of_lt (Nat.lt_succ_of_lt hb), Nat.ne_of_lt hb⟩
  have hfp' : ∀ b ∈ fp, b < s₂.heap.objs.size := fun b hb => let ⟨o, e⟩ := (hfp b hb).1; Heap.lt_size e
  have hDf : s₂.heap.objs.size ∉ fp := fun hm => Nat.lt_irrefl _ (hfp' _ hm)
  have hCf : H2.objs.size ∉ fp := fun hm => by have := hfp' _ hm; rw [hC] at this; exact Nat.lt_irrefl _ (Nat.lt_of_succ_lt this)
  have old : Kp s₂.heap h₁ := fun b o e => hsb₁.extBut b o (below b (Heap.lt_size e)).1 (Heap.get?_push_of_some _ (hH2 ▸ Heap.get?_push_of_some _ e))
  have hacc : h₁.get? s₂.heap.objs.size = some { cls := .type "list", dict := none, data := .seq ([] : List Value).toArray } := hsb₁.extBut _ _ hDC (Heap.get?_push_of_some _ (hH2 ▸ Heap.get?_push_size _ rfl))
  have hT₁ : T 0 h₁ := W.frame _ _ _ hT fun b _ o e => old b o e
  have fresh : ∀ a, s₂.heap.objs.size ≤ a → s₂.heap.get? a = none := fun a ha => by
    cases e : s₂.heap.get? a with
    | none => rfl
    | some o' => exact absurd (Heap.lt_size e) (Nat.not_lt.mpr ha)
  have hCw : H2.objs.size ∉ wr := fun h => hCf (W.sub _ h)
  have hDw : s₂.heap.objs.size ∉ wr := fun h => hDf (W.sub _ h)
  have hXnew : ∀ a ∈ s₂.heap.objs.size :: H2.objs.size :: wr, s₁.heap.get? a = none := fun a ha => by
    rcases List.mem_cons.mp ha with rfl | ha
    · exact gone kp₂ (fresh _ (Nat.le_refl _))
    rcases List.mem_cons.mp ha with rfl | ha
    · exact gone kp₂ (fresh _ (by rw [hC]; exact Nat.le_succ _))
    · exact hwr a ha
  have loop : ∀ s₃ : Shared, s₃ = { s₂ with heap := h₁, toks := s₂.toks + ([] : List (Str × Value)).length } →
      codeAny c.M A (.compLoop (.ListComp elt [⟨.Name x px, i1, [], 0⟩, ⟨.Name y py, iter, ifs, 0⟩] scope pos) 0 (.ref I) (.ref s₂.heap.objs.size) (compEnvC scope cl H2.objs.size env))
        (compPost c.M A NoE use Q (.ref s₂.heap.objs.size) H2.objs.size) s₃ := by
    rintro s₃ rfl
    refine codeAny_compLoop_out
      (CoI s₂ T wr O n s₂.heap.objs.size H2.objs.size (comp2L fs f2 ft fe) xs ds)
      ?_ (n + 1) ⟨h₁, _, _, #[], 0, [], ds, Nat.zero_le _, hT₁, ⟨⟨_, hacc⟩, Nat.zero_le _⟩, hns₁, fun b o _ _ _ e => old b o e, .nil, e3, rfl⟩ (hf := hs2 _)
    rintro k s' ⟨H, tk, m', ys, i, es, rest, hin, hT', hl', hn', hk', hes, hrest, hds⟩
    by_cases hlt : i < n
    · refine W.item i _ _ _ hlt hT' fun v h₄ tk₄ hPv hT₄ hk₄ => ?_
      obtain ⟨dv, hdv, rv⟩ := hP i v hlt hPv
      have hx : (compEnvC scope cl H2.objs.size env).kindOf x = some .local := lookup_relabel_local co.tgt
      refine wpAny_assign_Name (wpAny_storeName_local hx (hn'.at' fun o e => hk₄ _ o hCw e) (fun h₅ hn₅ hs₅ => ?_) (by simp [compEnvC, relabel, co.kind]))
      replace hs₅ : Heap.SameBut H2.objs.size h₄ h₅ := hs₅
      replace hn₅ : h₅.Ns H2.objs.size _ := hn₅
      have hkk : ∀ b o, b ≠ H2.objs.size → b ∉ wr → b ≠ s₂.heap.objs.size → s₂.heap.get? b = some o → h₅.get? b = some o := fun b o h1 h2 h3 e => hs₅.extBut b o h1 (hk₄ b o h2 (hk' b o h1 h2 h3 e))
      have kp₅ : Kp s₁.heap h₅ := fun b o e => by
        have e2 := kp₂ b o e
        have hb := below b (Heap.lt_size e2)
        exact hkk b o hb.1 (fun hw => by rw [hwr b hw] at e; cases e) hb.2 e2
      have hl₅ : LstAt h₅ s₂.heap.objs.size ys := let ⟨⟨q, e⟩, z⟩ := hl'; ⟨⟨q, hs₅.extBut _ _ hDC (hk₄ _ _ hDw e)⟩, z⟩
      have hT₅ : T (i + 1) h₅ := W.frame _ _ _ hT₄ fun b hb o e => hs₅.extBut b o (fun h => hCf (h ▸ hb)) e
      have hes₅ : RepAll ((s₂.heap.objs.size :: H2.objs.size :: wr) ++ O) h₅ ys.toList es := hes.move fun b o nb e => ⟨hs₅.extBut b o (fun q => nb (by simp [q])) (hk₄ b o (fun q => nb (by simp [q])) e), nb⟩
      have hX₅ : ∀ a ∈ s₂.heap.objs.size :: H2.objs.size :: wr, ∃ o, h₅.get? a = some o := fun a ha => by
        rcases List.mem_cons.mp ha with rfl | ha
        · exact ⟨_, hl₅.1.choose_spec⟩
        rcases List.mem_cons.mp ha with rfl | ha
        · obtain ⟨o, _, _, e, _⟩ := hn₅; exact ⟨o, e⟩
        · exact hTw _ _ hT₅ a ha
      have R₁ := R.keeps K₁.kp
      have R₅ := R₁.more hXnew kp₅ hX₅
      have rv₅ : Rep ((s₂.heap.objs.size :: H2.objs.size :: wr) ++ O) h₅ v dv := (rv.more fun a ha => (List.mem_append.mp ha).elim (fun e => .inr (hXnew a e)) .inl).keeps kp₅
      have RC := comp_rel co hix ok.scope R₅ e2 hcl hn₅ (v := v) (by simp) rv₅
      have okC := comp_env co ok cl H2.objs.size
      have hil : i < xs.length := hn ▸ hlt
      have hdrop : xs.drop i = dv :: xs.drop (i + 1) := by
        rw [List.drop_eq_getElem_cons hil]
        rw [List.getElem?_eq_getElem hil] at hdv
        cases hdv; rfl
      rw [hdrop] at hrest
      unfold comp2L at hrest
      split at hrest
      · rename_i zs k2 ef
        split at hrest
        · rename_i hk2
          split at hrest
          · rename_i es2 ec
            cases q : comp2L fs f2 ft fe (xs.drop (i + 1)) with
            | none => rw [q] at hrest; cases hrest
            | some rest' =>
              rw [q] at hrest; cases hrest
              refine wpAny_mono (hi2.run okC (s := { s₂ with heap := h₅, toks := tk₄ + 1 }) RC ef) (fun v2 s₆ h₆ => ?_) fun _ _ f => f
              obtain ⟨K₆, iv2⟩ := h₆
              obtain ⟨H₆, tk₆, rfl, kp₆⟩ := K₆.strict
              refine wpAny_mono (iter_walk (b := c.b) ok.a.handled iv2) (fun it2 s₇ h₇ => ?_) fun _ _ f => f
              obtain ⟨I2, fp2, wr2, n2, P2, T2, hn2, W2, hT2, K₇, hz2, hwr2, hfp2, hP2, hTw2⟩ := h₇
              obtain ⟨H₇, tk₇, rfl, kp₇⟩ := K₇
              have kp₅₇ : Kp h₅ H₇ := fun b o e => kp₇ b o (kp₆ b o e)
              have nw2 : ∀ b o, h₅.get? b = some o → b ∉ wr2 := fun b o e hb => by
                have := kp₆ b o e
                rw [hwr2 b hb] at this; cases this
              have nf2 : ∀ b ∈ s₂.heap.objs.size :: H2.objs.size :: wr, b ∉ fp2 := fun b hb hm => by
                obtain ⟨o, e⟩ := hX₅ b hb
                rcases (hfp2 b hm).2 with q | q
                · have := kp₆ b o e; rw [q] at this; cases this
                · rcases iv2.off hk2 q with q | q
                  · exact q (List.mem_append_left _ hb)
                  · have e' : h₅.get? b = some o := e
                    rw [q] at e'; cases e'
              have hlen2 : (es ++ es2).length ≤ sizeLine := by
                have h1 := congrArg List.length hds
                rw [List.length_append, List.length_append] at h1
                rw [List.length_append]
                exact Nat.le_trans (by omega) line_big
              refine codeAny_mono (comp_inner (px := px) (py := py) (i1 := i1) (iter := iter) (pos := pos) (D := s₂.heap.objs.size) (C := H2.objs.size) (X := s₂.heap.objs.size :: H2.objs.size :: wr) (O₀ := O) (hB := s₁.heap) (s := { s₂ with heap := H₇, toks := tk₇ }) (v := v) (d := dv) (es0 := es) (es := es2) (arr := ys) co co2 hxy hix ht he ok rfl R₁ (fun b o e => kp₅₇ b o (kp₅ b o e)) e2 hcl hDC List.mem_cons_self (List.mem_cons_of_mem _ List.mem_cons_self) (hn₅.keeps kp₅₇) (by simp) W2 hT2 (nf2 _ List.mem_cons_self) (nf2 _ (List.mem_cons_of_mem _ List.mem_cons_self)) hn2
                (fun i v hi hv => ?_) (fun b hb => ?_) (fun b hb => ?_) hTw2 ?_ (hl₅.keeps kp₅₇) ?_ ec hlen2) fun r s₈ h₈ => ?_
              · obtain ⟨d2, hd2, r2⟩ := hP2 i v hi hv
                exact ⟨d2, hd2, (r2.more fun a ha => (List.mem_append.mp ha).elim (fun e => .inr (hwr2 a e)) .inl).keeps kp₇⟩
              · rcases List.mem_append.mp hb with hb | hb
                · exact gone (fun b o e => kp₆ b o (kp₅ b o e)) (hwr2 b hb)
                · exact hXnew b hb
              · obtain ⟨o, e⟩ := hX₅ b hb; exact ⟨o, kp₅₇ b o e⟩
              · exact ((rv₅.keeps kp₆).more fun a ha => (List.mem_append.mp ha).elim (fun e => .inr (hwr2 a e)) .inl).keeps kp₇
              · exact ((hes₅.keeps kp₆).more fun a ha => (List.mem_append.mp ha).elim (fun e => .inr (hwr2 a e)) .inl).keeps kp₇
              obtain ⟨rfl, H₈, tk₈, m₈, arr₈, hn₈, hl₈, hk₈, ra₈⟩ := h₈
              refine ⟨rfl, n + 1 - (i + 1), by omega, H₈, tk₈, m₈, arr₈, i + 1, es ++ es2, rest', hlt, ?_, hl₈, hn₈, ?_, ra₈.less fun a ha => List.mem_append_right _ ha, q, by rw [List.append_assoc]; exact hds⟩
              · exact W.frame _ _ _ hT₅ fun b hb o e => hk₈ b o (fun h => hCf (h ▸ hb)) (nw2 b o e) (fun h => hDf (h ▸ hb)) (kp₅₇ b o e)
              · exact fun b o h1 h2 h3 e => hk₈ b o h1 (nw2 b o (hkk b o h1 h2 h3 e)) h3 (kp₅₇ b o (hkk b o h1 h2 h3 e))
          · cases hrest
        · cases hrest
      · cases hrest
    · have hin' : i = n := by omega
      subst hin'
      refine W.done _ _ _ hT' fun h₄ tk₄ hk₄ => ?_
      have hnil : rest = [] := by
        rw [hn, List.drop_length] at hrest
        cases hrest; rfl
      subst hnil
      rw [List.append_nil] at hds
      subst hds
      have hl₄ : LstAt h₄ s₂.heap.objs.size ys := let ⟨⟨q, e⟩, z⟩ := hl'; ⟨⟨q, hk₄ _ _ hDw e⟩, z⟩
      refine hQ s₂.heap.objs.size H2.objs.size { s₂ with heap := h₄, toks := tk₄ } m' ys (K₁.trans (.of ⟨h₄, tk₄, ?_, fun b o e => ?_⟩)) (gone K₂'.kp (fresh _ (Nat.le_refl _))) (gone K₂'.kp (fresh _ (by rw [hC]; exact Nat.le_succ _))) hDC (hn'.at' fun o e => hk₄ _ o hCw e) hl₄ ?_
      · obtain ⟨_, _, rfl, _⟩ := K₂; rfl
      · have e2 := kp₂ b o e
        have hb := below b (Heap.lt_size e2)
        have hw : b ∉ wr := fun hw => by rw [hwr b hw] at e; cases e
        exact hk₄ b o hw (hk' b o hb.1 hw hb.2 e2)
      · exact hes.move fun b o nb e => ⟨hk₄ b o (fun q => nb (by simp [q])) e, fun q => nb (by
          rcases List.mem_cons.mp q with q | q
          · simp [q]
          rcases List.mem_cons.mp q with q | q
          · simp [q]
          · simp [q])⟩
  exact codeAny_compStart_list (loop _ rfl) (W.self 0 _ _ _ hT₁ (loop _ rfl))

theorem ev_comp2 {elt i1 iter : Expr} {x y : Str} {px py : Pos} {ifs : List Expr} {scope : Scope} {pos : Pos} {is : List Nat} {fr : List Str} {f1 f2 : XI} {ft : St → Option Bool} {fe : XE} (hf : FreeNs scope.names fr) (co : compB scope c.scope x = true) (co2 : compB scope c.scope y = true) (hxy : (x == y) = false) (hi : ItS c i1 f1) (hix : HasIdxs c.ns fr is)
    (hi2 : ItS { b := c.b, scope := relS scope c.scope, ns := x :: fr, lvl := c.lvl, gn := false } iter f2) (ht : TestsS { b := c.b, scope := relS scope c.scope, ns := y :: x :: fr, lvl := c.lvl, gn := false } ifs ft) (he : EvS { b := c.b, scope := relS scope c.scope, ns := y :: x :: fr, lvl := c.lvl, gn := false } elt fe)
    (hs : ∀ env v, foldedSetIterable i1 env v = pure v := by intro _ _; rfl) (hs2 : ∀ env v, foldedSetIterable iter env v = pure v := by intro _ _; rfl) :
    EvS c (.ListComp elt [⟨.Name x px, i1, [], 0⟩, ⟨.Name y py, iter, ifs, 0⟩] scope pos) (comp2X is f1 f2 ft fe) := .mk fun {A env} ok O s σ R d k h => by
  have hfr := hf.eq
  subst hfr
  unfold comp2X at h
  split at h
  · rename_i xs kk fs e1 e2
    split at h
    · rename_i ds e3
      split at h
      · rename_i hdl
        cases h
        rw [eval_ListComp]
        refine comp2_core (CompOk.of co) (CompOk.of co2) (by simpa using hxy) hi hix hi2 ht he hs hs2 ok R e1 e2 e3 hdl (use := none) fun D C s' m ys K hD hC hDC hn hl ra => ?_
        refine ⟨m, hn, fun h₅ hs₅ => ?_⟩
        have hl₅ : LstAt h₅ D ys := let ⟨⟨q, e⟩, z⟩ := hl; ⟨⟨q, hs₅.extBut _ _ hDC e⟩, z⟩
        refine ⟨K.but hC hs₅.extBut, D, _, ys, rfl, rfl, hD, hl₅, ?_⟩
        · exact ra.move fun b o nb e => ⟨hs₅.extBut b o (fun q => nb (by simp [q])) e, fun q => nb (by
            rcases List.mem_cons.mp q with q | q
            · simp [q]
            · simp [q])⟩
      · cases h
    · cases h
  · cases h
end
end Mine

set_option Elab.async false
set_option linter.unusedVariables false
set_option autoImplicit false
open PySem PyProof.Rows
namespace Mine

/-! code tables: they alone may grow -/
abbrev Tabs := List (Addr × Addr)
noncomputable def TabsOk (ts : Tabs) (h : Heap) : Prop := ∀ t ∈ ts, ∃ ps, h.IsCode t.1 t.2 ps ∧ h.TableAt t.1 t.2 ps
noncomputable def KpT (ts : Tabs) (h h' : Heap) : Prop := ∀ b o, b ∉ ts.map (·.2) → h.get? b = some o → h'.get? b = some o
theorem KpT.of {ts : Tabs} {h h' : Heap} (k : Kp h h') : KpT ts h h' := fun b o _ e => k b o e
theorem KpT.trans {ts : Tabs} {h h' h'' : Heap} (x : KpT ts h h') (y : KpT ts h' h'') : KpT ts h h'' := fun b o nb e => y b o nb (x b o nb e)
theorem TabsOk.keeps {ts : Tabs} {h h' : Heap} (t : TabsOk ts h) (k : Kp h h') : TabsOk ts h' := fun x hx => let ⟨ps, a, b⟩ := t x hx; ⟨ps, a.keeps k, b.keeps k⟩
theorem TabsOk.at {ts : Tabs} {h : Heap} (t : TabsOk ts h) {P : Addr} (hP : P ∈ ts.map (·.2)) : ∃ ps, h.get? P = some { cls := .none, data := .fields ps } := by
  obtain ⟨x, hx, rfl⟩ := List.mem_map.mp hP
  obtain ⟨ps, _, b⟩ := t x hx
  exact ⟨ps, b.2⟩
theorem TabsOk.notSeq {ts : Tabs} {h : Heap} (t : TabsOk ts h) {b : Addr} {o : Obj} (e : h.get? b = some o) (sq : IsSeq o) : b ∉ ts.map (·.2) := fun hb => by
  obtain ⟨ps, e'⟩ := t.at hb
  obtain ⟨vs, n, q⟩ := sq
  rw [e] at e'; cases e'; cases q
theorem TabsOk.notFr {ts : Tabs} {h hb : Heap} (t : TabsOk ts h) {env : Env} {vals : Str → Option Value} (F : FrameIs env hb h vals) {b : Addr} (fa : FrAddr env b) : b ∉ ts.map (·.2) := fun hm => by
  obtain ⟨ps, e'⟩ := t.at hm
  rcases fa with rfl | ⟨x, hk, hx⟩
  · obtain ⟨m, ⟨o, es, ep, ho, hd, _⟩, _⟩ := F.ns
    rw [e'] at ho; cases ho; cases hd
  · obtain ⟨a, ha, o, ho, hd⟩ := F.cell x hk
    rw [hx] at ha; cases ha
    rw [e'] at ho; cases ho; cases hd

section
variable {c : Cx}
theorem RelS.keepT {ts : Tabs} {env : Env} {hb h h' : Heap} {Oo : List Addr} {os : List (List Addr)} {σ : St} (r : RelS c env hb Oo os h σ) (k : KpT ts h h') (tk : TabsOk ts h) (hbt : ∀ P ∈ ts.map (·.2), hb.get? P = none) (hOo : ∀ a ∈ Oo, a ∉ ts.map (·.2)) : RelS c env hb Oo os h' σ := by
  obtain ⟨vals, F, q⟩ := r.fr
  have kk : Kp hb h' := fun b o e => k b o (fun m => by rw [hbt b m] at e; cases e) (r.keep b o e)
  have ks : ∀ b o, h.get? b = some o → IsSeq o → h'.get? b = some o := fun b o e sq => k b o (tk.notSeq e sq) e
  refine ⟨fun b o e => kk b o (r.htop b o e), kk, fun a ha => ?_, r.own, r.nodup, fun a ha => ?_, r.odis, r.ofr, r.ooff, r.htop, r.lenS, r.lenO, vals, F.keeps fun b o fa e => k b o (tk.notFr F fa) e, fun i x d kd h1 h2 => ?_⟩
  · obtain ⟨o, e, sq⟩ := r.low a ha; exact ⟨o, ks a o e sq, sq⟩
  · obtain ⟨o, e⟩ := r.olow a ha; exact ⟨o, k a o (hOo a ha) e⟩
  · obtain ⟨v, hv, w⟩ := q i x d kd h1 h2
    exact ⟨v, hv, w.move (fun b o nb e sq => ⟨ks b o e sq, nb⟩) fun a ha => ⟨List.mem_append_left _ (mem_getD_flatten ha), fun o e sq => ks a o e sq⟩⟩
/-- an ordinary step leaves the tables -/
theorem tab_move {h h' : Heap} {c P : Addr} {ps : Array Value} (a : h.IsCode c P ps ∧ h.TableAt c P ps) (k : ∀ b o, (b = c ∨ b = P) → h.get? b = some o → (∃ vs, o.data = .fields vs) → h'.get? b = some o) : h'.IsCode c P ps ∧ h'.TableAt c P ps := by
  obtain ⟨⟨o, vs, file, tf, flags, tg, inF, text, tt, op, ho, hd, x1, x2, x3, x4, x5, hop, hpd, x6⟩, ⟨⟨o2, vs2, ho2, y1, y2, y3⟩, y4⟩⟩ := a
  exact ⟨⟨o, vs, file, tf, flags, tg, inF, text, tt, op, k _ _ (.inl rfl) ho ⟨_, hd⟩, hd, x1, x2, x3, x4, x5, k _ _ (.inr rfl) hop ⟨_, hpd⟩, hpd, x6⟩, ⟨o2, vs2, k _ _ (.inl rfl) ho2 ⟨_, y2⟩, y1, y2, y3⟩, k _ _ (.inr rfl) y4 ⟨_, rfl⟩⟩
theorem tab_has {h : Heap} {c P : Addr} {ps : Array Value} (a : h.TableAt c P ps) : h.get? c ≠ none ∧ h.get? P ≠ none := by
  obtain ⟨⟨o2, vs2, ho2, _⟩, y4⟩ := a
  exact ⟨by rw [ho2]; exact Option.some_ne_none _, by rw [y4]; exact Option.some_ne_none _⟩
theorem Aft.tabs {ts : Tabs} {env : Env} {hb : Heap} {Oo : List Addr} {os os' : List (List Addr)} {s s' : Shared} {σ σ' : St} {fl : Fl} {f : Flow} (r : RelS c env hb Oo os s.heap σ) (a : Aft c env hb Oo os s fl σ' f os' s') (tk : TabsOk ts s.heap) : TabsOk ts s'.heap := by
  obtain ⟨vals, F, q⟩ := r.fr
  have keep : ∀ b o, s.heap.get? b = some o → (∃ vs, o.data = .fields vs) → s'.heap.get? b = some o := fun b o e ⟨vs, hd⟩ => a.mod b o (fun m => by
      obtain ⟨o', e', ws, n, hd'⟩ := r.low b m
      rw [e] at e'; cases e'; rw [hd] at hd'; cases hd')
    (fun fa => by
      rcases fa with rfl | ⟨x, hk, hx⟩
      · obtain ⟨m, ⟨o', es, ep, ho, hd', _⟩, _⟩ := F.ns
        rw [e] at ho; cases ho; rw [hd] at hd'; cases hd'
      · obtain ⟨a', ha, o', ho, hd'⟩ := F.cell x hk
        rw [hx] at ha; cases ha
        rw [e] at ho; cases ho; rw [hd] at hd'; cases hd') e
  intro t ht
  obtain ⟨ps, q⟩ := tk t ht
  exact ⟨ps, tab_move q fun b o _ e hd => keep b o e hd⟩

/-- what may change when tables grow -/
noncomputable def Gm (ts : Tabs) (s s' : Shared) : Prop := ∃ h t g, s' = { s with heap := h, toks := t, gens := g } ∧ KpT ts s.heap h ∧ TabsOk ts h ∧ AllBare g
theorem Gm.trans {ts : Tabs} {s s' s'' : Shared} (x : Gm ts s s') (y : Gm ts s' s'') : Gm ts s s'' := by
  obtain ⟨h, t, g, rfl, k, tk, b⟩ := x
  obtain ⟨h', t', g', rfl, k', tk', b'⟩ := y
  exact ⟨h', t', g', rfl, k.trans k', tk', b'⟩

structure AftT (c : Cx) (ts : Tabs) (env : Env) (hb : Heap) (Oo : List Addr) (s : Shared) (fl : Fl) (σ' : St) (f : Flow) (os' : List (List Addr)) (s' : Shared) : Prop where
  rel : RelS c env hb Oo os' s'.heap σ'
  fl : FlOk Oo s'.heap fl f
  sh : ∃ h t g, s' = { s with heap := h, toks := t, gens := g }
  tab : TabsOk ts s'.heap
  bare : AllBare s'.gens

structure ExT (c : Cx) (ts : Tabs) (cc : Addr) (b : List Stmt) (g : XS) : Prop where
  run : ∀ {A : Around} {env : Env}, EnvOk c A env → env.code = .ref cc → ∀ {hb : Heap} {Oo : List Addr} {os : List (List Addr)} {s : Shared} {σ : St}, RelS c env hb Oo os s.heap σ → (∀ P ∈ ts.map (·.2), hb.get? P = none) → (∀ a ∈ Oo, a ∉ ts.map (·.2)) → TabsOk ts s.heap → AllBare s.gens →
    ∀ {fl : Fl} {σ' : St}, g σ = some (fl, σ') → wpAny c.M A (execs b env) (fun f s' => ∃ os', AftT c ts env hb Oo s fl σ' f os' s') NoE s
structure Ex1T (c : Cx) (ts : Tabs) (cc : Addr) (st : Stmt) (g : XS) : Prop where
  run : ∀ {A : Around} {env : Env}, EnvOk c A env → env.code = .ref cc → ∀ {hb : Heap} {Oo : List Addr} {os : List (List Addr)} {s : Shared} {σ : St}, RelS c env hb Oo os s.heap σ → (∀ P ∈ ts.map (·.2), hb.get? P = none) → (∀ a ∈ Oo, a ∉ ts.map (·.2)) → TabsOk ts s.heap → AllBare s.gens →
    ∀ {fl : Fl} {σ' : St}, g σ = some (fl, σ') → wpAny c.M A (exec st env) (fun f s' => ∃ os', AftT c ts env hb Oo s fl σ' f os' s') NoE s
structure EvT (c : Cx) (ts : Tabs) (cc : Addr) (e : Expr) (f : XE) : Prop where
  run : ∀ {A : Around} {env : Env}, EnvOk c A env → env.code = .ref cc → ∀ {O : List Addr} {s : Shared} {σ : St}, Rel c env O s.heap σ → (∀ a ∈ O, a ∉ ts.map (·.2)) → TabsOk ts s.heap → AllBare s.gens →
    ∀ {d : PyData} {k : Nat}, f σ = some (d, k) → wpAny c.M A (eval e env) (fun v s' => Gm ts s s' ∧ Res O s.heap s'.heap v d k) NoE s
structure TrT (c : Cx) (ts : Tabs) (cc : Addr) (e : Expr) (f : St → Option Bool) : Prop where
  run : ∀ {A : Around} {env : Env}, EnvOk c A env → env.code = .ref cc → ∀ {O : List Addr} {s : Shared} {σ : St}, Rel c env O s.heap σ → (∀ a ∈ O, a ∉ ts.map (·.2)) → TabsOk ts s.heap → AllBare s.gens →
    ∀ {b : Bool}, f σ = some b → wpAny c.M A (isTrue e env (eval e env)) (fun r s' => Gm ts s s' ∧ r = b) NoE s

theorem Aft.toT {ts : Tabs} (hg : c.gn = false) {env : Env} {hb : Heap} {Oo : List Addr} {os os' : List (List Addr)} {s s' : Shared} {σ σ' : St} {fl : Fl} {f : Flow} (r : RelS c env hb Oo os s.heap σ) (a : Aft c env hb Oo os s fl σ' f os' s') (tk : TabsOk ts s.heap) (b : AllBare s.gens) : AftT c ts env hb Oo s fl σ' f os' s' := by
  obtain ⟨h, t, g, e, e1, e2⟩ := a.sm
  refine ⟨a.rel, a.fl, ⟨h, t, g, e⟩, a.tabs r tk, ?_⟩
  rw [e, e1 hg]; exact b
theorem ext_plain {ts : Tabs} {cc : Addr} (hg : c.gn = false) {st : Stmt} {g : XS} (h : Ex1 c st g) : Ex1T c ts cc st g := .mk fun ok hc hb Oo os s σ r ht hO tk ba fl σ' q =>
  wpAny_mono (h.run ok r q) (fun f s' ⟨os', a⟩ => ⟨os', a.toT hg r tk ba⟩) fun _ _ f => f
theorem ext_nil {ts : Tabs} {cc : Addr} (hg : c.gn = false) : ExT c ts cc [] skipX := .mk fun ok hc hb Oo os s σ r ht hO tk ba fl σ' q =>
  wpAny_mono ((ex_nil (c := c)).run ok r q) (fun f s' ⟨os', a⟩ => ⟨os', a.toT hg r tk ba⟩) fun _ _ f => f
theorem ext_cons {ts : Tabs} {cc : Addr} {st : Stmt} {rest : List Stmt} {f g : XS} (h1 : Ex1T c ts cc st f) (h2 : ExT c ts cc rest g) : ExT c ts cc (st :: rest) (seqX f g) := .mk fun {A env} ok hc hb Oo os s σ r ht hO tk ba fl σ' h => by
  refine wpAny_execs_cons ?_
  cases q : f σ with
  | none => unfold seqX at h; rw [q] at h; cases h
  | some p =>
    obtain ⟨fl1, σ1⟩ := p
    refine wpAny_mono (h1.run ok hc r ht hO tk ba q) (fun fw s1 a1 => ?_) fun _ _ f => f
    obtain ⟨os1, a1⟩ := a1
    unfold seqX at h
    rw [q] at h
    cases fl1 with
    | next =>
      cases fw with
      | next =>
        refine wpAny_mono (h2.run ok hc a1.rel ht hO a1.tab a1.bare h) (fun f2 s2 a2 => ?_) fun _ _ f => f
        obtain ⟨os2, a2⟩ := a2
        obtain ⟨h₁, t₁, g₁, rfl⟩ := a1.sh
        obtain ⟨h₂, t₂, g₂, rfl⟩ := a2.sh
        exact ⟨os2, a2.rel, a2.fl, ⟨h₂, t₂, g₂, rfl⟩, a2.tab, a2.bare⟩
      | brk => exact a1.fl.elim
      | cont => exact a1.fl.elim
      | ret v => exact a1.fl.elim
    | brk =>
      cases h
      cases fw with
      | brk => exact ⟨os1, a1⟩
      | next => exact a1.fl.elim
      | cont => exact a1.fl.elim
      | ret v => exact a1.fl.elim
    | cont =>
      cases h
      cases fw with
      | cont => exact ⟨os1, a1⟩
      | next => exact a1.fl.elim
      | brk => exact a1.fl.elim
      | ret v => exact a1.fl.elim
    | ret d =>
      cases h
      cases fw with
      | ret v => exact ⟨os1, a1⟩
      | next => exact a1.fl.elim
      | brk => exact a1.fl.elim
      | cont => exact a1.fl.elim
theorem own_tabs {ts : Tabs} {env : Env} {hb h : Heap} {Oo : List Addr} {os : List (List Addr)} {σ : St} (r : RelS c env hb Oo os h σ) (tk : TabsOk ts h) (hO : ∀ a ∈ Oo, a ∉ ts.map (·.2)) : ∀ a ∈ os.flatten ++ Oo, a ∉ ts.map (·.2) := fun a ha => by
  rcases List.mem_append.mp ha with ha | ha
  · obtain ⟨o, e, sq⟩ := r.low a ha; exact tk.notSeq e sq
  · exact hO a ha
theorem ext_if {ts : Tabs} {cc : Addr} (hg : c.gn = false) {test : Expr} {body orelse : List Stmt} {pos : Pos} {t : St → Option Bool} {f g : XS} (nk : NsOk c) (ht : TrT c ts cc test t) (hf : ExS c body f) (hgg : ExS c orelse g) : Ex1T c ts cc (.If test body orelse pos) (ifX t f g) := .mk fun {A env} ok hc hb Oo os s σ r hbt hO tk ba fl σ' h => by
  unfold ifX at h
  cases q : t σ with
  | none => rw [q] at h; cases h
  | some b =>
    rw [q] at h
    refine wpAny_If (wpAny_mono (ht.run ok hc (r.rel nk ok) (own_tabs r tk hO) tk ba q) (fun v s1 h1 => ?_) fun _ _ f => f)
    obtain ⟨⟨h₁, t₁, g₁, rfl, k, tk1, ba1⟩, rfl⟩ := h1
    have r1 := r.keepT k tk hbt hO
    cases v with
    | true =>
      refine wpAny_mono (hf.run ok (s := { s with heap := h₁, toks := t₁, gens := g₁ }) r1 h) (fun f s' ⟨os', a⟩ => ?_) fun _ _ f => f
      have a' := a.toT hg r1 tk1 ba1
      obtain ⟨h₂, t₂, g₂, rfl⟩ := a'.sh
      exact ⟨os', a'.rel, a'.fl, ⟨h₂, t₂, g₂, rfl⟩, a'.tab, a'.bare⟩
    | false =>
      refine wpAny_mono (hgg.run ok (s := { s with heap := h₁, toks := t₁, gens := g₁ }) r1 h) (fun f s' ⟨os', a⟩ => ?_) fun _ _ f => f
      have a' := a.toT hg r1 tk1 ba1
      obtain ⟨h₂, t₂, g₂, rfl⟩ := a'.sh
      exact ⟨os', a'.rel, a'.fl, ⟨h₂, t₂, g₂, rfl⟩, a'.tab, a'.bare⟩
end
end Mine

set_option Elab.async false
set_option linter.unusedVariables false
set_option autoImplicit false
open PySem PyProof.Rows
namespace Mine

noncomputable def FnT (b : Base) (ts : Tabs) (lvl : Nat) (x : Str) (F : List PyData → Option PyData) : Prop :=
  ∃ a o fd, b.mg x = some (.ref a) ∧ b.top.get? a = some o ∧ o.data = .func fd ∧
    ∀ {A : Around} {O : List Addr} {s : Shared} {vs : List Value} {ds : List PyData} {d : PyData}, AOk lvl A → Kp b.top s.heap → (∀ a ∈ O, ∃ o, s.heap.get? a = some o) → (∀ a ∈ O, b.top.get? a = none) → (∀ a ∈ O, a ∉ ts.map (·.2)) → TabsOk ts s.heap → AllBare s.gens → RepAll O s.heap vs ds → F ds = some d →
      codeAny (model b.prog b.w) A (.call (.ref a) ⟨vs, []⟩) (fun r s' => ∃ v, r = .ok (.ret v) ∧ Gm ts s s' ∧ Rep O s'.heap v d) s
section
variable {c : Cx}
theorem Kps.gm {ts : Tabs} {s s' : Shared} (K : Kps false s s') (tk : TabsOk ts s.heap) (ba : AllBare s.gens) : Gm ts s s' := by
  obtain ⟨h, t, g, rfl, k, e, _⟩ := K
  exact ⟨h, t, g, rfl, .of k, tk.keeps k, by rw [e rfl]; exact ba⟩
theorem evT_call {ts : Tabs} {cc : Addr} (hg0 : c.gn = false) {x : Str} {p pos : Pos} {e : Expr} {es : List Expr} {fs : List XE} {F : List PyData → Option PyData} {lvl : Nat} (hf : FnT c.b ts lvl x F) (hl : lvl ≤ c.lvl)
    (hk : c.scope.names.lookup x = some .globalImplicit) (ha : ArgsS c (e :: es) fs) (hd : (x == ("__debug__" : Str)) = false) (hp : Plain (e :: es) := by intro _; rfl) : EvT c ts cc (.Call (.Name x p) (e :: es) [] pos) (callX F fs) := .mk fun {A env} ok hcc O s σ R hO tk ba d k h => by
  obtain ⟨a, o, fd, hg, ho, hfd, con⟩ := hf
  rw [eval_CallName]
  refine wpAny_bind (Calls.Name_function_global ok.kind' (by show env.scope.names.lookup x = _; rw [ok.scope]; exact hk) (Calls.loadGlobal_global (mg := c.b.mg) (v := .ref a) ?_ hg ?_) hd)
  · rw [ok.globals]; exact ok.base.g.keeps R.top
  rw [hp, backTo_plain]
  unfold callX at h
  split at h
  · rename_i ds e1
    cases q : F ds with
    | none => rw [q] at h; cases h
    | some r =>
      rw [q] at h; cases h
      refine Calls.callWith_function (o := o) (fd := fd) (Calls.evalArgs_plain (wpAny_mono (wpAny_args ok ha e1 R) (fun vs s1 h1 => ⟨⟨h1.1.kp _ _ (R.top _ _ ho), hfd⟩, ?_⟩) fun _ _ f => f))
      have R1 := R.keeps h1.1.kp
      have K1 := h1.1
      rw [hg0] at K1
      have G1 := K1.gm tk ba
      have tk1 : TabsOk ts s1.heap := tk.keeps h1.1.kp
      have ba1 : AllBare s1.gens := by obtain ⟨_, _, g, rfl, _, e, _⟩ := K1; show AllBare g; rw [e rfl]; exact ba
      refine wpAny_call (codeAny_mono (con (ok.a.mono hl) R1.top R1.low R1.off hO tk1 ba1 h1.2 q) fun r s2 h2 => ?_)
      obtain ⟨v, rfl, K, rv⟩ := h2
      exact ⟨G1.trans K, rv⟩
  · cases h
theorem trT_of {ts : Tabs} {cc : Addr} {e : Expr} {f : XE} (h : EvT c ts cc e f) (he : ∀ (env : Env) (whole : Sem Value), isTrue e env whole = (do let v ← whole; standAt e.pos; holding [v] (truthy v)) := by intros; rfl) : TrT c ts cc e (trX f) := .mk fun {A env} ok hc O s σ R hO tk ba b hb => by
  unfold trX at hb
  split at hb
  · rename_i q j e1
    cases hb
    refine PyProof.Rows.isTrue_plain (wpAny_mono (h.run ok hc R hO tk ba e1) (fun v s1 h1 => ?_) fun _ _ f => f) (he _ _)
    cases h1.2.bool_inv
    exact wpAny_truthy_bool ⟨h1.1, rfl⟩
  · cases hb
theorem trT_not {ts : Tabs} {cc : Addr} {e : Expr} {pos : Pos} {f : St → Option Bool} (h : TrT c ts cc e f) : TrT c ts cc (.UnaryOp .Not e pos) (notT f) := .mk fun {A env} ok hc O s σ R hO tk ba b hb => by
  unfold notT at hb
  cases q : f σ with
  | none => rw [q] at hb; cases hb
  | some r => rw [q] at hb; cases hb; exact PyProof.Rows.isTrue_not (wpAny_mono (h.run ok hc R hO tk ba q) (fun v s1 h1 => ⟨h1.1, by rw [h1.2]⟩) fun _ _ f => f)
theorem ext_assign {ts : Tabs} {cc : Addr} (hg0 : c.gn = false) {x : Str} {p pos : Pos} {e : Expr} {i : Nat} {f : XE} (nk : NsOk c) (hi : HasIdx c.ns x i) (he : EvT c ts cc e f) (hb0 : ∀ σ d k, f σ = some (d, k) → ∃ b, d = .bool b ∧ k = 0)
    (hs : ∀ env : Env, env.scope = c.scope → swapsWith e (some (.Name x p)) pos.line env = pure false := by intro _ _; rfl) : Ex1T c ts cc (.Assign [.Name x p] e pos) (asgX i [] f) := .mk fun {A env} ok hc hb Oo os s σ r hbt hO tk ba fl σ' h => by
  unfold asgX at h
  cases q : f (freezeL [] σ) with
  | none => rw [q] at h; cases h
  | some dk =>
    obtain ⟨d, k⟩ := dk
    rw [q] at h
    obtain ⟨b, rfl, rfl⟩ := hb0 _ _ _ q
    refine wpAny_Assign_Name (wpAny_mono (he.run ok hc (r.rel nk ok) (own_tabs r tk hO) tk ba q) (fun v s1 hv => ?_) fun _ _ f => f) (hs env ok.scope)
    obtain ⟨⟨h₁, t₁, g₁, rfl, k, tk1, ba1⟩, rv⟩ := hv
    cases rv
    have r1 := r.keepT k tk hbt hO
    refine r1.store nk ok hi.get (s := { s with heap := h₁, toks := t₁, gens := g₁ }) (Kps.refl _ _) (k := 0) (v := .bool b) (d := .bool b) (.bool b) h fun s2 os2 a _ => ?_
    have a' := a.toT hg0 r1 tk1 ba1
    obtain ⟨h2, t2, g2, rfl⟩ := a'.sh
    exact ⟨os2, a'.rel, a'.fl, ⟨h2, t2, g2, rfl⟩, a'.tab, a'.bare⟩
end

/-! a heap without some objects -/
noncomputable def hide (h : Heap) (ps : List Addr) : Heap := { h with objs := h.objs.mapIdx fun i o => if i ∈ ps then { o with data := .freed } else o }
theorem hide_in {h : Heap} {ps : List Addr} {b : Addr} (hb : b ∈ ps) : (hide h ps).get? b = none := by
  unfold Heap.get? hide
  simp only [Array.getElem?_mapIdx]
  cases h.objs[b]? with
  | none => rfl
  | some o => simp only [Option.map_some, if_pos hb]
theorem hide_off {h : Heap} {ps : List Addr} {b : Addr} (hb : b ∉ ps) : (hide h ps).get? b = h.get? b := by
  unfold Heap.get? hide
  simp only [Array.getElem?_mapIdx]
  cases h.objs[b]? with
  | none => rfl
  | some o => simp only [Option.map_some, if_neg hb]
theorem hide_none {h : Heap} {ps : List Addr} {b : Addr} (hb : h.get? b = none) : (hide h ps).get? b = none := by
  by_cases hm : b ∈ ps
  · exact hide_in hm
  · rw [hide_off hm, hb]
theorem hide_some {h : Heap} {ps : List Addr} {b : Addr} {o : Obj} (hb : (hide h ps).get? b = some o) : b ∉ ps ∧ h.get? b = some o := by
  by_cases hm : b ∈ ps
  · rw [hide_in hm] at hb; cases hb
  · rw [hide_off hm] at hb; exact ⟨hm, hb⟩

theorem fnT_of {b : Base} (bo : BaseOk b) {ts : Tabs} {cc : Addr} {scope : Scope} {body : List Stmt} (ps rest ns : List Str) {x : Str} {lvl : Nat} {g : XS} (fd : FdOk b scope body ps x) (hcc : ∀ a o fd, b.mg x = some (.ref a) → b.top.get? a = some o → o.data = .func fd → fd.code = .ref cc) (hns : ps ++ rest = ns) (nk : NsOk ⟨b, scope, ns, lvl, false⟩) (hk : scope.kind = .function) (hco : scope.isCoroutine = false) (hgen : scope.isGenerator = false)
    (hdbg : ∀ y ∈ ns, (y == ("__debug__" : Str)) = false) (htt : ∀ P ∈ ts.map (·.2), b.top.get? P = none) (hb : NsOk ⟨b, scope, ns, lvl, false⟩ → ExT ⟨b, scope, ns, lvl, false⟩ ts cc body g) : FnT b ts (lvl + 1) x (fnX ps.length rest.length g) := by
  subst hns
  obtain ⟨a, o, fd, hg, ho, hd, hcd, hbody, hclo, hsc, hgl, hbi, hbind⟩ := fd
  have hcode := hcc a o fd hg ho hd
  refine ⟨a, o, fd, hg, ho, hd, fun {A O s vs ds d} ao top low off hOt tk ba r h => ?_⟩
  unfold fnX at h
  split at h
  · rename_i hlen
    split at h
    · rename_i d' σ' e
      cases h
      have hvl : vs.length = ps.length := by rw [r.length, hlen]
      have hcells : ∀ n y, scope.names.lookup y = some .cell → ∃ q, (cellsFrom n scope.names []).lookup y = some q := fun n y hy => Option.isSome_iff_exists.mp (PySem.W.cellsFrom_some _ _ _ (.inl hy))
      have hnd : ps.Nodup := (List.nodup_append.mp nk.nodup).1
      refine codeAny_call_cells (fd := fd) (body := body) (binds := ps.zip vs) (by have := ao.depth; omega) (top _ _ ho) hd (bo.nolimit.keeps top) (hcd.keeps top) hbody (hbind vs hvl) hclo (fun y hy => ?_) (fun s₁ X => ?_) (by rw [hsc]; exact hco) (by rw [hsc]; exact hgen) (by rw [hsc]; exact hk)
      · have hm : y.1 ∈ ps ++ rest := List.mem_append_left _ (List.of_mem_zip hy).1
        rw [hsc]
        rcases nk.kinds y.1 hm with q | q
        · exact .inl q
        · obtain ⟨q', hq'⟩ := hcells (s.heap.objs.size + 1) y.1 q
          exact .inr ⟨q, by rw [hq']; rfl⟩
      · have ok : EnvOk ⟨b, scope, ps ++ rest, lvl, false⟩ (A.deeper (callEnvC fd s.heap.objs.size a)) (callEnvC fd s.heap.objs.size a) :=
          ⟨bo, ⟨ao.handled, by have := ao.depth; show A.depth + 1 + 4 * lvl < _; omega, by have := ao.units; show A.units + 3 + 200 + 20 * lvl < _; omega⟩, hsc, hk, hgl, hbi, hdbg⟩
        have hkind : ∀ y, (callEnvC fd s.heap.objs.size a).kindOf y = scope.names.lookup y := fun y => by show fd.scope.names.lookup y = _; rw [hsc]
        obtain ⟨h₁, tk₁, rfl, kp⟩ := X.done
        have F : FrameIs (callEnvC fd s.heap.objs.size a) (hide s.heap (ts.map (·.2))) h₁ (fun y => (ps.zip vs).reverse.lookup y) :=
          { ns := ⟨_, X.toInCall.ns, fun y hy => by rw [bindL_local hy]; simp⟩
            cell := fun y hy => by
              obtain ⟨q, hq⟩ := hcells (s.heap.objs.size + 1) y ((hkind y).symm.trans hy)
              have hq' : (callEnvC fd s.heap.objs.size a).cells.lookup y = some q := by
                show (cellsFrom _ fd.scope.names []).lookup y = _
                rw [hsc]; exact hq
              have := X.cell y q hq'
              rw [bindC_cell hy] at this
              exact ⟨q, hq', by simpa using this⟩
            newL := hide_none fresh_none
            newC := fun y q hq => by
              have : s.heap.objs.size < q := X.above y q (mem_of_lookup hq)
              refine hide_none ?_
              cases e : s.heap.get? q with
              | none => rfl
              | some o => exact absurd (Heap.lt_size e) (Nat.not_lt.mpr (Nat.le_of_lt this))
            inj := fun y z q h1 h2 => name_of_addr X.apart (mem_of_lookup h1) (mem_of_lookup h2) }
        have hfl : (List.replicate (ps ++ rest).length ([] : List Addr)).flatten = [] := by simp
        have rel : RelS ⟨b, scope, ps ++ rest, lvl, false⟩ (callEnvC fd s.heap.objs.size a) (hide s.heap (ts.map (·.2))) O (List.replicate (ps ++ rest).length []) h₁ (ds.map (fun d => some (d, 0)) ++ List.replicate rest.length none) := by
          refine ⟨fun b o e => kp _ _ (top b o e), fun b o e => kp _ _ (hide_some e).2, fun q hq => ?_, fun q hq => ?_, by rw [hfl]; exact .nil, fun q hq => let ⟨o, e⟩ := low q hq; ⟨o, kp _ _ e⟩, fun q hq => ?_, fun q hq fa => ?_, off, fun b o e => ?_, ?_, by simp, _, F, fun i y e k h1 h2 => ?_⟩
          · rw [hfl] at hq; cases hq
          · rw [hfl] at hq; cases hq
          · rw [hfl]; exact fun h => nomatch h
          · obtain ⟨o, e⟩ := low q hq
            have e' : (hide s.heap (ts.map (·.2))).get? q = some o := (hide_off (hOt q hq)).trans e
            rcases fa with rfl | ⟨y, _, hc⟩
            · rw [F.newL] at e'; cases e'
            · rw [F.newC y q hc] at e'; cases e'
          · refine (hide_off fun hm => ?_).trans (top b o e)
            have := htt b hm
            rw [this] at e; cases e
          · simp [hlen]
          · have hlt : i < ds.length := by
              rcases Nat.lt_or_ge i ds.length with q | q
              · exact q
              · rw [List.getElem?_append_right (by simpa using q)] at h2
                have := List.mem_of_getElem? h2
                rw [List.mem_replicate] at this
                cases this.2
            rw [List.getElem?_append_left (by simpa using hlt), List.getElem?_map] at h2
            have hdi : ds[i]? = some e ∧ k = 0 := by
              cases q : ds[i]? with
              | none => rw [q] at h2; cases h2
              | some d' => rw [q] at h2; simp at h2; exact ⟨by rw [h2.1], h2.2.symm⟩
            obtain ⟨hdi, rfl⟩ := hdi
            obtain ⟨v, hv, rv⟩ := r.get hdi
            have hpi : ps[i]? = some y := by
              rw [show (⟨b, scope, ps ++ rest, lvl, false⟩ : Cx).ns = ps ++ rest from rfl, List.getElem?_append_left (by rw [← hlen]; exact hlt)] at h1
              exact h1
            refine ⟨v, lookup_zip hnd hpi hv, ?_, ?_⟩
            · rw [List.getD_eq_getElem?_getD, List.getElem?_replicate]; split <;> rfl
            · rw [hfl]; exact rv.keeps kp
        refine wpAny_mono ((hb nk).run ok hcode (s := { s with heap := h₁, toks := tk₁ }) rel (fun P hP => hide_in hP) hOt (tk.keeps kp) ba e) (fun f s' a' => ?_) fun _ _ f => f.elim
        obtain ⟨os', a'⟩ := a'
        cases f with
        | ret v =>
          refine ⟨v, rfl, ?_, a'.fl⟩
          obtain ⟨h2, t2, g2, rfl⟩ := a'.sh
          exact ⟨h2, t2, g2, rfl, fun b o nb e => a'.rel.keep b o ((hide_off nb).trans e), a'.tab, a'.bare⟩
        | next => exact a'.fl.elim
        | brk => exact a'.fl.elim
        | cont => exact a'.fl.elim
    · cases h
  · cases h
end Mine

set_option Elab.async false
set_option linter.unusedVariables false
set_option autoImplicit false
open PySem PyProof.Rows
namespace Mine

theorem walks_bound {prog : Program} {w : World} {A : Around} {I : Addr} {fp wr : List Addr} {n : Nat} {P : Nat → Value → Prop} {T : Nat → Heap → Prop} (W : Walks prog w A I fp wr n P T) : Walks prog w A I fp wr n (fun i v => i < n ∧ P i v) T :=
  { W with item := fun i s Q E hi st hQ => W.item i s Q E hi st fun v h tk hP hT hk => hQ v h tk ⟨hi, hP⟩ hT hk }
/-- the iterator at work, for any surroundings -/
inductive WalkedA (b : Base) (O : List Addr) (v : Value) (xs : List PyData) (s : Shared) : Value → Shared → Prop
  | mk (I : Addr) (fp wr : List Addr) (n : Nat) (P : Nat → Value → Prop) (T : Nat → Heap → Prop) {s2 : Shared} : n = xs.length → (∀ A : Around, A.handled = none → Walks b.prog b.w A I fp wr n P T) → T 0 s2.heap → Keeps s s2 →
    (∀ b ∈ wr, s.heap.get? b = none) → (∀ b ∈ fp, (∃ o, s2.heap.get? b = some o) ∧ (s.heap.get? b = none ∨ ∃ o, s.heap.get? b = some o ∧ o.cls ≠ .none)) → (∀ i v, i < n → P i v → ∃ d, xs[i]? = some d ∧ Rep O s.heap v d) → WalkedA b O v xs s (.ref I) s2
theorem iter_walkA {b : Base} {A : Around} {O : List Addr} {h₀ : Heap} {s : Shared} {k : Nat} {v : Value} {xs : List PyData} (iv : IterVal O h₀ s.heap k v xs) {E : Value → Shared → Prop} :
    wpAny (model b.prog b.w) A (pyIter v) (fun it s2 => WalkedA b O v xs s it s2) E s := by
  cases iv with
  | @list a vs xs l r _ _ _ =>
    refine wpAny_pyIter_list l.isList ?_
    have hne : a ≠ s.heap.objs.size := Nat.ne_of_lt (Heap.lt_size l.1.choose_spec)
    have hz := LstAt.size (h := s.heap) (a := a) r
    refine ⟨_, _, _, _, _, _, hz, fun A' hA => Walks.list hA s.heap.objs.size a hne vs, ⟨⟨_, Heap.get?_push_size _ rfl, rfl, rfl⟩, (l.keeps fun b o e => Heap.get?_push_of_some _ e).isList⟩, keeps_push _ _, ?_, ?_, ?_⟩
    · intro b hb; rw [List.mem_singleton.mp hb]; exact fresh_none
    · intro b hb
      rcases List.mem_cons.mp hb with rfl | hb
      · exact ⟨⟨_, Heap.get?_push_size _ rfl⟩, .inl fresh_none⟩
      · rw [List.mem_singleton.mp hb]; exact ⟨⟨_, Heap.get?_push_of_some _ l.1.choose_spec⟩, .inr ⟨_, l.1.choose_spec, by simp⟩⟩
    · intro i v _ hv
      exact r.getv (by simpa using hv)
  | @tuple a vs xs l r _ =>
    have it : s.heap.IsTuple a vs := ⟨_, l.1.choose_spec, rfl, _, rfl⟩
    refine wpAny_pyIter_tuple it ?_
    have hne : a ≠ s.heap.objs.size := Nat.ne_of_lt (Heap.lt_size l.1.choose_spec)
    have hz := LstAt.size (h := s.heap) (a := a) r
    refine ⟨_, _, _, _, _, _, hz, fun A' hA => Walks.tuple hA s.heap.objs.size a hne vs, ⟨⟨_, Heap.get?_push_size _ rfl, rfl, rfl⟩, it.push _⟩, keeps_push _ _, ?_, ?_, ?_⟩
    · intro b hb; rw [List.mem_singleton.mp hb]; exact fresh_none
    · intro b hb
      rcases List.mem_cons.mp hb with rfl | hb
      · exact ⟨⟨_, Heap.get?_push_size _ rfl⟩, .inl fresh_none⟩
      · rw [List.mem_singleton.mp hb]; exact ⟨⟨_, Heap.get?_push_of_some _ l.1.choose_spec⟩, .inr ⟨_, l.1.choose_spec, by simp⟩⟩
    · intro i v _ hv
      exact r.getv (by simpa using hv)
  | @range a lo hi t u w hr h1 h2 h3 h4 _ =>
    refine wpAny_pyIter_range hr (small_one (by omega) (by omega) (by omega) (by omega)) ?_
    refine ⟨_, _, _, _, _, _, (upFrom_length lo (hi - lo).toNat).symm, fun A' hA => Walks.range hA s.heap.objs.size lo 1 (hi - lo).toNat, ?_, keeps_push _ _, ?_, ?_, ?_⟩
    · show IsRangeIter _ _ _ _ _
      have e1 : lo + ((0 : Nat) : Int) * 1 = lo := by simp
      have e2 : (((hi - lo).toNat : Int) - ((0 : Nat) : Int)) = Builtin.Range.rangeSize lo hi 1 := by rw [rangeSize_one]; split <;> omega
      rw [e1, e2]
      exact Heap.get?_push_size _ rfl
    · intro b hb; rw [List.mem_singleton.mp hb]; exact fresh_none
    · intro b hb; rw [List.mem_singleton.mp hb]; exact ⟨⟨_, Heap.get?_push_size _ rfl⟩, .inl fresh_none⟩
    · intro i v hi hv
      obtain ⟨t, rfl⟩ := hv
      exact ⟨_, upFrom_get lo _ i hi, by rw [Int.mul_one]; exact .int _ _⟩
  | @str x t ha hl =>
    refine wpAny_pyIter_ascii ha ?_
    refine ⟨_, _, _, _, _, _, by unfold chars; simp, fun A' hA => Walks.strAscii hA s.heap.objs.size x t, ⟨_, Heap.get?_push_size _ rfl, rfl, rfl⟩, keeps_push _ _, ?_, ?_, ?_⟩
    · intro b hb; rw [List.mem_singleton.mp hb]; exact fresh_none
    · intro b hb; rw [List.mem_singleton.mp hb]; exact ⟨⟨_, Heap.get?_push_size _ rfl⟩, .inl fresh_none⟩
    · intro i v hi hv
      obtain ⟨q, u, hq, rfl⟩ := hv
      refine ⟨.str ⟨#[q]⟩, by unfold chars; simp [hq], .str _ _ ?_⟩
      have hlt := Array.all_eq_true'.mp ha q (Array.mem_of_getElem? hq)
      have : q < 128 := by simpa using hlt
      unfold PyData.strOk
      simp; omega

/-! a generator's element, looked at -/
noncomputable def GV (cenv : Env) (h : Heap) (y : Str) (v : Value) : Prop :=
  (cenv.kindOf y = some .local ∧ ∃ m, h.Ns cenv.locals m ∧ m y = some v) ∨ (cenv.kindOf y = some .free ∧ ∃ a, cenv.cells.lookup y = some a ∧ h.IsCell a (some v))
structure ElS (b : Base) (scope : Scope) (ns : List Str) (elt : Expr) (q : St → Option Bool) : Prop where
  run : ∀ {A : Around} {E : Value → Shared → Prop} {cenv : Env} {s : Shared} {σ : St} {r : Bool}, A.handled = none → cenv.scope = scope → (∀ (i : Nat) (y : Str) (d : PyData) (k : Nat), ns[i]? = some y → σ[i]? = some (some (d, k)) → ∃ v, GV cenv s.heap y v ∧ Rep [] s.heap v d) → q σ = some r →
    wpAny (model b.prog b.w) A (eval elt cenv) (fun y s' => y = .bool r ∧ Keeps s s') E s
noncomputable def allQ (fs : St) (q : St → Option Bool) : List PyData → Option (List Bool)
  | [] => some []
  | d :: ds => match q (some (d, 0) :: fs) with
    | some b => (allQ fs q ds).map (b :: ·)
    | none => none
noncomputable def anyX (is : List Nat) (fi : XI) (q : St → Option Bool) : XE := fun σ => match fi σ, freeOf is σ with
  | some (xs, _), some fs => (allQ fs q xs).map fun bs => (.bool (bs.any id), 0)
  | _, _ => none
theorem allQ_get {fs : St} {q : St → Option Bool} : ∀ {xs : List PyData} {bs : List Bool}, allQ fs q xs = some bs → bs.length = xs.length ∧ ∀ (i : Nat) (d : PyData), xs[i]? = some d → ∃ b, bs[i]? = some b ∧ q (some (d, 0) :: fs) = some b
  | [], bs, h => by cases h; exact ⟨rfl, fun i d e => by simp at e⟩
  | x :: xs, bs, h => by
    unfold allQ at h
    split at h
    · rename_i b hb
      cases r : allQ fs q xs with
      | none => rw [r] at h; cases h
      | some cs =>
        rw [r] at h; cases h
        obtain ⟨h1, h2⟩ := allQ_get r
        refine ⟨by simp [h1], fun i d e => ?_⟩
        cases i with
        | zero => simp only [List.getElem?_cons_zero, Option.some.injEq] at e; subst e; exact ⟨b, rfl, hb⟩
        | succ i => simp only [List.getElem?_cons_succ] at e ⊢; exact h2 i d e
    · cases h
theorem passing_all (n : Nat) : passing (fun _ => true) n 0 = List.range n := by unfold passing; rw [List.drop_zero]; simp
theorem range_any {bs : List Bool} : (List.range bs.length).any (fun j => bs[j]?.getD false) = bs.any id := by
  rw [Bool.eq_iff_iff, List.any_eq_true, List.any_eq_true]
  constructor
  · rintro ⟨j, hj, h⟩
    have hj := List.mem_range.mp hj
    rw [List.getElem?_eq_getElem hj] at h
    exact ⟨bs[j], List.getElem_mem hj, h⟩
  · rintro ⟨x, hx, h⟩
    obtain ⟨j, hj, e⟩ := List.mem_iff_getElem.mp hx
    exact ⟨j, List.mem_range.mpr hj, by rw [List.getElem?_eq_getElem hj, e]; exact h⟩
end Mine

set_option Elab.async false
set_option linter.unusedVariables false
set_option autoImplicit false
open PySem PyProof.Rows
namespace Mine
structure BmOk (b : Base) : Prop where
  get : ∃ bm ob, b.mg "__builtins__" = some (.ref bm) ∧ bm ≠ builtinsNs ∧ b.top.get? bm = some ob ∧ ob.cls = .type "module" ∧ ob.dict = some builtinsNs ∧ ob.data = .plain
structure GenOk (c : Cx) (scope : Scope) (x : Str) : Prop where
  kind : scope.kind = .function
  co : scope.isCoroutine = false
  nocell : ∀ y ∈ scope.names, y.2 ≠ .cell
  dot : scope.names.lookup (".0" : Str) = some NameKind.local
  tgt : scope.names.lookup x = some .local
  free : ∀ n ∈ freeNames scope.names, c.scope.names.lookup n = some .cell ∧ scope.names.lookup n = some .free
section
variable {c : Cx}
theorem TabsOk.ext {ts : Tabs} {h h' : Heap} {cc P : Addr} (tk : TabsOk ts h) (hd : ∀ t ∈ ts, t.2 = P → t = (cc, P)) (hx : Heap.ExtBut P h h') {ps' : Array Value} (h1 : h'.IsCode cc P ps') (h2 : h'.TableAt cc P ps') (hP : P ∈ ts.map (·.2)) : TabsOk ts h' := fun t ht => by
  by_cases e : t.2 = P
  · rw [hd t ht e]; exact ⟨ps', h1, h2⟩
  · obtain ⟨ps, a, b⟩ := tk t ht
    have hc : t.1 ≠ P := fun e' => by
      obtain ⟨qs, e2⟩ := tk.at hP
      obtain ⟨⟨o, vs, ho, hcls, _⟩, _⟩ := b
      rw [e', e2] at ho; cases ho; cases hcls
    exact ⟨ps, a.extBut hx hc e, b.extBut hx hc e⟩
theorem evT_any {ts : Tabs} {cc P : Addr} (hg0 : c.gn = false) (hm : (cc, P) ∈ ts) (hdist : ∀ t ∈ ts, t.2 = P → t = (cc, P)) (htt : ∀ P ∈ ts.map (·.2), c.b.top.get? P = none) (hbm : BmOk c.b) (hb : BiIs c "any" (.builtin "any")) {elt iter : Expr} {x : Str} {px p gpos pos : Pos} {scope : Scope} {fi : XI} {q : St → Option Bool} {is : List Nat} {fr : List Str}
    (hf : FreeNs scope.names fr) (go : GenOk c scope x) (hi : ItS c iter fi) (hix : HasIdxs c.ns fr is) (he : ElS c.b scope (x :: fr) elt q) (hs : ∀ env v, genFold iter env v = pure v := by intro _ _; rfl) :
    EvT c ts cc (.Call (.Name "any" p) [.GeneratorExp elt [⟨.Name x px, iter, [], 0⟩] scope gpos] [] pos) (anyX is fi q) := .mk fun {A env} ok hcode O s σ R hO tk ba d k h => by
  have hfr := hf.eq
  subst hfr
  unfold anyX at h
  split at h
  · rename_i xs kk fs e1 e2
    cases e3 : allQ fs q xs with
    | none => rw [e3] at h; cases h
    | some bs =>
      rw [e3] at h; cases h
      obtain ⟨hbl, hbq⟩ := allQ_get e3
      have hPm : P ∈ ts.map (·.2) := List.mem_map.mpr ⟨_, hm, rfl⟩
      have hcells : ∀ n ∈ freeNames scope.names, ∃ a, env.cells.lookup n = some a := fun n hn => by
        obtain ⟨j, hj⟩ := List.getElem?_of_mem hn
        obtain ⟨i, hi', hl⟩ := hix.get hj
        obtain ⟨p, hp⟩ := freeOf_some e2 hi'
        obtain ⟨v, os, hv, _⟩ := R.var i n p.1 p.2 hl hp
        rcases hv with ⟨e1, _⟩ | ⟨_, a, hl', _⟩
        · exfalso
          have : env.scope.names.lookup n = some .local := e1
          rw [ok.scope, (go.free n hn).1] at this
          cases this
        · exact ⟨a, hl'⟩
      obtain ⟨cl, hclos, hcl⟩ := closure_ok env scope hcells
      rw [eval_CallName]
      refine wpAny_bind (wpAny_bi ok R.top hb ?_)
      have hp : Plain [.GeneratorExp elt [⟨.Name x px, iter, [], 0⟩] scope gpos] := fun _ => rfl
      rw [hp, backTo_plain]
      refine PySem.callWith_builtin1 ?_
      refine wpAny_GeneratorExp_walksQ ok.a.handled go.co hclos go.nocell go.dot go.tgt go.kind (by have := ok.a.depth; omega) (wpAny_mono (hi.run ok R e1) (fun xv s₁ h₁ => ?_) fun _ _ f => f) (hs env)
      obtain ⟨K₁, iv⟩ := h₁
      rw [hg0] at K₁
      refine wpAny_mono (iter_walkA (b := c.b) iv) (fun it s₂ h₂ => ?_) fun _ _ f => f
      obtain ⟨I, fp, wr, n, Pi, T, hn, W0, hT, K₂, hwr, hfp, hP⟩ := h₂
      have W := fun A' hA => walks_bound (W0 A' hA)
      have K₁₂ : Kps false s s₂ := K₁.trans (.of K₂)
      obtain ⟨H₁, t₁, rfl, kp₁⟩ := K₁.strict
      obtain ⟨H₂, t₂, rfl, kp₂⟩ := K₂
      have R₂ := R.keeps (h' := H₂) fun b o e => kp₂ b o (kp₁ b o e)
      have lim₂ : H₂.NoLimit := ok.base.nolimit.keeps R₂.top
      have tk₂ : TabsOk ts H₂ := tk.keeps fun b o e => kp₂ b o (kp₁ b o e)
      refine ⟨lim₂, ?_⟩
      obtain ⟨ps, hok, htab⟩ := tk₂ (cc, P) hm
      -- the code is there or is made
      have main : ∀ (code : Value) (H₃ : Heap) (t₃ : Nat), (∀ b o, b ≠ P → H₂.get? b = some o → H₃.get? b = some o) → H₂.objs.size ≤ H₃.objs.size → TabsOk ts H₃ →
          wpAny c.M A (builtinsFor env.globals env.builtins) (fun bi s₄ => ∃ I' fp wr n₀ P St₀ pz F, Value.ref I = .ref I' ∧ (∀ A' : Around, A'.handled = none → Walks c.b.prog c.b.w A' I' fp wr n₀ P St₀) ∧ St₀ 0 s₄.heap ∧ (∀ b ∈ fp, b < s₄.heap.objs.size) ∧ s₄.heap.NoLimit ∧ cStatics ∉ wr ∧
            (∀ href : Heap, (∀ b o, s₄.heap.get? b = some o → href.get? b = some o) → QuietGen c.b.prog c.b.w (genEnv scope cl s₄.heap.objs.size code bi env) x [] elt (List.range s₄.heap.objs.size) wr P pz F href) ∧
            (∀ a h₅ tk gs, gs.bare = true → s₄.heap.objs.size < a → h₅.objs.size = a + 1 → (∀ b o, s₄.heap.get? b = some o → h₅.get? b = some o) →
              WalksS c.b.prog c.b.w A.in4 a (a :: s₄.heap.objs.size :: List.range s₄.heap.objs.size) (s₄.heap.objs.size :: wr) (GenOnlyQ s₄.gens.size) (passing pz n₀ 0).length
                (fun j y => ∃ i, (passing pz n₀ 0)[j]? = some i ∧ F i y) (GenAt c.b.prog c.b.w A.in4 a s₄.gens.size s₄.heap.objs.size (List.range s₄.heap.objs.size) wr pz n₀ F) →
              GenAt c.b.prog c.b.w A.in4 a s₄.gens.size s₄.heap.objs.size (List.range s₄.heap.objs.size) wr pz n₀ F 0 { s₄ with gens := s₄.gens.push gs, toks := tk, heap := h₅ } →
              wpAny c.M A (call (.builtin "any") [.ref a]) (fun v s' => Gm ts s s' ∧ Res O s.heap s'.heap v (.bool (bs.any id)) 0) NoE { s₄ with gens := s₄.gens.push gs, toks := tk, heap := h₅ })) NoE { s with heap := H₃, toks := t₃ } := by
        intro code H₃ t₃ hx hsz tk₃
        have notP : ∀ b o, c.b.top.get? b = some o → H₃.get? b = some o := fun b o e => by
          by_cases hbP : b = P
          · rw [hbP, htt P hPm] at e; cases e
          · exact hx b o hbP (R₂.top b o e)
        have tab₁ : ∃ ps, H₁.get? P = some { cls := .none, data := .fields ps } := (tk.keeps kp₁).at hPm
        have hPf : P ∉ fp := fun hm' => by
          obtain ⟨ps, e⟩ := tab₁
          rcases (hfp P hm').2 with q | ⟨o, q, hc⟩
          · rw [e] at q; cases q
          · rw [e] at q; cases q; exact hc rfl
        obtain ⟨bm, ob, hname, hne, hobj, hcls, hdict, hdata⟩ := hbm.get
        refine wpAny_builtinsFor (m := c.b.mg) (by rw [ok.globals]; exact ok.base.g.keeps notP) hname hne (notP _ _ hobj) hcls hdict hdata ?_
        have hfpl : ∀ b ∈ fp, b < H₃.objs.size := fun b hb => by
          obtain ⟨o, e⟩ := (hfp b hb).1
          exact Nat.lt_of_lt_of_le (Heap.lt_size e) hsz
        refine ⟨I, fp, wr, n, _, T, fun _ => true, fun i y => y = .bool (bs[i]?.getD false), rfl, W, (W A ok.a.handled).frame _ _ _ hT fun b hb o e => hx b o (fun e' => hPf (e' ▸ hb)) e, hfpl, ok.base.nolimit.keeps notP, ?_, ?_, ?_⟩
        · intro hw
          have e := hwr _ hw
          obtain ⟨mc, ⟨o, _, _, ho, _⟩, _⟩ := ok.base.nolimit.keeps (R.keeps (h' := H₁) kp₁).top
          rw [ho] at e; cases e
        · intro href hhref
          refine ⟨fun A' E' i v sG m₂ hh hPi hns hmx hkeep => ?_, fun A' E' i v sG m₂ hh hPi _ hns hmx hkeep => ?_⟩
          · rw [List.forIn_nil]; exact wpAny_pure ⟨rfl, sG.heap, sG.toks, rfl, fun _ _ e => e⟩
          · have mvG : ∀ b o, b ≠ P → H₁.get? b = some o → sG.heap.get? b = some o := fun b o hbP e => by
              have e2 := kp₂ b o e
              have e3 := hx b o hbP e2
              exact hkeep b (List.mem_range.mpr (Heap.lt_size e3)) (fun hw => by rw [hwr b hw] at e; cases e) o (hhref b o e3)
            have seqP : ∀ b o, H₁.get? b = some o → IsSeq o → b ≠ P := fun b o e sq e' => by
              obtain ⟨ps, q⟩ := tab₁
              obtain ⟨vs, nn, hq⟩ := sq
              rw [e', q] at e; cases e; cases hq
            obtain ⟨dv, hdv, rv⟩ := hP i v hPi.1 hPi.2
            obtain ⟨b, hb1, hb2⟩ := hbq i dv hdv
            refine wpAny_mono (he.run (σ := some (dv, 0) :: fs) (r := b) hh rfl (fun j y d k h1 h2 => ?_) hb2) (fun y s₃ h₃ => ⟨by rw [h₃.1, hb1]; rfl, h₃.2⟩) fun _ _ f => f
            cases j with
            | zero =>
              simp only [List.getElem?_cons_zero, Option.some.injEq] at h1 h2
              subst h1; cases h2
              exact ⟨v, .inl ⟨go.tgt, m₂, hns, hmx⟩, rv.moveS fun b o nb e sq => ⟨mvG b o (seqP b o e sq) e, List.not_mem_nil⟩⟩
            | succ j =>
              simp only [List.getElem?_cons_succ] at h1 h2
              obtain ⟨j1, hj1, hs1⟩ := freeOf_get e2 h2
              obtain ⟨j2, hj2, hl2⟩ := hix.get h1
              rw [hj1] at hj2; cases hj2
              obtain ⟨u, os, hu, w⟩ := R.var j1 y d k hl2 hs1
              have hmem : y ∈ freeNames scope.names := List.mem_of_getElem? h1
              rcases hu with ⟨q1, _⟩ | ⟨q1, a, hla, ⟨oc, hoc, hdc⟩⟩
              · exfalso
                have : env.scope.names.lookup y = some .local := q1
                rw [ok.scope, (go.free y hmem).1] at this
                cases this
              · refine ⟨u, .inr ⟨(go.free y hmem).2, a, (hcl y hmem).trans hla, oc, mvG a oc (fun e' => ?_) (kp₁ a oc hoc), hdc⟩, ?_⟩
                · obtain ⟨ps, q⟩ := tab₁
                  rw [← e', kp₁ a oc hoc] at q; cases q; cases hdc
                · have r1 : Rep [] s.heap u d := (w.res (h₀ := s.heap)).any
                  exact r1.moveS fun b o nb e sq => ⟨mvG b o (seqP b o (kp₁ b o e) sq) (kp₁ b o e), List.not_mem_nil⟩
        · intro a h₅ tkk gs hgs hlt hsz₅ hk₅ WS hat
          have WS1 := WS.in4_1
          refine call_any_walkS (WS1.self 0 _ _ _ hat ⟨a, _, _, _, _, _, _, fun j => bs[j]?.getD false, rfl, WS1, hat, ?_, fun s' hmv => ?_⟩)
          · rintro i v sG Q E ⟨j, hj, hF⟩ hQ
            rw [passing_all] at hj
            have hjl := (List.getElem?_eq_some_iff.mp hj).1
            rw [List.length_range] at hjl
            rw [List.getElem?_range hjl] at hj
            cases hj
            rw [hF]; exact wpAny_truthy_bool hQ
          · rw [passing_all, List.length_range, hn, ← hbl, range_any]
            have hkeepS : ∀ b o, H₃.get? b = some o → H₁.get? b ≠ none → s'.heap.get? b = some o := fun b o e h1 => by
              refine hmv.heap b o (fun hw => ?_) (hk₅ b o e)
              rcases List.mem_cons.mp hw with q | q
              · exact absurd (q ▸ Heap.lt_size e) (Nat.lt_irrefl _)
              · exact h1 (hwr b q)
            have sh : s' = { s with heap := s'.heap, toks := s'.toks, gens := s'.gens } := by
              have e1 := hmv.drawn
              have e2 := hmv.os
              cases s'
              simp only at e1 e2
              subst e1; subst e2
              rfl
            refine ⟨⟨s'.heap, s'.toks, s'.gens, sh, fun b o nb e => ?_, ?_, ?_⟩, .bool _⟩
            · have e1 := kp₁ b o e
              exact hkeepS b o (hx b o (fun e' => nb (e' ▸ hPm)) (kp₂ b o e1)) (by rw [e1]; exact Option.some_ne_none _)
            · intro t ht
              obtain ⟨ps0, _, b0⟩ := (tk.keeps kp₁) t ht
              have k0 := tab_has b0
              obtain ⟨ps3, q3⟩ := tk₃ t ht
              exact ⟨ps3, tab_move q3 fun b o hb e _ => hkeepS b o e (hb.elim (fun q => q ▸ k0.1) fun q => q ▸ k0.2)⟩
            · refine AllBare.movedS ?_ hmv
              exact AllBare.push ba hgs
      cases hcA : codeAmong gpos ps.toList with
      | some c' => exact wpAny_genexprCode_hit hcode hok hcA (main c' H₂ t₂ (fun b o _ e => e) (Nat.le_refl _) tk₂)
      | none => exact wpAny_genexprCodeX hcode hok htab hcA fun c' h' tkk hx hge hlt hc' _ ht' _ => main (.ref c') h' tkk (fun b o hb e => hx b o hb e) (Nat.le_trans hge (Nat.le_of_lt hlt)) (tk₂.ext hdist hx hc' ht' hPm)
  · cases h
end
end Mine

set_option Elab.async false
set_option linter.unusedVariables false
set_option autoImplicit false
open PySem PyProof.Rows
namespace Mine
/-! looking, inside a generator -/
abbrev GVars (ns : List Str) (cenv : Env) (h : Heap) (σ : St) : Prop := ∀ (i : Nat) (y : Str) (d : PyData) (k : Nat), ns[i]? = some y → σ[i]? = some (some (d, k)) → ∃ v, GV cenv h y v ∧ Rep [] h v d
structure GvS (b : Base) (scope : Scope) (ns : List Str) (e : Expr) (f : XE) : Prop where
  run : ∀ {A : Around} {E : Value → Shared → Prop} {cenv : Env} {s : Shared} {σ : St} {d : PyData} {k : Nat}, A.handled = none → cenv.scope = scope → GVars ns cenv s.heap σ → f σ = some (d, k) →
    wpAny (model b.prog b.w) A (eval e cenv) (fun v s' => Rep [] s'.heap v d ∧ Keeps s s') E s
theorem GV.keeps {cenv : Env} {h h' : Heap} {y : Str} {v : Value} (g : GV cenv h y v) (k : Kp h h') : GV cenv h' y v :=
  g.imp (fun ⟨e, m, n, q⟩ => ⟨e, m, n.keeps k, q⟩) fun ⟨e, a, l, q⟩ => ⟨e, a, l, q.keeps k⟩
theorem gvars_keeps {ns : List Str} {cenv : Env} {h h' : Heap} {σ : St} (g : GVars ns cenv h σ) (k : Kp h h') : GVars ns cenv h' σ := fun i y d kk h1 h2 => let ⟨v, a, b⟩ := g i y d kk h1 h2; ⟨v, a.keeps k, b.keeps k⟩
theorem keeps_kp {s s' : Shared} (K : Keeps s s') : Kp s.heap s'.heap := by obtain ⟨_, _, rfl, k⟩ := K; exact k
theorem keeps_trans {s s' s'' : Shared} (x : Keeps s s') (y : Keeps s' s'') : Keeps s s'' := by
  obtain ⟨h, t, rfl, k⟩ := x
  obtain ⟨h', t', rfl, k'⟩ := y
  exact ⟨h', t', rfl, fun b o e => k' b o (k b o e)⟩
theorem keeps_tok (s : Shared) (n : Nat) : Keeps s { s with toks := n } := ⟨s.heap, n, rfl, fun _ _ e => e⟩
section
variable {b : Base} {scope : Scope} {ns : List Str}
theorem gv_name {x : Str} {p : Pos} {i : Nat} (hk : scope.kind = .function) (hi : HasIdx ns x i) (hd : (x == ("__debug__" : Str)) = false) (hc : (x == ("__classdict__" : Str)) = false) : GvS b scope ns (.Name x p) (vX i) := .mk fun {A E cenv s σ d k} hh hs g h => by
  obtain ⟨v, hv, rv⟩ := g i x d k hi.get (vX_some h)
  have hkk : cenv.scope.kind = .function := by rw [hs]; exact hk
  refine wpAny_Name ?_ hd
  rcases hv with ⟨e, m, n, q⟩ | ⟨e, a, l, q⟩
  · exact wpAny_loadName_local hkk e n q ⟨rv, s.heap, s.toks, rfl, fun _ _ e => e⟩
  · exact wpAny_loadName_free hkk e l q ⟨rv, s.heap, s.toks, rfl, fun _ _ e => e⟩ hc
theorem gv_int {i : Int} {k : Nat} {pos : Pos} : GvS b scope ns (.Constant (.int i) k pos) (kX (.int i)) := .mk fun {A E cenv s σ d kk} hh hs g h => by
  cases h; exact wpAny_Constant_int ⟨.int _ _, keeps_tok _ _⟩
theorem two_g {α : Type} {l r : Expr} {f g : XE} (hl : GvS b scope ns l f) (hr : GvS b scope ns r g) {A : Around} {E : Value → Shared → Prop} {cenv : Env} {s : Shared} {σ : St} (hh : A.handled = none) (hs : cenv.scope = scope) (G : GVars ns cenv s.heap σ)
    {d1 d2 : PyData} {k1 k2 : Nat} (e1 : f σ = some (d1, k1)) (e2 : g σ = some (d2, k2)) {T : Value → Value → Sem α} {Q : α → Shared → Prop}
    (step : ∀ v1 v2 s2, Keeps s s2 → Rep [] s2.heap v1 d1 → Rep [] s2.heap v2 d2 → wpAny (model b.prog b.w) A (T v1 v2) Q E s2) :
    wpAny (model b.prog b.w) A (eval l cenv) (fun a s1 => wpAny (model b.prog b.w) A (eval r cenv) (fun b' s2 => wpAny (model b.prog b.w) A (T a b') Q E s2) E s1) E s :=
  wpAny_mono (hl.run hh hs G e1) (fun v1 s1 h1 => wpAny_mono (hr.run hh hs (gvars_keeps G (keeps_kp h1.2)) e2) (fun v2 s2 h2 => step v1 v2 s2 (keeps_trans h1.2 h2.2) (h1.1.keeps (keeps_kp h2.2)) h2.1) fun _ _ f => f) fun _ _ f => f
theorem gv_sub {l r : Expr} {pos : Pos} {f g : XE} (hl : GvS b scope ns l f) (hr : GvS b scope ns r g) : GvS b scope ns (.BinOp l .Sub r pos) (i2X (fun a b => some (a - b)) f g) := .mk fun {A E cenv s σ d k} hh hs G h => by
  obtain ⟨a, j, b', m, i, e1, e2, q, rfl, rfl⟩ := i2X_inv h
  cases q
  refine wpAny_BinOp (two_g hl hr hh hs G e1 e2 fun v1 v2 s2 K r1 r2 => ?_)
  cases r1; cases r2
  exact PyProof.Rows.sub_int ⟨.int _ _, keeps_trans K (keeps_tok _ _)⟩
theorem gv_item {l r : Expr} {pos : Pos} {f g : XE} (hl : GvS b scope ns l f) (hr : GvS b scope ns r g) (hs' : ∀ o i, subscripted r false o i = operate [o, i] (getItem o i) := by intro _ _; rfl) : GvS b scope ns (.Subscript l r pos) (subX f g) := .mk fun {A E cenv s σ d k} hh hs G h => by
  unfold subX at h
  split at h
  · rename_i xs m i m' e1 e2
    split at h
    · rename_i j hj
      split at h
      · rename_i x hx
        cases h
        refine PyProof.Rows.Subscript_ (two_g hl hr hh hs G e1 e2 fun v1 v2 s2 K r1 r2 => ?_)
        cases r2
        obtain ⟨a, vs, rfl, _, la, ra⟩ := Rep.lst r1
        have hz := LstAt.size (h := s2.heap) (a := a) ra
        obtain ⟨v, hv, rv⟩ := ra.get hx
        exact PyProof.Rows.tail_any la.isList.typeIs slot_list_getitem.lookup (getItem_lst la (by rw [hz]; exact hj) (by simpa using hv) ⟨rv, K⟩) (hs' _ _)
      · cases h
    · cases h
  · rename_i xs m i m' e1 e2
    split at h
    · rename_i j hj
      split at h
      · rename_i x hx
        cases h
        refine PyProof.Rows.Subscript_ (two_g hl hr hh hs G e1 e2 fun v1 v2 s2 K r1 r2 => ?_)
        cases r2
        obtain ⟨a, vs, rfl, _, la, ra⟩ := Rep.tup r1
        have hz := LstAt.size (h := s2.heap) (a := a) ra
        obtain ⟨v, hv, rv⟩ := ra.get hx
        exact PyProof.Rows.tail_any ⟨_, la.1.choose_spec, rfl⟩ F.slot_tuple_getitem.lookup (getItem_tup la (by rw [hz]; exact hj) (by simpa using hv) ⟨rv, K⟩) (hs' _ _)
      · cases h
    · cases h
  · cases h
theorem el_ge {l r : Expr} {pos : Pos} {f g : XE} (hl : GvS b scope ns l f) (hr : GvS b scope ns r g) (hm : behindInMarks .GtE r = false := by rfl) : ElS b scope ns (.Compare l [.GtE] [r] pos) (trX (c2X (fun a b => decide (b ≤ a)) f g)) := .mk fun {A E cenv s σ r'} hh hs G h => by
  unfold trX c2X at h
  split at h
  · rename_i q j e
    split at e
    · rename_i a j1 b' j2 e1 e2
      cases e; cases h
      refine wpAny_Compare1 (two_g hl hr hh hs G e1 e2 fun v1 v2 s2 K r1 r2 => ?_) hm
      cases r1; cases r2
      exact PyProof.Rows.ge_int ⟨rfl, K⟩
    · cases e
  · cases h
noncomputable def inI (f g : XE) : St → Option Bool := fun σ => match f σ, g σ with
  | some (.int a, _), some (.list ys, _) => (toInts ys).map fun ns => ns.any (· == a)
  | _, _ => none
theorem el_in {l r : Expr} {pos : Pos} {f g : XE} (hl : GvS b scope ns l f) (hr : GvS b scope ns r g) (hm : behindInMarks .In r = false := by rfl) : ElS b scope ns (.Compare l [.In] [r] pos) (inI f g) := .mk fun {A E cenv s σ r'} hh hs G h => by
  unfold inI at h
  split at h
  · rename_i a j1 ys j2 e1 e2
    cases q : toInts ys with
    | none => rw [q] at h; cases h
    | some ms =>
      rw [q] at h; cases h
      have := toInts_eq q; subst this
      refine wpAny_Compare1 (two_g hl hr hh hs G e1 e2 fun v1 v2 s2 K r1 r2 => ?_) hm
      cases r1
      obtain ⟨l', vs, rfl, _, la, ra⟩ := Rep.lst r2
      have hI : IntsAre vs.toList ms := ra.ints
      refine SeqInW.in_listW (isInt a) (fun y hy => ?_) la.isList ⟨?_, K⟩
      · have : ∀ {vs : List Value} {ms : List Int}, IntsAre vs ms → ∀ y ∈ vs, ∃ i t, y = .int i t := fun h => by
          induction h with
          | nil => intro y hy; cases hy
          | cons n t _ ih =>
            intro y hy
            rcases List.mem_cons.mp hy with rfl | hy
            · exact ⟨_, _, rfl⟩
            · exact ih y hy
        obtain ⟨i, t, rfl⟩ := this hI y (by simpa using hy)
        exact MeetsSeq.EqGives.int _ _ _ _
      · rw [← Array.any_toList, any_isInt _ hI]
  · cases h
end
theorem esc_none {ns : List Str} : ∀ l : List Str, EscIx ns l []
  | [] => .nil
  | _ :: l => .skip (esc_none l)
theorem ex_append0 {c : Cx} {x : Str} {p1 apos cpos pos : Pos} {e : Expr} {i : Nat} {f : XE} (nk : NsOk c) (hi : HasIdx c.ns x i) (he : EvS c e f) (hline : (apos.endLine == cpos.line) = true) (hp : Plain [e] := by intro _; rfl) :
    Ex1 c (.Expr (.Call (.Attribute (.Name x p1) "append" apos) [e] [] cpos) pos) (appX i [] f) := ex_append nk hi (esc_none _) he hline hp
end Mine

set_option Elab.async false
set_option linter.unusedVariables false
set_option autoImplicit false
open PySem PyProof.Rows
namespace Mine
noncomputable def genB (scope outer : Scope) (x : Str) : Bool :=
  scope.kind == .function && !scope.isCoroutine && (scope.names.all fun y => !(y.2 == .cell)) && scope.names.lookup (".0" : Str) == some NameKind.local && scope.names.lookup x == some .local && ((freeNames scope.names).all fun n => outer.names.lookup n == some .cell && scope.names.lookup n == some .free)
theorem GenOk.of {c : Cx} {scope : Scope} {x : Str} (h : genB scope c.scope x = true) : GenOk c scope x := by
  unfold genB at h
  simp only [Bool.and_eq_true, Bool.not_eq_true', List.all_eq_true, beq_iff_eq, beq_eq_false_iff_ne] at h
  obtain ⟨⟨⟨⟨⟨h1, h2⟩, h3⟩, h4⟩, h5⟩, h6⟩ := h
  exact ⟨h1, h2, h3, h4, h5, h6⟩
theorem FnT.imp {b : Base} {ts : Tabs} {lvl : Nat} {x : Str} {F F' : List PyData → Option PyData} (h : FnT b ts lvl x F) (hi : ∀ ds d, F' ds = some d → F ds = some d) : FnT b ts lvl x F' := by
  obtain ⟨a, o, fd, h1, h2, h3, con⟩ := h
  exact ⟨a, o, fd, h1, h2, h3, fun ao top low off ht tk ba r q => con ao top low off ht tk ba r (hi _ _ q)⟩
theorem anyX_bool {is : List Nat} {fi : XI} {q : St → Option Bool} : ∀ σ d k, anyX is fi q σ = some (d, k) → ∃ b, d = .bool b ∧ k = 0 := fun σ d k h => by
  unfold anyX at h
  split at h
  · rename_i xs kk fs e1 e2
    cases e : allQ fs q xs with
    | none => rw [e] at h; cases h
    | some bs => rw [e] at h; cases h; exact ⟨_, rfl, rfl⟩
  · cases h
noncomputable def frzX (fz : List Nat) (g : XS) : XS := fun σ => g (freezeL fz σ)
theorem ext_ifnotZ {c : Cx} {ts : Tabs} {cc : Addr} {x : Str} {p pos pos2 bpos : Pos} {es : List Expr} {body orelse : List Stmt} {fz : List Nat} {g : XS} (nk : NsOk c) (hz : EscIx c.ns (escs es) fz)
    (h : Ex1T c ts cc (.If (.UnaryOp .Not (.Call (.Name x p) es [] pos) pos2) body orelse bpos) g) : Ex1T c ts cc (.If (.UnaryOp .Not (.Call (.Name x p) es [] pos) pos2) body orelse bpos) (frzX fz g) := .mk fun {A env} ok hc hb Oo os s σ r ht hO tk ba fl σ' q => by
  obtain ⟨os1, r1, _⟩ := r.freeze nk fz
  exact h.run ok hc r1 ht hO tk ba q
end Mine

set_option Elab.async false
set_option linter.unusedVariables false
set_option autoImplicit false
open PySem PyProof.Rows
namespace Mine
theorem ns_hide {h : Heap} {ts : Tabs} {a : Addr} {m : Str → Option Value} (tk : TabsOk ts h) (n : h.Ns a m) : (hide h (ts.map (·.2))).Ns a m := by
  have ha : a ∉ ts.map (·.2) := fun hm => by
    obtain ⟨ps, e⟩ := tk.at hm
    obtain ⟨o, es, ep, ho, hd, _⟩ := n
    rw [e] at ho; cases ho; cases hd
  exact n.at' fun o e => (hide_off ha).trans e
theorem in_hide {K : PySem.W.Frag} {h : Heap} {ts : Tabs} {mg : Str → Option Value} (X : K.In h) (tk : TabsOk ts h) (G : h.Ns mainGlobals mg) (L : h.NoLimit) (hK : PySem.W.kb_classed K = true) : K.In (hide h (ts.map (·.2))) := by
  intro a o e
  have ha := X a o e
  have q := List.all_eq_true.mp hK (a, o) (PySem.W.kb_mem e)
  refine (hide_off fun hm => ?_).trans ha
  obtain ⟨ps, e'⟩ := tk.at hm
  rw [ha] at e'; cases e'
  simp only [Bool.or_eq_true, decide_eq_true_eq, beq_iff_eq] at q
  rcases q with (q | q) | q
  · exact q rfl
  · subst q
    obtain ⟨mc, ⟨o, es, ep, ho, hd, _⟩, _⟩ := L
    rw [ha] at ho; cases ho; cases hd
  · subst q
    obtain ⟨o, es, ep, ho, hd, _⟩ := G
    rw [ha] at ho; cases ho; cases hd
theorem base_hide {prog : Program} {w : World} {h : Heap} {mg mb : Str → Option Value} {ts : Tabs} (tk : TabsOk ts h) (g : h.Ns mainGlobals mg) (b : h.Ns builtinsNs mb) (L : h.NoLimit) : BaseOk ⟨prog, w, hide h (ts.map (·.2)), mg, mb⟩ :=
  ⟨ns_hide tk g, ns_hide tk b, let ⟨mc, n, e⟩ := L; ⟨mc, ns_hide tk n, e⟩⟩
theorem bm_hide {prog : Program} {w : World} {h : Heap} {mg mb : Str → Option Value} {ts : Tabs} (tk : TabsOk ts h) (hb : ∃ bm ob, mg "__builtins__" = some (.ref bm) ∧ bm ≠ builtinsNs ∧ h.get? bm = some ob ∧ ob.cls = .type "module" ∧ ob.dict = some builtinsNs ∧ ob.data = .plain) : BmOk ⟨prog, w, hide h (ts.map (·.2)), mg, mb⟩ := by
  obtain ⟨bm, ob, h1, h2, h3, h4, h5, h6⟩ := hb
  refine ⟨bm, ob, h1, h2, (hide_off fun hm => ?_).trans h3, h4, h5, h6⟩
  obtain ⟨ps, e⟩ := tk.at hm
  rw [h3] at e; cases e; cases h4
theorem oldK_of {ts : Tabs} {h h' : Heap} (k : KpT ts h h') (tk' : TabsOk ts h') (h0 : ∀ t ∈ ts, h.TableAt t.1 t.2 #[]) : OldK h h' := by
  refine ⟨fun b o e => ?_, fun b o e => ?_⟩
  · by_cases hb : b ∈ ts.map (·.2)
    · obtain ⟨t, ht, rfl⟩ := List.mem_map.mp hb
      obtain ⟨ps, _, tb⟩ := tk' t ht
      have e0 := (h0 t ht).2
      rw [e] at e0; cases e0
      exact .inr (.inl ⟨(h0 t ht).isCodeTable, rfl, #[], ps, rfl, by rw [tb.2]; simp⟩)
    · exact .inl (k b o hb e)
  · by_cases hb : b ∈ ts.map (·.2)
    · obtain ⟨t, ht, rfl⟩ := List.mem_map.mp hb
      obtain ⟨ps, _, tb⟩ := tk' t ht
      exact ⟨_, tb.2⟩
    · exact ⟨o, k b o hb e⟩
end Mine

set_option Elab.async false
set_option linter.unusedVariables false
set_option autoImplicit false
open PySem
namespace Mine

/-! what a body does, by its ends -/
noncomputable def WP0 (g : XS) (σ : St) (N B C : St → Prop) (R : PyData → Prop) : Prop := match g σ with
  | some (.next, σ') => N σ'
  | some (.brk, σ') => B σ'
  | some (.cont, σ') => C σ'
  | some (.ret d, _) => R d
  | none => False

section
variable {σ : St} {N B C : St → Prop} {R : PyData → Prop}
theorem WP0.mono {g : XS} {N' B' C' : St → Prop} {R' : PyData → Prop} (h : WP0 g σ N B C R) (hN : ∀ σ, N σ → N' σ) (hB : ∀ σ, B σ → B' σ) (hC : ∀ σ, C σ → C' σ) (hR : ∀ d, R d → R' d) : WP0 g σ N' B' C' R' := by
  unfold WP0 at h ⊢
  split at h
  · exact hN _ h
  · exact hB _ h
  · exact hC _ h
  · exact hR _ h
  · exact h
theorem wq_seq {f g : XS} (h : WP0 f σ (fun σ1 => WP0 g σ1 N B C R) B C R) : WP0 (seqX f g) σ N B C R := by
  unfold WP0 at h
  unfold WP0 seqX
  split at h <;> rename_i e <;> rw [e]
  · exact h
  · exact h
  · exact h
  · exact h
  · exact h
theorem wq_if {t : St → Option Bool} {f g : XS} {b : Bool} (e : t σ = some b) (h1 : b = true → WP0 f σ N B C R) (h2 : b = false → WP0 g σ N B C R) : WP0 (ifX t f g) σ N B C R := by
  unfold WP0 ifX
  rw [e]
  cases b with
  | true => exact h1 rfl
  | false => exact h2 rfl
theorem wq_asg0 {i : Nat} {fz : List Nat} {f : XE} {d : PyData} (e : f (freezeL fz σ) = some (d, 0)) (h : N ((freezeL fz σ).set i (some (d, 0)))) : WP0 (asgX i fz f) σ N B C R := by
  unfold WP0 asgX; rw [e]; exact h
theorem wq_asg3 {i : Nat} {fz : List Nat} {f : XE} {d : PyData} (e : f (freezeL fz σ) = some (d, 3)) (h : N ((freezeL fz σ).set i (some (d, 1)))) : WP0 (asgX i fz f) σ N B C R := by
  unfold WP0 asgX; rw [e]; exact h
theorem wq_app {i : Nat} {fz : List Nat} {f : XE} {xs : List PyData} {d : PyData} {k : Nat} (e1 : (freezeL fz σ)[i]? = some (some (.list xs, 1))) (e : f (freezeL fz σ) = some (d, k)) (hk : (k == 0 || k == 3) = true) (hl : xs.length < 1000000)
    (h : N ((freezeL fz σ).set i (some (.list (xs ++ [d]), 1)))) : WP0 (appX i fz f) σ N B C R := by
  have : appX i fz f σ = some (.next, (freezeL fz σ).set i (some (.list (xs ++ [d]), 1))) := by unfold appX; rw [e1, e]; exact if_pos ⟨hk, hl⟩
  unfold WP0; rw [this]; exact h
theorem wq_set {i : Nat} {fz : List Nat} {f g : XE} {xs : List PyData} {d : PyData} {k k' n : Nat} {j : Int} (e1 : (freezeL fz σ)[i]? = some (some (.list xs, 1))) (e : f (freezeL fz σ) = some (d, k)) (e2 : g (freezeL fz σ) = some (.int j, k')) (hk : (k == 0 || k == 3) = true) (hn : ixOf j xs.length = some n)
    (h : N ((freezeL fz σ).set i (some (.list (xs.set n d), 1)))) : WP0 (setX i fz f g) σ N B C R := by
  have : setX i fz f g σ = some (.next, (freezeL fz σ).set i (some (.list (xs.set n d), 1))) := by unfold setX; rw [e1, e, e2]; simp only [hk, if_true, hn]
  unfold WP0; rw [this]; exact h
theorem wq_del {i : Nat} {g : XE} {xs : List PyData} {k' n : Nat} {j : Int} (e1 : σ[i]? = some (some (.list xs, 1))) (e2 : g σ = some (.int j, k')) (hn : ixOf j xs.length = some n)
    (h : N (σ.set i (some (.list (xs.eraseIdx n), 1)))) : WP0 (delX i g) σ N B C R := by
  have : delX i g σ = some (.next, σ.set i (some (.list (xs.eraseIdx n), 1))) := by unfold delX; rw [e1, e2]; simp only [hn]
  unfold WP0; rw [this]; exact h
theorem wq_ret {fz : List Nat} {f : XE} {d : PyData} {k : Nat} (e : f (freezeL fz σ) = some (d, k)) (hk : (k == 0 || k == 3) = true) (h : R d) : WP0 (retX fz f) σ N B C R := by
  have : retX fz f σ = some (.ret d, freezeL fz σ) := by unfold retX; rw [e]; simp only [hk, if_true]
  unfold WP0; rw [this]; exact h

theorem wq_loop {i : Nat} {g : XS} (I : Nat → St → Prop) {xs : List PyData} (step : ∀ j σ d, xs[j]? = some d → I j σ → WP0 g (σ.set i (some (d, 0))) (I (j + 1)) N (I (j + 1)) R) (fin : ∀ σ, I xs.length σ → N σ) :
    ∀ (ys : List PyData) (j : Nat) (σ : St), xs.drop j = ys → j ≤ xs.length → I j σ → WP0 (loopX i g ys) σ N B C R
  | [], j, σ, e, hj, h => by
    have : j = xs.length := by
      have := congrArg List.length e
      rw [List.length_drop] at this
      simp at this; omega
    subst this
    exact fin σ h
  | y :: ys, j, σ, e, hj, h => by
    have hlt : j < xs.length := by
      have := congrArg List.length e
      rw [List.length_drop] at this
      simp at this; omega
    have hy : xs[j]? = some y ∧ xs.drop (j + 1) = ys := by
      rw [List.drop_eq_getElem_cons hlt] at e
      injection e with e1 e2
      exact ⟨by rw [List.getElem?_eq_getElem hlt, e1], e2⟩
    have s := step j σ y hy.1 h
    unfold WP0 at s
    unfold WP0 loopX
    split at s <;> rename_i e' <;> rw [e']
    · exact wq_loop I step fin ys (j + 1) _ hy.2 hlt s
    · exact s
    · exact wq_loop I step fin ys (j + 1) _ hy.2 hlt s
    · exact s
    · exact s
theorem wq_for {i : Nat} {fz : List Nat} {fi : XI} {g : XS} {xs : List PyData} {k : Nat} (I : Nat → St → Prop) (e : fi (freezeL fz σ) = some (xs, k)) (hk : (k == 0 || k == 3) = true) (h0 : I 0 (freezeL fz σ))
    (step : ∀ j σ d, xs[j]? = some d → I j σ → WP0 g (σ.set i (some (d, 0))) (I (j + 1)) N (I (j + 1)) R) (fin : ∀ σ, I xs.length σ → N σ) : WP0 (forX i fz fi g) σ N B C R := by
  have := wq_loop (B := B) (C := C) I step fin xs 0 (freezeL fz σ) rfl (Nat.zero_le _) h0
  unfold WP0 at this ⊢
  have e' : forX i fz fi g σ = loopX i g xs (freezeL fz σ) := by unfold forX; rw [e]; simp only [hk, if_true]
  rw [e']; exact this
end

theorem fnX_of0 {np nr : Nat} {g : XS} {ds : List PyData} {d : PyData} (hl : ds.length = np) (h : WP0 g (ds.map (fun d => some (d, 0)) ++ List.replicate nr none) (fun _ => False) (fun _ => False) (fun _ => False) (fun d' => d' = d)) : fnX np nr g ds = some d := by
  unfold fnX
  rw [if_pos hl]
  unfold WP0 at h
  split at h
  · exact h.elim
  · exact h.elim
  · exact h.elim
  · rename_i e; rw [e, h]
  · exact h.elim


structure WP (g : XS) (σ : St) (N B C : St → Prop) (R : PyData → Prop) : Prop where
  mk :: run : WP0 g σ N B C R

section
variable {σ : St} {N B C : St → Prop} {R : PyData → Prop}
theorem WP.mono {g : XS} {N' B' C' : St → Prop} {R' : PyData → Prop} (h : WP g σ N B C R) (hN : ∀ σ, N σ → N' σ) (hB : ∀ σ, B σ → B' σ) (hC : ∀ σ, C σ → C' σ) (hR : ∀ d, R d → R' d) : WP g σ N' B' C' R' := ⟨h.run.mono hN hB hC hR⟩
theorem wp_skip (h : N σ) : WP skipX σ N B C R := ⟨h⟩
theorem wp_seq {f g : XS} (h : WP f σ (fun σ1 => WP g σ1 N B C R) B C R) : WP (seqX f g) σ N B C R := ⟨wq_seq (h.run.mono (fun _ h => h.run) (fun _ h => h) (fun _ h => h) (fun _ h => h))⟩
theorem wp_brk (h : B σ) : WP (fun σ => some (.brk, σ)) σ N B C R := ⟨h⟩
theorem wp_cont (h : C σ) : WP (fun σ => some (.cont, σ)) σ N B C R := ⟨h⟩
theorem wp_if {t : St → Option Bool} {f g : XS} {b : Bool} (e : t σ = some b) (h1 : b = true → WP f σ N B C R) (h2 : b = false → WP g σ N B C R) : WP (ifX t f g) σ N B C R := ⟨wq_if e (fun h => (h1 h).run) (fun h => (h2 h).run)⟩
theorem wp_asg0 {i : Nat} {fz : List Nat} {f : XE} {d : PyData} (e : f (freezeL fz σ) = some (d, 0)) (h : N ((freezeL fz σ).set i (some (d, 0)))) : WP (asgX i fz f) σ N B C R := ⟨wq_asg0 e h⟩
theorem wp_asg3 {i : Nat} {fz : List Nat} {f : XE} {d : PyData} (e : f (freezeL fz σ) = some (d, 3)) (h : N ((freezeL fz σ).set i (some (d, 1)))) : WP (asgX i fz f) σ N B C R := ⟨wq_asg3 e h⟩
theorem wp_app {i : Nat} {fz : List Nat} {f : XE} {xs : List PyData} {d : PyData} {k : Nat} (e1 : (freezeL fz σ)[i]? = some (some (.list xs, 1))) (e : f (freezeL fz σ) = some (d, k)) (hk : (k == 0 || k == 3) = true) (hl : xs.length < 1000000)
    (h : N ((freezeL fz σ).set i (some (.list (xs ++ [d]), 1)))) : WP (appX i fz f) σ N B C R := ⟨wq_app e1 e hk hl h⟩
theorem wp_set {i : Nat} {fz : List Nat} {f g : XE} {xs : List PyData} {d : PyData} {k k' n : Nat} {j : Int} (e1 : (freezeL fz σ)[i]? = some (some (.list xs, 1))) (e : f (freezeL fz σ) = some (d, k)) (e2 : g (freezeL fz σ) = some (.int j, k')) (hk : (k == 0 || k == 3) = true) (hn : ixOf j xs.length = some n)
    (h : N ((freezeL fz σ).set i (some (.list (xs.set n d), 1)))) : WP (setX i fz f g) σ N B C R := ⟨wq_set e1 e e2 hk hn h⟩
theorem wp_del {i : Nat} {g : XE} {xs : List PyData} {k' n : Nat} {j : Int} (e1 : σ[i]? = some (some (.list xs, 1))) (e2 : g σ = some (.int j, k')) (hn : ixOf j xs.length = some n)
    (h : N (σ.set i (some (.list (xs.eraseIdx n), 1)))) : WP (delX i g) σ N B C R := ⟨wq_del e1 e2 hn h⟩
theorem wp_ret {fz : List Nat} {f : XE} {d : PyData} {k : Nat} (e : f (freezeL fz σ) = some (d, k)) (hk : (k == 0 || k == 3) = true) (h : R d) : WP (retX fz f) σ N B C R := ⟨wq_ret e hk h⟩
theorem wp_for {i : Nat} {fz : List Nat} {fi : XI} {g : XS} {xs : List PyData} {k : Nat} (I : Nat → St → Prop) (e : fi (freezeL fz σ) = some (xs, k)) (hk : (k == 0 || k == 3) = true) (h0 : I 0 (freezeL fz σ))
    (step : ∀ j σ d, xs[j]? = some d → I j σ → WP g (σ.set i (some (d, 0))) (I (j + 1)) N (I (j + 1)) R) (fin : ∀ σ, I xs.length σ → N σ) : WP (forX i fz fi g) σ N B C R := ⟨wq_for I e hk h0 (fun j σ d h h' => (step j σ d h h').run) fin⟩
end
theorem fnX_of {np nr : Nat} {g : XS} {ds : List PyData} {d : PyData} (hl : ds.length = np) (h : WP g (ds.map (fun d => some (d, 0)) ++ List.replicate nr none) (fun _ => False) (fun _ => False) (fun _ => False) (fun d' => d' = d)) : fnX np nr g ds = some d := fnX_of0 hl h.run

/-! values -/
section
variable {σ : St} {f g : XE}
theorem sub_l {xs : List PyData} {k k' j : Nat} {d : PyData} (e1 : f σ = some (.list xs, k)) (e2 : g σ = some (.int (j : Int), k')) (hk : k ≠ 2) (h : xs[j]? = some d) : subX f g σ = some (d, 0) := by
  have hj : j < xs.length := (List.getElem?_eq_some_iff.mp h).1
  have : ixOf (j : Int) xs.length = some j := by unfold ixOf; rw [if_pos (Int.natCast_nonneg _), if_pos (by omega)]; simp
  unfold subX
  rw [e1, e2]
  simp only [this, h, hk, if_false]
theorem sub_t {xs : List PyData} {k k' j : Nat} {d : PyData} (e1 : f σ = some (.tuple xs, k)) (e2 : g σ = some (.int (j : Int), k')) (hk : k ≠ 2) (h : xs[j]? = some d) : subX f g σ = some (d, 0) := by
  have hj : j < xs.length := (List.getElem?_eq_some_iff.mp h).1
  have : ixOf (j : Int) xs.length = some j := by unfold ixOf; rw [if_pos (Int.natCast_nonneg _), if_pos (by omega)]; simp
  unfold subX
  rw [e1, e2]
  simp only [this, h, hk, if_false]
theorem sub_last {xs : List PyData} {k k' n : Nat} {i : Int} {d : PyData} (e1 : f σ = some (.list xs, k)) (e2 : g σ = some (.int i, k')) (hk : k ≠ 2) (hi : i = -(n : Int)) (hn : 1 ≤ n) (hn2 : n ≤ xs.length) (h : xs[xs.length - n]? = some d) : subX f g σ = some (d, 0) := by
  have : ixOf i xs.length = some (xs.length - n) := by
    unfold ixOf; rw [if_neg (by omega), if_pos (by omega)]
    congr 1; omega
  unfold subX
  rw [e1, e2]
  simp only [this, h, hk, if_false]
theorem len_l {xs : List PyData} {k : Nat} (e1 : f σ = some (.list xs, k)) : lenX f σ = some (.int (xs.length : Nat), 0) := by unfold lenX; rw [e1]
theorem add_n {a b k k' : Nat} (e1 : f σ = some (.int (a : Int), k)) (e2 : g σ = some (.int (b : Int), k')) : addX f g σ = some (.int ((a + b : Nat) : Int), 0) := by unfold addX; rw [e1, e2]; simp
theorem add_l {xs ys : List PyData} {k k' : Nat} (e1 : f σ = some (.list xs, k)) (e2 : g σ = some (.list ys, k')) (h1 : k ≠ 2) (h2 : k' ≠ 2) (hl : xs.length + ys.length ≤ 10000000) : addX f g σ = some (.list (xs ++ ys), 3) := by
  unfold addX; rw [e1, e2]; simp only [if_pos (And.intro h1 (And.intro h2 hl))]
theorem eq_x {t : Bool} {a b : PyData} {k k' : Nat} (e1 : f σ = some (a, k)) (e2 : g σ = some (b, k')) (h : min a.depth b.depth ≤ 100) : eqX t f g σ = some (.bool (PyData.eqv a b == t), 0) := by
  unfold eqX; rw [e1, e2]; exact if_pos h
theorem in_l {t : Bool} {a : PyData} {ys : List PyData} {k k' : Nat} (e1 : f σ = some (a, k)) (e2 : g σ = some (.list ys, k')) (h : min (PyData.depthAll ys) a.depth ≤ 100) : inX t f g σ = some (.bool ((ys.any fun y => PyData.eqv y a) == t), 0) := by
  unfold inX; rw [e1, e2]; exact if_pos h
theorem c2_n {F : Int → Int → Bool} {a b : Int} {k k' : Nat} (e1 : f σ = some (.int a, k)) (e2 : g σ = some (.int b, k')) : c2X F f g σ = some (.bool (F a b), 0) := by unfold c2X; rw [e1, e2]
theorem i2_n {F : Int → Int → Option Int} {a b i : Int} {k k' : Nat} (e1 : f σ = some (.int a, k)) (e2 : g σ = some (.int b, k')) (h : F a b = some i) : i2X F f g σ = some (.int i, 0) := by unfold i2X; rw [e1, e2]; simp only [h, Option.map_some]
theorem tr_b {b : Bool} {k : Nat} (e : f σ = some (.bool b, k)) : trX f σ = some b := by unfold trX; rw [e]
theorem rng1_n {n k : Nat} (e : f σ = some (.int (n : Int), k)) (h : n ≤ 1000000) : rng1 f σ = some (upFrom 0 n, 3) := by
  unfold rng1; rw [e]; simp only; rw [if_pos (by omega)]; simp
theorem it_l {xs : List PyData} {k : Nat} (e : f σ = some (.list xs, k)) (h : k = 0 ∨ k = 1 ∨ k = 3) : itX f σ = some (xs, k) := by unfold itX; rw [e]; exact if_pos h
end
end Mine

set_option Elab.async false
set_option linter.unusedVariables false
set_option autoImplicit false
open PySem
namespace Mine

/-! numbering by first meeting -/
section
variable {α β : Type} [DecidableEq α] [DecidableEq β]
end

/-! lists in step -/
/-! what a machine shows -/
section
variable {a a' : Nat → Bool} {δ δ' : Nat → List Nat}
end

/-! classes, round by round -/
section
variable (a : Nat → Bool) (δ : Nat → List Nat) (n : Nat)
end
section
variable {a : Nat → Bool} {δ : Nat → List Nat} {n : Nat}
end
end Mine

set_option Elab.async false
set_option linter.unusedVariables false
set_option autoImplicit false
set_option linter.unusedSectionVars false
open PySem
namespace Mine

section
variable {α β : Type} {R : α → β → Prop}
end
theorem nodup_len {α : Type} [DecidableEq α] : ∀ {l m : List α}, l.Nodup → (∀ x ∈ l, x ∈ m) → l.length ≤ m.length
  | [], m, _, _ => Nat.zero_le _
  | x :: l, m, h, k => by
    rw [List.nodup_cons] at h
    have hx := k x List.mem_cons_self
    have := nodup_len (m := m.erase x) h.2 fun y hy => (List.mem_erase_of_ne (show y ≠ x from fun e => h.1 (e ▸ hy))).mpr (k y (List.mem_cons_of_mem _ hy))
    rw [List.length_erase_of_mem hx] at this
    have := List.length_pos_of_mem hx
    simp only [List.length_cons]; omega

/-! the search, breadth first -/
section
variable {κ κ' : Type} [DecidableEq κ] [DecidableEq κ']
variable {δ : Nat → List Nat} {key : Nat → κ} {s0 : Nat}
variable {δ' : Nat → List Nat} {key' : Nat → κ'} {s0' : Nat} {R : Nat → Nat → Prop}
/-! the machine of a search -/
end
end Mine

set_option Elab.async false
set_option linter.unusedVariables false
set_option autoImplicit false
open PySem
namespace Mine

section
variable {κ : Type} [DecidableEq κ] {aM aB : Nat → Bool} {δM δB : Nat → List Nat} {nM nB sM sB d : Nat} {sig : Nat → κ}
end

section
variable {κ : Type} [DecidableEq κ] {aB : Nat → Bool} {δB : Nat → List Nat} {nB sB : Nat} {sig : Nat → κ}
end
end Mine

set_option Elab.async false
set_option linter.unusedVariables false
set_option autoImplicit false
open PySem
namespace Mine

/-! data by code -/
structure Enc {α : Type} [DecidableEq α] (en : α → PyData) (D : Nat) : Prop where
  eq : ∀ a b, PyData.eqv (en a) (en b) = decide (a = b)
  dep : ∀ a, (en a).depth ≤ D
noncomputable def iN (n : Nat) : PyData := .int (n : Int)
noncomputable def lE {α : Type} (en : α → PyData) (l : List α) : PyData := .list (l.map en)
theorem enc_n : Enc iN 0 := ⟨fun a b => by
  show ((a : Int) == (b : Int)) = _
  by_cases h : a = b
  · subst h; simp
  · rw [decide_eq_false h, beq_eq_false_iff_ne]; omega, fun _ => Nat.le_refl _⟩
theorem enc_i : Enc PyData.int 0 := ⟨fun a b => by
  show (a == b) = _
  by_cases h : a = b
  · subst h; simp
  · rw [decide_eq_false h, beq_eq_false_iff_ne]; exact h, fun _ => Nat.le_refl _⟩
theorem enc_b : Enc PyData.bool 0 := ⟨fun a b => by cases a <;> cases b <;> rfl, fun _ => Nat.le_refl _⟩
section
variable {α : Type} [DecidableEq α] {en : α → PyData} {D : Nat}
theorem Enc.all (E : Enc en D) : ∀ l : List α, PyData.depthAll (l.map en) ≤ D
  | [] => Nat.zero_le _
  | x :: l => by
    show max (en x).depth (PyData.depthAll (l.map en)) ≤ D
    have := E.dep x; have := E.all l; omega
theorem enc_l (E : Enc en D) : Enc (lE en) (D + 1) := by
  refine ⟨fun a b => ?_, fun l => ?_⟩
  · show PyData.eqvAll (a.map en) (b.map en) = _
    induction a generalizing b with
    | nil => cases b with
      | nil => rfl
      | cons _ _ => rfl
    | cons x a ih => cases b with
      | nil => rfl
      | cons y b =>
        show (PyData.eqv (en x) (en y) && PyData.eqvAll (a.map en) (b.map en)) = _
        rw [E.eq, ih]
        simp
  · show PyData.depthAll (l.map en) + 1 ≤ D + 1
    have := E.all l; omega
theorem Enc.any (E : Enc en D) (a : α) : ∀ l : List α, ((l.map en).any fun y => PyData.eqv y (en a)) = decide (a ∈ l)
  | [] => by simp
  | x :: l => by
    rw [List.map_cons, List.any_cons, E.any a l, E.eq]
    by_cases h : x = a
    · subst h; simp
    · rw [decide_eq_false h]
      have : a ∈ x :: l ↔ a ∈ l := by simp [Ne.symm h]
      simp only [this, Bool.false_or]
end

section
variable {α : Type} [DecidableEq α] {en : α → PyData} {D : Nat} {σ : St} {f g : XE} {k k' : Nat}
theorem in_e (E : Enc en D) (hD : D ≤ 100) {t : Bool} {a : α} {l : List α} (e1 : f σ = some (en a, k)) (e2 : g σ = some (lE en l, k')) : inX t f g σ = some (.bool (decide (a ∈ l) == t), 0) := by
  rw [in_l e1 e2 (by have := E.dep a; omega), E.any]
theorem eq_e (E : Enc en D) (hD : D ≤ 100) {t : Bool} {a b : α} (e1 : f σ = some (en a, k)) (e2 : g σ = some (en b, k')) : eqX t f g σ = some (.bool (decide (a = b) == t), 0) := by
  rw [eq_x e1 e2 (by have := E.dep a; omega), E.eq]
theorem sub_e {l : List α} {j : Nat} {a : α} (e1 : f σ = some (lE en l, k)) (e2 : g σ = some (iN j, k')) (hk : k ≠ 2) (h : l[j]? = some a) : subX f g σ = some (en a, 0) :=
  sub_l e1 e2 hk (by rw [List.getElem?_map, h]; rfl)
theorem len_e {l : List α} (e1 : f σ = some (lE en l, k)) : lenX f σ = some (iN l.length, 0) := by rw [len_l e1, List.length_map]; rfl
end
section
variable {α : Type} {en : α → PyData} {σ : St} {N B C : St → Prop} {R : PyData → Prop} {f g : XE} {k k' : Nat}
theorem wp_appE {i : Nat} {fz : List Nat} {xs : List α} {a : α} (e1 : (freezeL fz σ)[i]? = some (some (lE en xs, 1))) (e : f (freezeL fz σ) = some (en a, k)) (hk : (k == 0 || k == 3) = true) (hl : xs.length < 1000000)
    (h : N ((freezeL fz σ).set i (some (lE en (xs ++ [a]), 1)))) : WP (appX i fz f) σ N B C R := by
  refine wp_app e1 e hk (by rwa [List.length_map]) ?_
  have : PyData.list (xs.map en ++ [en a]) = lE en (xs ++ [a]) := by unfold lE; rw [List.map_append]; rfl
  rw [this]; exact h
theorem ix_n {j n : Nat} (h : j < n) : ixOf (j : Int) n = some j := by unfold ixOf; rw [if_pos (Int.natCast_nonneg _), if_pos (by omega)]; simp
theorem wp_setE {i : Nat} {fz : List Nat} {xs : List α} {a : α} {j : Nat} (e1 : (freezeL fz σ)[i]? = some (some (lE en xs, 1))) (e : f (freezeL fz σ) = some (en a, k)) (e2 : g (freezeL fz σ) = some (iN j, k')) (hk : (k == 0 || k == 3) = true) (hj : j < xs.length)
    (h : N ((freezeL fz σ).set i (some (lE en (xs.set j a), 1)))) : WP (setX i fz f g) σ N B C R := by
  refine wp_set (n := j) e1 e e2 hk (ix_n (by rwa [List.length_map])) ?_
  have : PyData.list ((xs.map en).set j (en a)) = lE en (xs.set j a) := by unfold lE; rw [List.map_set]
  rw [this]; exact h
theorem up_get {n j : Nat} {d : PyData} (h : (upFrom 0 n)[j]? = some d) : j < n ∧ d = iN j := by
  unfold upFrom at h
  rw [List.getElem?_map] at h
  obtain ⟨x, hx, e⟩ := Option.map_eq_some_iff.mp h
  have h1 := (List.getElem?_eq_some_iff.mp hx).1
  rw [List.length_range] at h1
  rw [List.getElem?_range h1] at hx
  cases hx
  refine ⟨h1, ?_⟩
  rw [← e, Int.zero_add]; rfl
theorem wp_rng {i : Nat} {fz : List Nat} {s : XS} {n : Nat} (I : Nat → St → Prop) (e : f (freezeL fz σ) = some (iN n, k)) (hn : n ≤ 1000000) (h0 : I 0 (freezeL fz σ))
    (step : ∀ j σ, j < n → I j σ → WP s (σ.set i (some (iN j, 0))) (I (j + 1)) N (I (j + 1)) R) (fin : ∀ σ, I n σ → N σ) : WP (forX i fz (rng1 f) s) σ N B C R := by
  refine wp_for I (rng1_n e hn) rfl h0 (fun j σ d hd h => ?_) (fun σ h => fin σ ?_)
  · obtain ⟨h1, rfl⟩ := up_get hd
    exact step j σ h1 h
  · unfold upFrom at h; rwa [List.length_map, List.length_range] at h
theorem wp_it {i : Nat} {fz : List Nat} {s : XS} {l : List α} (I : Nat → St → Prop) (e : f (freezeL fz σ) = some (lE en l, k)) (hk : (k == 0 || k == 3) = true) (h0 : I 0 (freezeL fz σ))
    (step : ∀ j σ a, l[j]? = some a → I j σ → WP s (σ.set i (some (en a, 0))) (I (j + 1)) N (I (j + 1)) R) (fin : ∀ σ, I l.length σ → N σ) : WP (forX i fz (itX f) s) σ N B C R := by
  refine wp_for I (it_l e ?_) hk h0 (fun j σ d hd h => ?_) (fun σ h => fin σ ?_)
  · simp at hk; omega
  · rw [List.getElem?_map] at hd
    obtain ⟨x, hx, rfl⟩ := Option.map_eq_some_iff.mp hd
    exact step j σ x hx h
  · rwa [List.length_map] at h
theorem comp_it {β : Type} {en' : β → PyData} {is : List Nat} {fe : XE} {l : List α} {fs : St} (h : α → β) (e1 : f σ = some (lE en l, k)) (hk : k = 0 ∨ k = 1 ∨ k = 3) (e2 : freeOf is σ = some fs) (e3 : ∀ x ∈ l, ∃ k, fe (some (en x, 0) :: fs) = some (en' (h x), k) ∧ (k == 0 || k == 3) = true) :
    compX is (itX f) (fun _ => some true) fe σ = some (lE en' (l.map h), 3) := by
  have : ∀ ys : List α, (∀ x ∈ ys, ∃ k, fe (some (en x, 0) :: fs) = some (en' (h x), k) ∧ (k == 0 || k == 3) = true) → compL fs (fun _ => some true) fe (ys.map en) = some ((ys.map h).map en') := fun ys => by
    induction ys with
    | nil => intro _; rfl
    | cons y ys ih =>
      intro hy
      obtain ⟨k, h2, h3⟩ := hy y List.mem_cons_self
      rw [List.map_cons]
      unfold compL
      simp only [h2, h3, if_true, ih fun x hx => hy x (List.mem_cons_of_mem _ hx)]
      rfl
  unfold compX
  rw [it_l e1 hk, e2]; simp only [this l e3]; rfl
theorem comp_itF {β : Type} {en' : β → PyData} {is : List Nat} {ft : St → Option Bool} {fe : XE} {l : List α} {fs : St} (p : α → Bool) (h : α → β) (e1 : f σ = some (lE en l, k)) (hk : k = 0 ∨ k = 1 ∨ k = 3) (e2 : freeOf is σ = some fs)
    (e3 : ∀ x ∈ l, ft (some (en x, 0) :: fs) = some (p x) ∧ (p x = true → ∃ k, fe (some (en x, 0) :: fs) = some (en' (h x), k) ∧ (k == 0 || k == 3) = true)) :
    compX is (itX f) ft fe σ = some (lE en' ((l.filter p).map h), 3) := by
  have : ∀ ys : List α, (∀ x ∈ ys, ft (some (en x, 0) :: fs) = some (p x) ∧ (p x = true → ∃ k, fe (some (en x, 0) :: fs) = some (en' (h x), k) ∧ (k == 0 || k == 3) = true)) → compL fs ft fe (ys.map en) = some (((ys.filter p).map h).map en') := fun ys => by
    induction ys with
    | nil => intro _; rfl
    | cons y ys ih =>
      intro hy
      obtain ⟨h1, hh⟩ := hy y List.mem_cons_self
      have ih' := ih fun x hx => hy x (List.mem_cons_of_mem _ hx)
      rw [List.map_cons]
      unfold compL
      rw [h1]
      cases hp : p y with
      | false => simp only [List.filter_cons, hp]; exact ih'
      | true =>
        obtain ⟨k, h2, h3⟩ := hh hp
        simp only [h2, h3, if_true, ih', List.filter_cons, hp]
        rfl
  unfold compX
  rw [it_l e1 hk, e2]; simp only [this l e3]; rfl
theorem rng_it {n : Nat} (e : f σ = some (iN n, k)) (hn : n ≤ 1000000) : rng1 f σ = itX (fun _ => some (lE iN (List.range n), 3)) σ := by
  rw [rng1_n e hn, it_l (xs := (List.range n).map iN) rfl (.inr (.inr rfl))]
  unfold upFrom
  congr 2
  refine List.map_congr_left fun x _ => ?_
  rw [Int.zero_add]; rfl
theorem comp_rngF {β : Type} {en' : β → PyData} {is : List Nat} {ft : St → Option Bool} {fe : XE} {n : Nat} {fs : St} (p : Nat → Bool) (h : Nat → β) (e1 : f σ = some (iN n, k)) (hn : n ≤ 1000000) (e2 : freeOf is σ = some fs)
    (e3 : ∀ x, x < n → ft (some (iN x, 0) :: fs) = some (p x) ∧ (p x = true → ∃ k, fe (some (iN x, 0) :: fs) = some (en' (h x), k) ∧ (k == 0 || k == 3) = true)) :
    compX is (rng1 f) ft fe σ = some (lE en' (((List.range n).filter p).map h), 3) := by
  have := comp_itF (en := iN) (en' := en') (is := is) (ft := ft) (fe := fe) (σ := σ) (f := fun _ => some (lE iN (List.range n), 3)) (k := 3) p h rfl (.inr (.inr rfl)) e2 fun x hx => e3 x (List.mem_range.mp hx)
  rw [← this]; unfold compX; rw [rng_it e1 hn]
end
end Mine

set_option Elab.async false
set_option maxRecDepth 10000
open PySem
namespace Mine
end Mine

set_option Elab.async false
set_option linter.unusedVariables false
set_option linter.unusedSectionVars false
set_option autoImplicit false
set_option maxRecDepth 10000
open PySem
namespace Mine
section
variable {σ : St} {N B C : St → Prop} {R : PyData → Prop}
theorem wp_cut {f g : XS} (M : St → Prop) (h1 : WP f σ M B C R) (h2 : ∀ σ, M σ → WP g σ N B C R) : WP (seqX f g) σ N B C R :=
  wp_seq (h1.mono h2 (fun _ h => h) (fun _ h => h) (fun _ h => h))
theorem fnX_ex {np nr : Nat} {g : XS} {ds : List PyData} {P : PyData → Prop} (hl : ds.length = np) (h : WP g (ds.map (fun d => some (d, 0)) ++ List.replicate nr none) (fun _ => False) (fun _ => False) (fun _ => False) P) : ∃ d, fnX np nr g ds = some d ∧ P d := by
  have h := h.run
  unfold fnX
  rw [if_pos hl]
  unfold WP0 at h
  split at h
  · exact h.elim
  · exact h.elim
  · exact h.elim
  · rename_i e; rw [e]; exact ⟨_, rfl, h⟩
  · exact h.elim
end
section
variable {α : Type} [DecidableEq α] {en : α → PyData} {D : Nat} {σ : St} {f g : XE} {k k' : Nat}
theorem in_t (E : Enc en D) (hD : D ≤ 100) {a : α} {l : List α} (e1 : f σ = some (en a, k)) (e2 : g σ = some (lE en l, k')) : inX true f g σ = some (.bool (decide (a ∈ l)), 0) := by
  rw [in_e E hD e1 e2]; simp
theorem in_f (E : Enc en D) (hD : D ≤ 100) {a : α} {l : List α} (e1 : f σ = some (en a, k)) (e2 : g σ = some (lE en l, k')) : inX false f g σ = some (.bool (!decide (a ∈ l)), 0) := by
  rw [in_e E hD e1 e2]; simp
theorem eq_t (E : Enc en D) (hD : D ≤ 100) {a b : α} (e1 : f σ = some (en a, k)) (e2 : g σ = some (en b, k')) : eqX true f g σ = some (.bool (decide (a = b)), 0) := by
  rw [eq_e E hD e1 e2]; simp
end

section
variable {s : Nat} {A : List Nat} {T : List (List Nat)}
end
end Mine

set_option Elab.async false
set_option linter.unusedVariables false
set_option linter.unusedSectionVars false
set_option autoImplicit false
set_option maxRecDepth 10000
open PySem
namespace Mine

theorem sort_n {σ : St} {f : XE} {k : Nat} {l m : List Nat} (e : f σ = some (lE iN l, k)) (hl : l.length < 64) (hd : l.Nodup) (hm : m.Pairwise (· < ·)) (h : ∀ x, x ∈ m ↔ x ∈ l) : sortX f σ = some (lE iN m, 3) := by
  have hmd : m.Nodup := hm.imp fun h => Nat.ne_of_lt h
  have p := (List.perm_ext_iff_of_nodup hmd hd).mpr h
  have e1 : toInts (l.map iN) = some (l.map fun (x : Nat) => (x : Int)) := by
    have := toInts_map (l.map fun (x : Nat) => (x : Int))
    rw [List.map_map] at this; exact this
  have e2 : (m.map fun (x : Nat) => (x : Int)) = sortI (l.map fun (x : Nat) => (x : Int)) := by
    refine sortI_eq (p.map _) ?_
    rw [List.pairwise_map]
    exact hm.imp fun h => by omega
  unfold sortX
  rw [e]
  simp only [lE, List.length_map, hl, if_true, e1, Option.map_some, ← e2, List.map_map]
  rfl
section
variable {s : Nat} {A : List Nat} {T : List (List Nat)}
end
end Mine

set_option Elab.async false
set_option linter.unusedVariables false
set_option linter.unusedSectionVars false
set_option autoImplicit false
set_option maxRecDepth 10000
open PySem
namespace Mine

section
variable {σ : St} {f : XE} {k : Nat} {fs : List XE} {d v : PyData} {ds : List PyData} {F : List PyData → Option PyData}
theorem ar_nil : argsX [] σ = some [] := rfl
theorem ar_cons (e : f σ = some (d, k)) (hk : (k == 0 || k == 3) = true) (h : argsX fs σ = some ds) : argsX (f :: fs) σ = some (d :: ds) := by
  unfold argsX; rw [e]; simp only [hk, if_true, h, Option.map_some]
theorem call_x (h : argsX fs σ = some ds) (hF : F ds = some v) : callX F fs σ = some (v, 0) := by
  unfold callX; rw [h]; simp only [hF, Option.map_some]
theorem tup_x (h : argsX fs σ = some ds) (hl : ds.length ≤ 1000) : tupX fs σ = some (.tuple ds, 0) := by
  unfold tupX; rw [h]; simp only [hl, if_true]
theorem lst_x (h : argsX fs σ = some ds) (hl : ds.length ≤ 1000) : lstX fs σ = some (.list ds, 3) := by
  unfold lstX; rw [h]; simp only [hl, if_true]
theorem and_t {t u : St → Option Bool} {b c : Bool} (h1 : t σ = some b) (h2 : b = true → u σ = some c) : andT t u σ = some (b && c) := by
  unfold andT; rw [h1]
  cases b with
  | true => exact h2 rfl
  | false => rfl
end
section
variable {s : Nat} {A : List Nat} {T : List (List Nat)}
end
end Mine

set_option Elab.async false
set_option linter.unusedVariables false
set_option linter.unusedSectionVars false
set_option autoImplicit false
set_option maxRecDepth 10000
open PySem
namespace Mine
noncomputable def md (a : Int) (m : Nat) : Nat := (a.fmod (m : Int)).toNat
theorem md_lt {a : Int} {m : Nat} (h : 0 < m) : md a m < m := by
  have h1 := Int.fmod_lt_of_pos a (by omega : (0 : Int) < m)
  unfold md; omega
theorem md_int {a : Int} {m : Nat} (h : 0 < m) : a.fmod (m : Int) = (md a m : Int) := by
  have h1 := Int.fmod_nonneg_of_pos a (by omega : (0 : Int) < m)
  unfold md; omega
theorem md_nat (a m : Nat) : md (a : Int) m = a % m := by
  unfold md
  have : (a : Int).fmod (m : Int) = ((a % m : Nat) : Int) := by
    rw [Int.fmod_eq_emod_of_nonneg _ (by omega)]; rfl
  rw [this]; rfl
section
variable {σ : St} {f g : XE} {k k' : Nat}
theorem mod_n {a : Int} {m : Nat} (e1 : f σ = some (.int a, k)) (e2 : g σ = some (iN m, k')) (hm : 0 < m) : i2X (fun a b => if b = 0 then none else some (a.fmod b)) f g σ = some (iN (md a m), 0) :=
  i2_n e1 e2 (by rw [if_neg (by omega), md_int hm])
theorem sub_n {a b : Nat} (e1 : f σ = some (iN a, k)) (e2 : g σ = some (iN b, k')) (h : b ≤ a) : i2X (fun a b => some (a - b)) f g σ = some (iN (a - b), 0) :=
  i2_n e1 e2 (by congr 1; omega)
theorem ad_n {a b : Nat} (e1 : f σ = some (iN a, k)) (e2 : g σ = some (iN b, k')) : addX f g σ = some (iN (a + b), 0) := add_n e1 e2
end
end Mine

set_option Elab.async false
set_option maxRecDepth 10000
set_option linter.unusedVariables false
open PySem
namespace Mine
noncomputable def leavesD : PyData := .tuple [.tuple [.str "chr", .str "a"], .tuple [.str "chr", .str "b"], .tuple [.str "any", .str ""], .tuple [.str "chr", .str "a"], .tuple [.str "eps", .str ""], .tuple [.str "chr", .str "c"]]
noncomputable def kindsD : PyData := .tuple [.str "star", .str "plus", .str "opt", .str "cat", .str "alt", .str "cat"]
noncomputable def g2cell : XS :=
  (seqX (ifX (trX (c2X (fun a b => decide (a < b)) (vX 1) (lenX (vX 0)))) (seqX (retX [] (subX (vX 0) (vX 1))) skipX) skipX) (seqX (retX [] (kX (PyData.int 0))) skipX))

noncomputable def g2thom : XS :=
  (seqX (deep0X 1) (seqX (asgX 2 [] (lstX [])) (seqX (forX 3 [0] (itX (vX 0)) (seqX (asgX 4 [] (subX (vX 3) (kX (PyData.int 0)))) (seqX (ifX (trX (eqX true (vX 4) (kX (PyData.str (Str.ofString "cat"))))) (seqX (asgX 5 [] (subX (vX 2) (negX (kX (PyData.int 2))))) (seqX (asgX 6 [] (subX (vX 2) (negX (kX (PyData.int 1))))) (seqX (delX 2 (negX (kX (PyData.int 1)))) (seqX (deepAX 1 [] (subX (vX 5) (kX (PyData.int 1))) (tupX [kX (PyData.str (Str.ofString "")), subX (vX 6) (kX (PyData.int 0))])) (seqX (setX 2 [] (tupX [subX (vX 5) (kX (PyData.int 0)), subX (vX 6) (kX (PyData.int 1))]) (negX (kX (PyData.int 1)))) (seqX (fun σ => some (Fl.cont, σ)) skipX)))))) skipX) (seqX (asgX 7 [] (lenX (vX 1))) (seqX (asgX 8 [] (addX (vX 7) (kX (PyData.int 1)))) (seqX (deepNX 1) (seqX (deepNX 1) (seqX (ifX (trX (inX true (vX 4) (tupX [kX (PyData.str (Str.ofString "chr")), kX (PyData.str (Str.ofString "any")), kX (PyData.str (Str.ofString "eps"))]))) (seqX (asgX 9 [] (subX (vX 3) (kX (PyData.int 1)))) (seqX (ifX (trX (eqX true (vX 4) (kX (PyData.str (Str.ofString "any"))))) (seqX (asgX 9 [] (kX (PyData.str (Str.ofString ".")))) skipX) skipX) (seqX (deepAX 1 [9, 8] (vX 7) (tupX [vX 9, vX 8])) (seqX (appX 2 [7, 8] (tupX [vX 7, vX 8])) skipX)))) (seqX (ifX (trX (eqX true (vX 4) (kX (PyData.str (Str.ofString "alt"))))) (seqX (asgX 5 [] (subX (vX 2) (negX (kX (PyData.int 2))))) (seqX (asgX 6 [] (subX (vX 2) (negX (kX (PyData.int 1))))) (seqX (delX 2 (negX (kX (PyData.int 1)))) (seqX (deepAX 1 [] (vX 7) (tupX [kX (PyData.str (Str.ofString "")), subX (vX 5) (kX (PyData.int 0))])) (seqX (deepAX 1 [] (vX 7) (tupX [kX (PyData.str (Str.ofString "")), subX (vX 6) (kX (PyData.int 0))])) (seqX (deepAX 1 [8] (subX (vX 5) (kX (PyData.int 1))) (tupX [kX (PyData.str (Str.ofString "")), vX 8])) (seqX (deepAX 1 [8] (subX (vX 6) (kX (PyData.int 1))) (tupX [kX (PyData.str (Str.ofString "")), vX 8])) (seqX (setX 2 [7, 8] (tupX [vX 7, vX 8]) (negX (kX (PyData.int 1)))) skipX)))))))) (seqX (asgX 10 [] (subX (vX 2) (negX (kX (PyData.int 1))))) (seqX (deepAX 1 [] (vX 7) (tupX [kX (PyData.str (Str.ofString "")), subX (vX 10) (kX (PyData.int 0))])) (seqX (ifX (trX (eqX false (vX 4) (kX (PyData.str (Str.ofString "plus"))))) (seqX (deepAX 1 [8] (vX 7) (tupX [kX (PyData.str (Str.ofString "")), vX 8])) skipX) skipX) (seqX (ifX (trX (eqX false (vX 4) (kX (PyData.str (Str.ofString "opt"))))) (seqX (deepAX 1 [] (subX (vX 10) (kX (PyData.int 1))) (tupX [kX (PyData.str (Str.ofString "")), subX (vX 10) (kX (PyData.int 0))])) skipX) skipX) (seqX (deepAX 1 [8] (subX (vX 10) (kX (PyData.int 1))) (tupX [kX (PyData.str (Str.ofString "")), vX 8])) (seqX (setX 2 [7, 8] (tupX [vX 7, vX 8]) (negX (kX (PyData.int 1)))) skipX))))))) skipX)) skipX)))))))) (seqX (retX [1] (tupX [subX (subX (vX 2) (negX (kX (PyData.int 1)))) (kX (PyData.int 0)), subX (subX (vX 2) (negX (kX (PyData.int 1)))) (kX (PyData.int 1)), vX 1])) skipX))))

noncomputable def g2clos : XS :=
  (seqX (asgX 2 [] (lstX [])) (seqX (asgX 3 [] (lstX [])) (seqX (forX 4 [1] (itX (vX 1)) (seqX (ifX (trX (inX false (vX 4) (vX 2))) (seqX (appX 2 [4] (vX 4)) (seqX (appX 3 [4] (vX 4)) skipX)) skipX) skipX)) (seqX (forX 5 [] (rng1 (addX (lenX (vX 0)) (lenX (vX 3)))) (seqX (ifX (trX (eqX true (lenX (vX 3)) (kX (PyData.int 0)))) (seqX (fun σ => some (Fl.brk, σ)) skipX) skipX) (seqX (asgX 4 [] (subX (vX 3) (negX (kX (PyData.int 1))))) (seqX (delX 3 (negX (kX (PyData.int 1)))) (seqX (forX 6 [] (itX (subX (vX 0) (vX 4))) (seqX (ifX (andT (trX (eqX true (subX (vX 6) (kX (PyData.int 0))) (kX (PyData.str (Str.ofString ""))))) (trX (inX false (subX (vX 6) (kX (PyData.int 1))) (vX 2)))) (seqX (appX 2 [] (subX (vX 6) (kX (PyData.int 1)))) (seqX (appX 3 [] (subX (vX 6) (kX (PyData.int 1)))) skipX)) skipX) skipX)) skipX))))) (seqX (retX [2] (sortX (vX 2))) skipX)))))

noncomputable def g2step : XS :=
  (seqX (asgX 3 [] (lstX [])) (seqX (forX 4 [1] (itX (vX 1)) (seqX (forX 5 [] (itX (subX (vX 0) (vX 4))) (seqX (ifX (andT (orT (trX (eqX true (subX (vX 5) (kX (PyData.int 0))) (vX 2))) (trX (eqX true (subX (vX 5) (kX (PyData.int 0))) (kX (PyData.str (Str.ofString ".")))))) (trX (inX false (subX (vX 5) (kX (PyData.int 1))) (vX 3)))) (seqX (appX 3 [] (subX (vX 5) (kX (PyData.int 1)))) skipX) skipX) skipX)) skipX)) (seqX (retX [3] (sortX (vX 3))) skipX)))

noncomputable def g2post (F0 : List PyData → Option PyData) : XS :=
  (seqX (asgX 1 [] (lstX [])) (seqX (asgX 2 [] (kX (PyData.int 0))) (seqX (asgX 3 [] (kX (PyData.int 0))) (seqX (forX 4 [] (rng1 (addX (kX (PyData.int 2)) (i2X (fun a b => if b = 0 then none else some (a.fmod b)) (callX F0 [vX 0, kX (PyData.int 0)]) (kX (PyData.int 7))))) (seqX (asgX 5 [] (i2X (fun a b => if b = 0 then none else some (a.fmod b)) (callX F0 [vX 0, addX (kX (PyData.int 2)) (vX 4)]) (kX (PyData.int 12)))) (seqX (ifX (orT (trX (eqX true (vX 2) (kX (PyData.int 0)))) (andT (trX (c2X (fun a b => decide (a < b)) (vX 5) (kX (PyData.int 6)))) (trX (c2X (fun a b => decide (a < b)) (vX 3) (kX (PyData.int 4)))))) (seqX (appX 1 [] (subX (kX leavesD) (i2X (fun a b => if b = 0 then none else some (a.fmod b)) (vX 5) (kX (PyData.int 6))))) (seqX (asgX 2 [] (addX (vX 2) (kX (PyData.int 1)))) (seqX (asgX 3 [] (addX (vX 3) (kX (PyData.int 1)))) skipX))) (seqX (ifX (trX (c2X (fun a b => decide (b < a)) (vX 2) (kX (PyData.int 1)))) (seqX (appX 1 [] (tupX [subX (kX kindsD) (i2X (fun a b => if b = 0 then none else some (a.fmod b)) (vX 5) (kX (PyData.int 6))), kX (PyData.str (Str.ofString ""))])) (seqX (ifX (trX (c2X (fun a b => decide (b < a)) (i2X (fun a b => if b = 0 then none else some (a.fmod b)) (vX 5) (kX (PyData.int 6))) (kX (PyData.int 2)))) (seqX (asgX 2 [] (i2X (fun a b => some (a - b)) (vX 2) (kX (PyData.int 1)))) skipX) skipX) skipX)) (seqX (appX 1 [] (tupX [subX (kX kindsD) (i2X (fun a b => if b = 0 then none else some (a.fmod b)) (vX 5) (kX (PyData.int 3))), kX (PyData.str (Str.ofString ""))])) skipX)) skipX)) skipX))) (seqX (forX 4 [] (rng1 (i2X (fun a b => some (a - b)) (vX 2) (kX (PyData.int 1)))) (seqX (appX 1 [] (tupX [subX (kX kindsD) (addX (kX (PyData.int 3)) (i2X (fun a b => if b = 0 then none else some (a.fmod b)) (callX F0 [vX 0, addX (kX (PyData.int 10)) (vX 4)]) (kX (PyData.int 2)))), kX (PyData.str (Str.ofString ""))])) skipX)) (seqX (retX [1] (vX 1)) skipX))))))

noncomputable def g2read : XS :=
  (seqX (asgX 1 [] (kX (PyData.int 0))) (seqX (asgX 2 [] (lstX [])) (seqX (asgX 3 [] (lstX [])) (seqX (asgX 4 [] (lstX [])) (seqX (forX 5 [0] (itX (vX 0)) (seqX (asgX 6 [] (subX (vX 5) (kX (PyData.int 0)))) (seqX (ifX (orT (trX (eqX true (vX 6) (kX (PyData.str (Str.ofString "chr"))))) (trX (eqX true (vX 6) (kX (PyData.str (Str.ofString "any")))))) (seqX (asgX 7 [] (subX (vX 5) (kX (PyData.int 1)))) (seqX (ifX (trX (eqX true (vX 6) (kX (PyData.str (Str.ofString "any"))))) (seqX (asgX 7 [] (kX (PyData.str (Str.ofString ".")))) skipX) skipX) (seqX (appX 4 [] (tupX [kX (PyData.bool false), lstX [lenX (vX 2)], lstX [lenX (vX 2)]])) (seqX (appX 2 [1, 7] (tupX [vX 1, vX 7, addX (vX 1) (kX (PyData.int 1))])) (seqX (appX 3 [] (lstX [])) skipX))))) (seqX (ifX (trX (eqX true (vX 6) (kX (PyData.str (Str.ofString "eps"))))) (seqX (appX 4 [] (tupX [kX (PyData.bool true), lstX [], lstX []])) skipX) (seqX (ifX (trX (eqX true (vX 6) (kX (PyData.str (Str.ofString "alt"))))) (seqX (popX 8 4) (seqX (popX 9 4) (seqX (appX 4 [] (tupX [borX (subX (vX 9) (kX (PyData.int 0))) (subX (vX 8) (kX (PyData.int 0))), addX (subX (vX 9) (kX (PyData.int 1))) (subX (vX 8) (kX (PyData.int 1))), addX (subX (vX 9) (kX (PyData.int 2))) (subX (vX 8) (kX (PyData.int 2)))])) skipX))) (seqX (ifX (trX (eqX true (vX 6) (kX (PyData.str (Str.ofString "cat"))))) (seqX (popX 8 4) (seqX (popX 9 4) (seqX (forX 10 [] (itX (subX (vX 9) (kX (PyData.int 2)))) (seqX (setX 3 [] (addX (subX (vX 3) (vX 10)) (subX (vX 8) (kX (PyData.int 1)))) (vX 10)) skipX)) (seqX (asgX 11 [] (subX (vX 9) (kX (PyData.int 1)))) (seqX (ifX (trX (subX (vX 9) (kX (PyData.int 0)))) (seqX (asgX 11 [] (addX (subX (vX 9) (kX (PyData.int 1))) (subX (vX 8) (kX (PyData.int 1))))) skipX) skipX) (seqX (asgX 12 [] (subX (vX 8) (kX (PyData.int 2)))) (seqX (ifX (trX (subX (vX 8) (kX (PyData.int 0)))) (seqX (asgX 12 [] (addX (subX (vX 9) (kX (PyData.int 2))) (subX (vX 8) (kX (PyData.int 2))))) skipX) skipX) (seqX (appX 4 [11, 12] (tupX [bandX (subX (vX 9) (kX (PyData.int 0))) (subX (vX 8) (kX (PyData.int 0))), vX 11, vX 12])) skipX)))))))) (seqX (popX 13 4) (seqX (ifX (trX (eqX false (vX 6) (kX (PyData.str (Str.ofString "opt"))))) (seqX (forX 10 [] (itX (subX (vX 13) (kX (PyData.int 2)))) (seqX (setX 3 [] (addX (subX (vX 3) (vX 10)) (subX (vX 13) (kX (PyData.int 1)))) (vX 10)) skipX)) skipX) skipX) (seqX (appX 4 [] (tupX [borX (subX (vX 13) (kX (PyData.int 0))) (eqX false (vX 6) (kX (PyData.str (Str.ofString "plus")))), subX (vX 13) (kX (PyData.int 1)), subX (vX 13) (kX (PyData.int 2))])) skipX)))) skipX)) skipX)) skipX)) (seqX (ifX (trX (eqX false (vX 6) (kX (PyData.str (Str.ofString "cat"))))) (seqX (asgX 1 [] (addX (vX 1) (kX (PyData.int 2)))) skipX) skipX) skipX)))) (seqX (retX [1, 2, 3] (tupX [vX 1, vX 2, vX 3, subX (vX 4) (kX (PyData.int 0))])) skipX))))))


noncomputable def g2set (F0 F1 : List PyData → Option PyData) : XS :=
  (seqX (asgX 6 [] (subX (vX 0) (kX (PyData.int 2)))) (seqX (asgX 7 [6, 2] (callX F0 [vX 6, vX 2])) (seqX (ifX (andT (trX (eqX true (vX 2) (lstX []))) (trX (eqX false (vX 7) (lstX [])))) (seqX (retX [] (kX (PyData.bool false))) skipX) skipX) (seqX (ifX (trX (anyX [7] (rng2 (kX (PyData.int 1)) (lenX (vX 7))) (trX (c2X (fun a b => decide (b ≤ a)) (subX (vX 1) (i2X (fun a b => some (a - b)) (vX 0) (kX (PyData.int 1)))) (subX (vX 1) (vX 0)))))) (seqX (retX [] (kX (PyData.bool false))) skipX) skipX) (seqX (ifX (trX (eqX false (callX F0 [vX 6, addX (revX (vX 7)) (vX 2)]) (vX 7))) (seqX (retX [] (kX (PyData.bool false))) skipX) skipX) (seqX (asgX 8 [] (compX [] (itX (vX 1)) (fun x => some true) (subX (vX 0) (kX (PyData.int 2))))) (seqX (ifX (trX (eqX false (compX [8] (itX (vX 7)) (trX (inX true (vX 0) (vX 1))) (vX 0)) (vX 3))) (seqX (retX [] (kX (PyData.bool false))) skipX) skipX) (seqX (ifX (trX (eqX false (inX true (subX (vX 0) (kX (PyData.int 1))) (vX 7)) (vX 4))) (seqX (retX [] (kX (PyData.bool false))) skipX) skipX) (seqX (forX 9 [] (itX (kX (PyData.str (Str.ofString "abc")))) (seqX (asgX 10 [] (compX [9, 1, 5] (rng1 (lenX (vX 1))) (andT (trX (inX true (vX 0) (vX 3))) (trX (inX true (subX (subX (vX 2) (vX 0)) (kX (PyData.int 1))) (tupX [vX 1, kX (PyData.str (Str.ofString "."))])))) (subX (subX (vX 2) (vX 0)) (kX (PyData.int 2))))) (seqX (ifX (trX (eqX false (callX F1 [vX 6, vX 7, vX 9]) (vX 10))) (seqX (retX [] (kX (PyData.bool false))) skipX) skipX) (seqX (ifX (trX (eqX false (callX F1 [vX 6, addX (revX (vX 7)) (vX 7), vX 9]) (vX 10))) (seqX (retX [] (kX (PyData.bool false))) skipX) skipX) skipX)))) (seqX (retX [] (kX (PyData.bool true))) skipX))))))))))

noncomputable def g2law (F0 F1 F2 F3 F4 : List PyData → Option PyData) : XS :=
  (seqX (asgX 1 [0] (callX F1 [vX 0])) (seqX (unpX [2, 3, 4, 5] [1] (callX F2 [vX 1])) (seqX (asgX 6 [1] (callX F3 [vX 1])) (seqX (asgX 7 [] (subX (vX 6) (kX (PyData.int 2)))) (seqX (ifX (trX (eqX false (lenX (vX 7)) (vX 2))) (seqX (retX [] (kX (PyData.bool false))) skipX) skipX) (seqX (ifX (trX (eqX false (comp2X [7] (rng1 (lenX (vX 7))) (itX (subX (vX 1) (vX 0))) (trX (eqX false (subX (vX 0) (kX (PyData.int 0))) (kX (PyData.str (Str.ofString ""))))) (tupX [vX 1, subX (vX 0) (kX (PyData.int 0)), subX (vX 0) (kX (PyData.int 1))])) (vX 3))) (seqX (retX [] (kX (PyData.bool false))) skipX) skipX) (seqX (frzX [6, 3] (ifX (notT (trX (callX F4 [vX 6, vX 3, lstX [subX (vX 6) (kX (PyData.int 0))], lstX [], subX (vX 5) (kX (PyData.int 0)), subX (vX 5) (kX (PyData.int 1))]))) (seqX (retX [] (kX (PyData.bool false))) skipX) skipX)) (seqX (asgX 8 [] (i2X (fun a b => if b = 0 then none else some (a.fmod b)) (callX F0 [vX 0, kX (PyData.int 1)]) (kX (PyData.int 16)))) (seqX (asgX 9 [] (compX [8] (rng1 (lenX (vX 3))) (trX (eqX true (i2X (fun a b => some (Builtin.bitAnd a b)) (i2X (fun a b => if 0 ≤ b then some (a.fdiv (2 ^ b.toNat)) else none) (vX 1) (vX 0)) (kX (PyData.int 1))) (kX (PyData.int 1)))) (vX 0))) (seqX (asgX 10 [] (lstX [])) (seqX (forX 11 [9] (itX (vX 9)) (seqX (asgX 10 [] (addX (vX 10) (subX (vX 4) (vX 11)))) skipX)) (seqX (asgX 12 [] (compX [3] (itX (vX 9)) (fun x => some true) (subX (subX (vX 1) (vX 0)) (kX (PyData.int 2))))) (seqX (asgX 13 [] (anyX [5] (itX (vX 9)) (inI (vX 0) (subX (vX 1) (kX (PyData.int 2)))))) (seqX (frzX [6, 3, 12, 12, 13, 10] (ifX (notT (trX (callX F4 [vX 6, vX 3, vX 12, vX 12, vX 13, vX 10]))) (seqX (retX [] (kX (PyData.bool false))) skipX) skipX)) (seqX (retX [] (kX (PyData.bool true))) skipX)))))))))))))))

end Mine

set_option Elab.async false
open PySem
namespace Mine
noncomputable def cell2F := fnX 2 0 g2cell
noncomputable def thomF := fnX 1 10 g2thom
noncomputable def closF := fnX 2 5 g2clos
noncomputable def stepF := fnX 3 3 g2step
noncomputable def postF := fnX 1 5 (g2post cell2F)
noncomputable def readF := fnX 1 13 g2read
noncomputable def setF := fnX 6 5 (g2set closF stepF)
noncomputable def law2F := fnX 1 13 (g2law cell2F postF readF thomF setF)
end Mine

set_option Elab.async false
set_option linter.unusedVariables false
set_option autoImplicit false
namespace Mine
inductive Re where
  | sym : Nat → Re
  | eps : Re
  | cat : Re → Re → Re
  | alt : Re → Re → Re
  | rep : Nat → Re → Re
namespace Re
noncomputable def sz : Re → Nat
  | sym _ => 2
  | eps => 2
  | cat l r => sz l + sz r
  | alt l r => sz l + sz r + 2
  | rep _ i => sz i + 2
noncomputable def nl : Re → Nat
  | sym _ => 1
  | eps => 0
  | cat l r => nl l + nl r
  | alt l r => nl l + nl r
  | rep _ i => nl i
noncomputable def st : Re → Nat → Nat
  | sym _, lo => lo
  | eps, lo => lo
  | cat l _, lo => st l lo
  | alt l r, lo => lo + sz l + sz r
  | rep _ i, lo => lo + sz i
noncomputable def ac : Re → Nat → Nat
  | sym _, lo => lo + 1
  | eps, lo => lo + 1
  | cat l r, lo => ac r (lo + sz l)
  | alt l r, lo => lo + sz l + sz r + 1
  | rep _ i, lo => lo + sz i + 1
noncomputable def Ed : Re → Nat → Nat → Nat → Prop
  | sym _, _, _, _ => False
  | eps, lo, u, v => u = lo ∧ v = lo + 1
  | cat l r, lo, u, v => Ed l lo u v ∨ Ed r (lo + sz l) u v ∨ (u = ac l lo ∧ v = st r (lo + sz l))
  | alt l r, lo, u, v => Ed l lo u v ∨ Ed r (lo + sz l) u v ∨ (u = lo + sz l + sz r ∧ (v = st l lo ∨ v = st r (lo + sz l))) ∨ ((u = ac l lo ∨ u = ac r (lo + sz l)) ∧ v = lo + sz l + sz r + 1)
  | rep kd i, lo, u, v => Ed i lo u v ∨ (u = lo + sz i ∧ v = st i lo) ∨ (kd ≠ 1 ∧ u = lo + sz i ∧ v = lo + sz i + 1) ∨ (kd ≠ 2 ∧ u = ac i lo ∧ v = st i lo) ∨ (u = ac i lo ∧ v = lo + sz i + 1)
/-- leaf k has source u -/
noncomputable def Src : Re → Nat → Nat → Nat → Nat → Prop
  | sym _, lo, klo, k, u => k = klo ∧ u = lo
  | eps, _, _, _, _ => False
  | cat l r, lo, klo, k, u => Src l lo klo k u ∨ Src r (lo + sz l) (klo + nl l) k u
  | alt l r, lo, klo, k, u => Src l lo klo k u ∨ Src r (lo + sz l) (klo + nl l) k u
  | rep _ i, lo, klo, k, u => Src i lo klo k u
noncomputable def RS : Re → Nat → Nat → Prop
  | sym _, lo, v => v = lo
  | eps, lo, v => v = lo ∨ v = lo + 1
  | cat l r, lo, v => RS l lo v ∨ (RS l lo (ac l lo) ∧ RS r (lo + sz l) v)
  | alt l r, lo, v => v = lo + sz l + sz r ∨ RS l lo v ∨ RS r (lo + sz l) v ∨ ((RS l lo (ac l lo) ∨ RS r (lo + sz l) (ac r (lo + sz l))) ∧ v = lo + sz l + sz r + 1)
  | rep kd i, lo, v => v = lo + sz i ∨ RS i lo v ∨ (RS i lo (ac i lo) ∧ v = lo + sz i + 1) ∨ (kd ≠ 1 ∧ v = lo + sz i + 1)
noncomputable def RT : Re → Nat → Nat → Nat → Nat → Prop
  | sym _, lo, klo, k, v => k = klo ∧ v = lo + 1
  | eps, _, _, _, _ => False
  | cat l r, lo, klo, k, v => RT l lo klo k v ∨ (RT l lo klo k (ac l lo) ∧ RS r (lo + sz l) v) ∨ RT r (lo + sz l) (klo + nl l) k v
  | alt l r, lo, klo, k, v => RT l lo klo k v ∨ RT r (lo + sz l) (klo + nl l) k v ∨ ((RT l lo klo k (ac l lo) ∨ RT r (lo + sz l) (klo + nl l) k (ac r (lo + sz l))) ∧ v = lo + sz l + sz r + 1)
  | rep kd i, lo, klo, k, v => RT i lo klo k v ∨ (RT i lo klo k (ac i lo) ∧ ((kd ≠ 2 ∧ RS i lo v) ∨ v = lo + sz i + 1))
theorem in_l {lo a b v : Nat} (h : lo ≤ v ∧ v < lo + a) : lo ≤ v ∧ v < lo + (a + b) := ⟨h.1, Nat.lt_of_lt_of_le h.2 (Nat.add_le_add_left (Nat.le_add_right a b) lo)⟩
theorem in_r {lo a b v : Nat} (h : lo + a ≤ v ∧ v < lo + a + b) : lo ≤ v ∧ v < lo + (a + b) := ⟨Nat.le_trans (Nat.le_add_right lo a) h.1, Nat.lt_of_lt_of_eq h.2 (Nat.add_assoc lo a b)⟩
theorem in_0 (lo a : Nat) : lo ≤ lo ∧ lo < lo + (a + 2) := ⟨Nat.le_refl _, Nat.lt_add_of_pos_right (Nat.succ_pos _)⟩
theorem in_1 (lo a : Nat) : lo ≤ lo + 1 ∧ lo + 1 < lo + (a + 2) := ⟨Nat.le_add_right _ _, Nat.add_lt_add_left (Nat.succ_lt_succ (Nat.succ_pos _)) lo⟩
theorem in_s (lo a : Nat) : lo ≤ lo + a ∧ lo + a < lo + (a + 2) := in_r (in_0 (lo + a) 0)
theorem in_t (lo a : Nat) : lo ≤ lo + a + 1 ∧ lo + a + 1 < lo + (a + 2) := in_r (in_1 (lo + a) 0)
theorem in_s2 (lo a b : Nat) : lo ≤ lo + a + b ∧ lo + a + b < lo + (a + b + 2) := Nat.add_assoc lo a b ▸ in_s lo (a + b)
theorem in_t2 (lo a b : Nat) : lo ≤ lo + a + b + 1 ∧ lo + a + b + 1 < lo + (a + b + 2) := Nat.add_assoc lo a b ▸ in_t lo (a + b)
theorem no {P : Prop} {a m u n : Nat} (h : a ≤ u ∧ u < m) (h' : m ≤ u ∧ u < n) : P := absurd h'.1 (Nat.not_le.mpr h.2)
theorem in4 {lo v n klo k m : Nat} (h : lo ≤ v ∧ v < lo + n) (h' : klo ≤ k ∧ k < klo + m) : lo ≤ v ∧ v < lo + n ∧ klo ≤ k ∧ k < klo + m := ⟨h.1, h.2, h'⟩
theorem sz_pos (t : Re) : 2 ≤ sz t := by
  induction t with
  | sym _ => exact Nat.le_refl _
  | eps => exact Nat.le_refl _
  | cat l r il ir => exact Nat.le_trans il (Nat.le_add_right _ _)
  | alt l r il ir => exact Nat.le_add_left _ _
  | rep _ i ii => exact Nat.le_add_left _ _
theorem st_in (t : Re) : ∀ lo : Nat, lo ≤ st t lo ∧ st t lo < lo + sz t := by
  induction t with
  | sym _ => exact fun lo => in_0 lo 0
  | eps => exact fun lo => in_0 lo 0
  | cat l r il ir => exact fun lo => in_l (il lo)
  | alt l r il ir => exact fun lo => in_s2 lo _ _
  | rep _ i ii => exact fun lo => in_s lo _
theorem ac_in (t : Re) : ∀ lo : Nat, lo ≤ ac t lo ∧ ac t lo < lo + sz t := by
  induction t with
  | sym _ => exact fun lo => in_1 lo 0
  | eps => exact fun lo => in_1 lo 0
  | cat l r il ir => exact fun lo => in_r (ir _)
  | alt l r il ir => exact fun lo => in_t2 lo _ _
  | rep _ i ii => exact fun lo => in_t lo _
theorem RS_in {t : Re} : ∀ {lo v : Nat}, RS t lo v → lo ≤ v ∧ v < lo + sz t := by
  induction t with
  | sym _ => rintro lo v rfl; exact in_0 _ 0
  | eps =>
    rintro lo v (rfl | rfl)
    · exact in_0 _ 0
    · exact in_1 _ 0
  | cat l r il ir =>
    rintro lo v (h | ⟨_, h⟩)
    · exact in_l (il h)
    · exact in_r (ir h)
  | alt l r il ir =>
    rintro lo v (rfl | h | h | ⟨_, rfl⟩)
    · exact in_s2 _ _ _
    · exact in_l (in_l (il h))
    · exact in_l (in_r (ir h))
    · exact in_t2 _ _ _
  | rep kd i ii =>
    rintro lo v (rfl | h | ⟨_, rfl⟩ | ⟨_, rfl⟩)
    · exact in_s _ _
    · exact in_l (ii h)
    · exact in_t _ _
    · exact in_t _ _
theorem RT_in' {t : Re} : ∀ {lo klo k v : Nat}, RT t lo klo k v → (lo ≤ v ∧ v < lo + sz t) ∧ klo ≤ k ∧ k < klo + nl t := by
  induction t with
  | sym _ => rintro lo klo k v ⟨rfl, rfl⟩; exact ⟨in_1 _ 0, Nat.le_refl _, Nat.lt_succ_self _⟩
  | eps => rintro lo klo k v ⟨⟩
  | cat l r il ir =>
    rintro lo klo k v (h | ⟨h, h'⟩ | h)
    · exact ⟨in_l (il h).1, in_l (il h).2⟩
    · exact ⟨in_r (RS_in h'), in_l (il h).2⟩
    · exact ⟨in_r (ir h).1, in_r (ir h).2⟩
  | alt l r il ir =>
    rintro lo klo k v (h | h | ⟨h | h, rfl⟩)
    · exact ⟨in_l (in_l (il h).1), in_l (il h).2⟩
    · exact ⟨in_l (in_r (ir h).1), in_r (ir h).2⟩
    · exact ⟨in_t2 _ _ _, in_l (il h).2⟩
    · exact ⟨in_t2 _ _ _, in_r (ir h).2⟩
  | rep kd i ii =>
    rintro lo klo k v (h | ⟨h, ⟨_, h'⟩ | rfl⟩)
    · exact ⟨in_l (ii h).1, (ii h).2⟩
    · exact ⟨in_l (RS_in h'), (ii h).2⟩
    · exact ⟨in_t _ _, (ii h).2⟩
theorem RT_in {t : Re} {lo klo k v : Nat} (h : RT t lo klo k v) : lo ≤ v ∧ v < lo + sz t ∧ klo ≤ k ∧ k < klo + nl t := in4 (RT_in' h).1 (RT_in' h).2
theorem Ed_in {t : Re} : ∀ {lo u v : Nat}, Ed t lo u v → (lo ≤ u ∧ u < lo + sz t) ∧ lo ≤ v ∧ v < lo + sz t := by
  induction t with
  | sym _ => rintro lo u v ⟨⟩
  | eps => rintro lo u v ⟨rfl, rfl⟩; exact ⟨in_0 _ 0, in_1 _ 0⟩
  | cat l r il ir =>
    rintro lo u v (h | h | ⟨rfl, rfl⟩)
    · exact ⟨in_l (il h).1, in_l (il h).2⟩
    · exact ⟨in_r (ir h).1, in_r (ir h).2⟩
    · exact ⟨in_l (ac_in l lo), in_r (st_in r _)⟩
  | alt l r il ir =>
    rintro lo u v (h | h | ⟨rfl, rfl | rfl⟩ | ⟨rfl | rfl, rfl⟩)
    · exact ⟨in_l (in_l (il h).1), in_l (in_l (il h).2)⟩
    · exact ⟨in_l (in_r (ir h).1), in_l (in_r (ir h).2)⟩
    · exact ⟨in_s2 _ _ _, in_l (in_l (st_in l lo))⟩
    · exact ⟨in_s2 _ _ _, in_l (in_r (st_in r _))⟩
    · exact ⟨in_l (in_l (ac_in l lo)), in_t2 _ _ _⟩
    · exact ⟨in_l (in_r (ac_in r _)), in_t2 _ _ _⟩
  | rep kd i ii =>
    rintro lo u v (h | ⟨rfl, rfl⟩ | ⟨_, rfl, rfl⟩ | ⟨_, rfl, rfl⟩ | ⟨rfl, rfl⟩)
    · exact ⟨in_l (ii h).1, in_l (ii h).2⟩
    · exact ⟨in_s _ _, in_l (st_in i lo)⟩
    · exact ⟨in_s _ _, in_t _ _⟩
    · exact ⟨in_l (ac_in i lo), in_l (st_in i lo)⟩
    · exact ⟨in_l (ac_in i lo), in_t _ _⟩
theorem RS_st : ∀ (t : Re) (lo : Nat), RS t lo (st t lo)
  | sym _, lo => rfl
  | eps, lo => .inl rfl
  | cat l r, lo => .inl (RS_st l lo)
  | alt l r, lo => .inl rfl
  | rep _ i, lo => .inl rfl
end Re
end Mine

set_option Elab.async false
set_option linter.unusedVariables false
set_option autoImplicit false
namespace Mine
namespace Re
theorem RS_step : ∀ {t : Re} {lo u v : Nat}, RS t lo u → Ed t lo u v → RS t lo v
  | sym _, lo, u, v, h, e => by simp only [Ed] at e
  | eps, lo, u, v, h, e => by simp only [Ed] at e; simp only [RS]; omega
  | cat l r, lo, u, v, h, e => by
    rcases h with h | ⟨h0, h⟩
    · have hi := RS_in h
      rcases e with e | e | ⟨e1, e2⟩
      · exact .inl (RS_step h e)
      · first | exact no hi (Ed_in e).1 | exact no (Ed_in e).1 hi | (have := Ed_in e; omega)
      · subst e1 e2; exact .inr ⟨h, RS_st r _⟩
    · have hi := RS_in h
      rcases e with e | e | ⟨e1, e2⟩
      · first | exact no hi (Ed_in e).1 | exact no (Ed_in e).1 hi | (have := Ed_in e; omega)
      · exact .inr ⟨h0, RS_step h e⟩
      · have := ac_in l lo; omega
  | alt l r, lo, u, v, h, e => by
    have al := ac_in l lo
    have ar := ac_in r (lo + sz l)
    rcases h with h | h | h | ⟨h0, h⟩
    · rcases e with e | e | ⟨e1, e2 | e2⟩ | ⟨e1 | e1, e2⟩
      · first | exact no hi (Ed_in e).1 | exact no (Ed_in e).1 hi | (have := Ed_in e; omega)
      · first | exact no hi (Ed_in e).1 | exact no (Ed_in e).1 hi | (have := Ed_in e; omega)
      · rw [e2]; exact .inr (.inl (RS_st l lo))
      · rw [e2]; exact .inr (.inr (.inl (RS_st r _)))
      · first | exact no (e1 ▸ al) hi | exact no hi (e1 ▸ al) | exact no hi (e1 ▸ ar) | exact no (e1 ▸ ar) hi | omega
      · first | exact no (e1 ▸ al) hi | exact no hi (e1 ▸ al) | exact no hi (e1 ▸ ar) | exact no (e1 ▸ ar) hi | omega
    · have hi := RS_in h
      rcases e with e | e | ⟨e1, e2⟩ | ⟨e1 | e1, e2⟩
      · exact .inr (.inl (RS_step h e))
      · first | exact no hi (Ed_in e).1 | exact no (Ed_in e).1 hi | (have := Ed_in e; omega)
      · first | exact no (e1 ▸ al) hi | exact no hi (e1 ▸ al) | exact no hi (e1 ▸ ar) | exact no (e1 ▸ ar) hi | omega
      · subst e1; exact .inr (.inr (.inr ⟨.inl h, e2⟩))
      · first | exact no (e1 ▸ al) hi | exact no hi (e1 ▸ al) | exact no hi (e1 ▸ ar) | exact no (e1 ▸ ar) hi | omega
    · have hi := RS_in h
      rcases e with e | e | ⟨e1, e2⟩ | ⟨e1 | e1, e2⟩
      · first | exact no hi (Ed_in e).1 | exact no (Ed_in e).1 hi | (have := Ed_in e; omega)
      · exact .inr (.inr (.inl (RS_step h e)))
      · first | exact no (e1 ▸ al) hi | exact no hi (e1 ▸ al) | exact no hi (e1 ▸ ar) | exact no (e1 ▸ ar) hi | omega
      · first | exact no (e1 ▸ al) hi | exact no hi (e1 ▸ al) | exact no hi (e1 ▸ ar) | exact no (e1 ▸ ar) hi | omega
      · subst e1; exact .inr (.inr (.inr ⟨.inr h, e2⟩))
    · rcases e with e | e | ⟨e1, e2⟩ | ⟨e1 | e1, e2⟩
      · first | exact no hi (Ed_in e).1 | exact no (Ed_in e).1 hi | (have := Ed_in e; omega)
      · first | exact no hi (Ed_in e).1 | exact no (Ed_in e).1 hi | (have := Ed_in e; omega)
      all_goals omega
  | rep kd i, lo, u, v, h, e => by
    have al := ac_in i lo
    rcases h with h | h | ⟨h0, h⟩ | ⟨h0, h⟩
    · rcases e with e | ⟨e1, e2⟩ | ⟨e0, e1, e2⟩ | ⟨e0, e1, e2⟩ | ⟨e1, e2⟩
      · first | exact no hi (Ed_in e).1 | exact no (Ed_in e).1 hi | (have := Ed_in e; omega)
      · rw [e2]; exact .inr (.inl (RS_st i lo))
      · exact .inr (.inr (.inr ⟨e0, e2⟩))
      · first | exact no (e1 ▸ al) hi | exact no hi (e1 ▸ al) | exact no hi (e1 ▸ ar) | exact no (e1 ▸ ar) hi | omega
      · first | exact no (e1 ▸ al) hi | exact no hi (e1 ▸ al) | exact no hi (e1 ▸ ar) | exact no (e1 ▸ ar) hi | omega
    · have hi := RS_in h
      rcases e with e | ⟨e1, e2⟩ | ⟨e0, e1, e2⟩ | ⟨e0, e1, e2⟩ | ⟨e1, e2⟩
      · exact .inr (.inl (RS_step h e))
      · first | exact no (e1 ▸ al) hi | exact no hi (e1 ▸ al) | exact no hi (e1 ▸ ar) | exact no (e1 ▸ ar) hi | omega
      · first | exact no (e1 ▸ al) hi | exact no hi (e1 ▸ al) | exact no hi (e1 ▸ ar) | exact no (e1 ▸ ar) hi | omega
      · rw [e2]; exact .inr (.inl (RS_st i lo))
      · subst e1; exact .inr (.inr (.inl ⟨h, e2⟩))
    · rcases e with e | e | e | e | e
      · first | exact no hi (Ed_in e).1 | exact no (Ed_in e).1 hi | (have := Ed_in e; omega)
      all_goals omega
    · rcases e with e | e | e | e | e
      · first | exact no hi (Ed_in e).1 | exact no (Ed_in e).1 hi | (have := Ed_in e; omega)
      all_goals omega
theorem RT_step : ∀ {t : Re} {lo klo k u v : Nat}, RT t lo klo k u → Ed t lo u v → RT t lo klo k v
  | sym _, lo, klo, k, u, v, h, e => by simp only [Ed] at e
  | eps, lo, klo, k, u, v, h, e => by simp only [RT] at h
  | cat l r, lo, klo, k, u, v, h, e => by
    have al := ac_in l lo
    rcases h with h | ⟨h0, h⟩ | h
    · have hi := (RT_in' h).1
      rcases e with e | e | ⟨e1, e2⟩
      · exact .inl (RT_step h e)
      · first | exact no hi (Ed_in e).1 | exact no (Ed_in e).1 hi | (have := Ed_in e; omega)
      · subst e1 e2; exact .inr (.inl ⟨h, RS_st r _⟩)
    · have hi := RS_in h
      rcases e with e | e | ⟨e1, e2⟩
      · first | exact no hi (Ed_in e).1 | exact no (Ed_in e).1 hi | (have := Ed_in e; omega)
      · exact .inr (.inl ⟨h0, RS_step h e⟩)
      · first | exact no (e1 ▸ al) hi | exact no hi (e1 ▸ al) | exact no hi (e1 ▸ ar) | exact no (e1 ▸ ar) hi | omega
    · have hi := (RT_in' h).1
      rcases e with e | e | ⟨e1, e2⟩
      · first | exact no hi (Ed_in e).1 | exact no (Ed_in e).1 hi | (have := Ed_in e; omega)
      · exact .inr (.inr (RT_step h e))
      · first | exact no (e1 ▸ al) hi | exact no hi (e1 ▸ al) | exact no hi (e1 ▸ ar) | exact no (e1 ▸ ar) hi | omega
  | alt l r, lo, klo, k, u, v, h, e => by
    have al := ac_in l lo
    have ar := ac_in r (lo + sz l)
    rcases h with h | h | ⟨h0, h⟩
    · have hi := (RT_in' h).1
      rcases e with e | e | ⟨e1, e2⟩ | ⟨e1 | e1, e2⟩
      · exact .inl (RT_step h e)
      · first | exact no hi (Ed_in e).1 | exact no (Ed_in e).1 hi | (have := Ed_in e; omega)
      · first | exact no (e1 ▸ al) hi | exact no hi (e1 ▸ al) | exact no hi (e1 ▸ ar) | exact no (e1 ▸ ar) hi | omega
      · subst e1; exact .inr (.inr ⟨.inl h, e2⟩)
      · first | exact no (e1 ▸ al) hi | exact no hi (e1 ▸ al) | exact no hi (e1 ▸ ar) | exact no (e1 ▸ ar) hi | omega
    · have hi := (RT_in' h).1
      rcases e with e | e | ⟨e1, e2⟩ | ⟨e1 | e1, e2⟩
      · first | exact no hi (Ed_in e).1 | exact no (Ed_in e).1 hi | (have := Ed_in e; omega)
      · exact .inr (.inl (RT_step h e))
      · first | exact no (e1 ▸ al) hi | exact no hi (e1 ▸ al) | exact no hi (e1 ▸ ar) | exact no (e1 ▸ ar) hi | omega
      · first | exact no (e1 ▸ al) hi | exact no hi (e1 ▸ al) | exact no hi (e1 ▸ ar) | exact no (e1 ▸ ar) hi | omega
      · subst e1; exact .inr (.inr ⟨.inr h, e2⟩)
    · rcases e with e | e | ⟨e1, e2⟩ | ⟨e1 | e1, e2⟩
      · first | exact no hi (Ed_in e).1 | exact no (Ed_in e).1 hi | (have := Ed_in e; omega)
      · first | exact no hi (Ed_in e).1 | exact no (Ed_in e).1 hi | (have := Ed_in e; omega)
      all_goals omega
  | rep kd i, lo, klo, k, u, v, h, e => by
    have al := ac_in i lo
    rcases h with h | ⟨h0, ⟨h1, h⟩ | h⟩
    · have hi := (RT_in' h).1
      rcases e with e | ⟨e1, e2⟩ | ⟨e0, e1, e2⟩ | ⟨e0, e1, e2⟩ | ⟨e1, e2⟩
      · exact .inl (RT_step h e)
      · first | exact no (e1 ▸ al) hi | exact no hi (e1 ▸ al) | exact no hi (e1 ▸ ar) | exact no (e1 ▸ ar) hi | omega
      · first | exact no (e1 ▸ al) hi | exact no hi (e1 ▸ al) | exact no hi (e1 ▸ ar) | exact no (e1 ▸ ar) hi | omega
      · subst e1; rw [e2]; exact .inr ⟨h, .inl ⟨e0, RS_st i lo⟩⟩
      · subst e1; exact .inr ⟨h, .inr e2⟩
    · have hi := RS_in h
      rcases e with e | ⟨e1, e2⟩ | ⟨e0, e1, e2⟩ | ⟨e0, e1, e2⟩ | ⟨e1, e2⟩
      · exact .inr ⟨h0, .inl ⟨h1, RS_step h e⟩⟩
      · first | exact no (e1 ▸ al) hi | exact no hi (e1 ▸ al) | exact no hi (e1 ▸ ar) | exact no (e1 ▸ ar) hi | omega
      · first | exact no (e1 ▸ al) hi | exact no hi (e1 ▸ al) | exact no hi (e1 ▸ ar) | exact no (e1 ▸ ar) hi | omega
      · rw [e2]; exact .inr ⟨h0, .inl ⟨e0, RS_st i lo⟩⟩
      · exact .inr ⟨h0, .inr e2⟩
    · rcases e with e | e | e | e | e
      · first | exact no hi (Ed_in e).1 | exact no (Ed_in e).1 hi | (have := Ed_in e; omega)
      all_goals omega
end Re
end Mine

set_option Elab.async false
set_option linter.unusedVariables false
set_option autoImplicit false
namespace Mine
inductive Rch (E : Nat → Nat → Prop) (u : Nat) : Nat → Prop
  | refl : Rch E u u
  | step {v w : Nat} : Rch E u v → E v w → Rch E u w
theorem Rch.trans {E : Nat → Nat → Prop} {u v w : Nat} (h : Rch E u v) (h' : Rch E v w) : Rch E u w := by
  induction h' with
  | refl => exact h
  | step _ e ih => exact .step ih e
theorem Rch.mono {E E' : Nat → Nat → Prop} {u v : Nat} (k : ∀ a b, E a b → E' a b) (h : Rch E u v) : Rch E' u v := by
  induction h with
  | refl => exact .refl
  | step _ e ih => exact .step ih (k _ _ e)
theorem Rch.closed {E : Nat → Nat → Prop} {P : Nat → Prop} {u v : Nat} (hc : ∀ a b, P a → E a b → P b) (hu : P u) (h : Rch E u v) : P v := by
  induction h with
  | refl => exact hu
  | step _ e ih => exact hc _ _ ih e
namespace Re
theorem RS_path : ∀ {t : Re} {lo v : Nat}, RS t lo v → Rch (Ed t lo) (st t lo) v
  | sym _, lo, v, h => by simp only [RS] at h; subst h; exact .refl
  | eps, lo, v, h => by
    rcases h with rfl | rfl
    · exact .refl
    · exact .step .refl ⟨rfl, rfl⟩
  | cat l r, lo, v, h => by
    have ml : ∀ {a b}, Rch (Ed l lo) a b → Rch (Ed (cat l r) lo) a b := fun h => h.mono fun _ _ e => .inl e
    have mr : ∀ {a b}, Rch (Ed r (lo + sz l)) a b → Rch (Ed (cat l r) lo) a b := fun h => h.mono fun _ _ e => .inr (.inl e)
    rcases h with h | ⟨h0, h⟩
    · exact ml (RS_path h)
    · exact ((ml (RS_path h0)).step (.inr (.inr ⟨rfl, rfl⟩))).trans (mr (RS_path h))
  | alt l r, lo, v, h => by
    have ml : ∀ {a b}, Rch (Ed l lo) a b → Rch (Ed (alt l r) lo) a b := fun h => h.mono fun _ _ e => .inl e
    have mr : ∀ {a b}, Rch (Ed r (lo + sz l)) a b → Rch (Ed (alt l r) lo) a b := fun h => h.mono fun _ _ e => .inr (.inl e)
    have sl : Rch (Ed (alt l r) lo) (st (alt l r) lo) (st l lo) := .step .refl (.inr (.inr (.inl ⟨rfl, .inl rfl⟩)))
    have sr : Rch (Ed (alt l r) lo) (st (alt l r) lo) (st r (lo + sz l)) := .step .refl (.inr (.inr (.inl ⟨rfl, .inr rfl⟩)))
    rcases h with rfl | h | h | ⟨h | h, rfl⟩
    · exact .refl
    · exact sl.trans (ml (RS_path h))
    · exact sr.trans (mr (RS_path h))
    · exact (sl.trans (ml (RS_path h))).step (.inr (.inr (.inr ⟨.inl rfl, rfl⟩)))
    · exact (sr.trans (mr (RS_path h))).step (.inr (.inr (.inr ⟨.inr rfl, rfl⟩)))
  | rep kd i, lo, v, h => by
    have mi : ∀ {a b}, Rch (Ed i lo) a b → Rch (Ed (rep kd i) lo) a b := fun h => h.mono fun _ _ e => .inl e
    have si : Rch (Ed (rep kd i) lo) (st (rep kd i) lo) (st i lo) := .step .refl (.inr (.inl ⟨rfl, rfl⟩))
    rcases h with rfl | h | ⟨h, rfl⟩ | ⟨h, rfl⟩
    · exact .refl
    · exact si.trans (mi (RS_path h))
    · exact (si.trans (mi (RS_path h))).step (.inr (.inr (.inr (.inr ⟨rfl, rfl⟩))))
    · exact .step .refl (.inr (.inr (.inl ⟨h, rfl, rfl⟩)))
theorem Src_in' {t : Re} : ∀ {lo klo k u : Nat}, Src t lo klo k u → (lo ≤ u ∧ u < lo + sz t) ∧ (lo ≤ u + 1 ∧ u + 1 < lo + sz t) ∧ klo ≤ k ∧ k < klo + nl t := by
  induction t with
  | sym _ => rintro lo klo k u ⟨rfl, rfl⟩; exact ⟨in_0 _ 0, in_1 _ 0, Nat.le_refl _, Nat.lt_succ_self _⟩
  | eps => rintro lo klo k u ⟨⟩
  | cat l r il ir =>
    rintro lo klo k u (h | h)
    · exact ⟨in_l (il h).1, in_l (il h).2.1, in_l (il h).2.2⟩
    · exact ⟨in_r (ir h).1, in_r (ir h).2.1, in_r (ir h).2.2⟩
  | alt l r il ir =>
    rintro lo klo k u (h | h)
    · exact ⟨in_l (in_l (il h).1), in_l (in_l (il h).2.1), in_l (il h).2.2⟩
    · exact ⟨in_l (in_r (ir h).1), in_l (in_r (ir h).2.1), in_r (ir h).2.2⟩
  | rep _ i ii => exact fun h => ⟨in_l (ii h).1, in_l (ii h).2.1, (ii h).2.2⟩
theorem Src_in {t : Re} {lo klo k u : Nat} (h : Src t lo klo k u) : lo ≤ u ∧ u + 1 < lo + sz t ∧ klo ≤ k ∧ k < klo + nl t := ⟨(Src_in' h).1.1, (Src_in' h).2.1.2, (Src_in' h).2.2⟩
theorem RT_path : ∀ {t : Re} {lo klo k u v : Nat}, Src t lo klo k u → RT t lo klo k v → Rch (Ed t lo) (u + 1) v
  | sym _, lo, klo, k, u, v, s, h => by simp only [RT] at h; simp only [Src] at s; obtain ⟨_, rfl⟩ := h; obtain ⟨_, rfl⟩ := s; exact .refl
  | eps, lo, klo, k, u, v, s, h => by simp only [RT] at h
  | cat l r, lo, klo, k, u, v, s, h => by
    have ml : ∀ {a b}, Rch (Ed l lo) a b → Rch (Ed (cat l r) lo) a b := fun h => h.mono fun _ _ e => .inl e
    have mr : ∀ {a b}, Rch (Ed r (lo + sz l)) a b → Rch (Ed (cat l r) lo) a b := fun h => h.mono fun _ _ e => .inr (.inl e)
    rcases h with h | ⟨h0, h⟩ | h
    · rcases s with s | s
      · exact ml (RT_path s h)
      · first | exact no (Src_in' s).2.2 (RT_in' h).2 | exact no (RT_in' h).2 (Src_in' s).2.2
    · rcases s with s | s
      · exact ((ml (RT_path s h0)).step (.inr (.inr ⟨rfl, rfl⟩))).trans (mr (RS_path h))
      · first | exact no (Src_in' s).2.2 (RT_in' h0).2 | exact no (RT_in' h0).2 (Src_in' s).2.2
    · rcases s with s | s
      · first | exact no (Src_in' s).2.2 (RT_in' h).2 | exact no (RT_in' h).2 (Src_in' s).2.2
      · exact mr (RT_path s h)
  | alt l r, lo, klo, k, u, v, s, h => by
    have ml : ∀ {a b}, Rch (Ed l lo) a b → Rch (Ed (alt l r) lo) a b := fun h => h.mono fun _ _ e => .inl e
    have mr : ∀ {a b}, Rch (Ed r (lo + sz l)) a b → Rch (Ed (alt l r) lo) a b := fun h => h.mono fun _ _ e => .inr (.inl e)
    rcases h with h | h | ⟨h | h, rfl⟩
    · rcases s with s | s
      · exact ml (RT_path s h)
      · first | exact no (Src_in' s).2.2 (RT_in' h).2 | exact no (RT_in' h).2 (Src_in' s).2.2
    · rcases s with s | s
      · first | exact no (Src_in' s).2.2 (RT_in' h).2 | exact no (RT_in' h).2 (Src_in' s).2.2
      · exact mr (RT_path s h)
    · rcases s with s | s
      · exact (ml (RT_path s h)).step (.inr (.inr (.inr ⟨.inl rfl, rfl⟩)))
      · first | exact no (Src_in' s).2.2 (RT_in' h).2 | exact no (RT_in' h).2 (Src_in' s).2.2
    · rcases s with s | s
      · first | exact no (Src_in' s).2.2 (RT_in' h).2 | exact no (RT_in' h).2 (Src_in' s).2.2
      · exact (mr (RT_path s h)).step (.inr (.inr (.inr ⟨.inr rfl, rfl⟩)))
  | rep kd i, lo, klo, k, u, v, s, h => by
    have mi : ∀ {a b}, Rch (Ed i lo) a b → Rch (Ed (rep kd i) lo) a b := fun h => h.mono fun _ _ e => .inl e
    rcases h with h | ⟨h0, ⟨h1, h⟩ | rfl⟩
    · exact mi (RT_path s h)
    · exact ((mi (RT_path s h0)).step (.inr (.inr (.inr (.inl ⟨h1, rfl, rfl⟩))))).trans (mi (RS_path h))
    · exact (mi (RT_path s h0)).step (.inr (.inr (.inr (.inr ⟨rfl, rfl⟩))))
end Re
end Mine

set_option Elab.async false
set_option linter.unusedVariables false
set_option autoImplicit false
namespace Mine
namespace Re
noncomputable def nu : Re → Bool
  | sym _ => false
  | eps => true
  | cat l r => nu l && nu r
  | alt l r => nu l || nu r
  | rep kd i => nu i || decide (kd ≠ 1)
noncomputable def Fi : Re → Nat → Nat → Prop
  | sym _, klo, k => k = klo
  | eps, _, _ => False
  | cat l r, klo, k => Fi l klo k ∨ (nu l = true ∧ Fi r (klo + nl l) k)
  | alt l r, klo, k => Fi l klo k ∨ Fi r (klo + nl l) k
  | rep _ i, klo, k => Fi i klo k
noncomputable def La : Re → Nat → Nat → Prop
  | sym _, klo, k => k = klo
  | eps, _, _ => False
  | cat l r, klo, k => (nu r = true ∧ La l klo k) ∨ La r (klo + nl l) k
  | alt l r, klo, k => La l klo k ∨ La r (klo + nl l) k
  | rep _ i, klo, k => La i klo k
noncomputable def Fo : Re → Nat → Nat → Nat → Prop
  | sym _, _, _, _ => False
  | eps, _, _, _ => False
  | cat l r, klo, k, j => Fo l klo k j ∨ Fo r (klo + nl l) k j ∨ (La l klo k ∧ Fi r (klo + nl l) j)
  | alt l r, klo, k, j => Fo l klo k j ∨ Fo r (klo + nl l) k j
  | rep kd i, klo, k, j => Fo i klo k j ∨ (kd ≠ 2 ∧ La i klo k ∧ Fi i klo j)
theorem Fi_in {t : Re} : ∀ {klo k : Nat}, Fi t klo k → klo ≤ k ∧ k < klo + nl t := by
  induction t with
  | sym _ => rintro klo k rfl; exact ⟨Nat.le_refl _, Nat.lt_succ_self _⟩
  | eps => rintro klo k ⟨⟩
  | cat l r il ir =>
    rintro klo k (h | ⟨_, h⟩)
    · exact in_l (il h)
    · exact in_r (ir h)
  | alt l r il ir =>
    rintro klo k (h | h)
    · exact in_l (il h)
    · exact in_r (ir h)
  | rep _ i ii => exact fun h => ii h
theorem La_in {t : Re} : ∀ {klo k : Nat}, La t klo k → klo ≤ k ∧ k < klo + nl t := by
  induction t with
  | sym _ => rintro klo k rfl; exact ⟨Nat.le_refl _, Nat.lt_succ_self _⟩
  | eps => rintro klo k ⟨⟩
  | cat l r il ir =>
    rintro klo k (⟨_, h⟩ | h)
    · exact in_l (il h)
    · exact in_r (ir h)
  | alt l r il ir =>
    rintro klo k (h | h)
    · exact in_l (il h)
    · exact in_r (ir h)
  | rep _ i ii => exact fun h => ii h
theorem Fo_in {t : Re} : ∀ {klo k j : Nat}, Fo t klo k j → (klo ≤ k ∧ k < klo + nl t) ∧ klo ≤ j ∧ j < klo + nl t := by
  induction t with
  | sym _ => rintro klo k j ⟨⟩
  | eps => rintro klo k j ⟨⟩
  | cat l r il ir =>
    rintro klo k j (h | h | ⟨h, h'⟩)
    · exact ⟨in_l (il h).1, in_l (il h).2⟩
    · exact ⟨in_r (ir h).1, in_r (ir h).2⟩
    · exact ⟨in_l (La_in h), in_r (Fi_in h')⟩
  | alt l r il ir =>
    rintro klo k j (h | h)
    · exact ⟨in_l (il h).1, in_l (il h).2⟩
    · exact ⟨in_r (ir h).1, in_r (ir h).2⟩
  | rep kd i ii =>
    rintro klo k j (h | ⟨_, h, h'⟩)
    · exact ii h
    · exact ⟨La_in h, Fi_in h'⟩
theorem nu_ok : ∀ (t : Re) (lo : Nat), nu t = true ↔ RS t lo (ac t lo)
  | sym _, lo => by simp only [nu, RS, ac]; simp
  | eps, lo => by simp only [nu, RS, ac]; simp
  | cat l r, lo => by
    simp only [nu, RS, ac, Bool.and_eq_true]
    rw [nu_ok l lo, nu_ok r (lo + sz l)]
    constructor
    · exact fun h => .inr h
    · rintro (h | h)
      · have := RS_in h; have := ac_in r (lo + sz l); omega
      · exact h
  | alt l r, lo => by
    simp only [nu, RS, ac, Bool.or_eq_true]
    rw [nu_ok l lo, nu_ok r (lo + sz l)]
    constructor
    · exact fun h => .inr (.inr (.inr ⟨h, trivial⟩))
    · rintro (h | h | h | h)
      · omega
      · first | exact no s1 (RS_in h) | exact no (RS_in h) s1 | exact no s2 (RS_in h) | exact no (RS_in h) s2 | (have := RS_in h; omega)
      · first | exact no s1 (RS_in h) | exact no (RS_in h) s1 | exact no s2 (RS_in h) | exact no (RS_in h) s2 | (have := RS_in h; omega)
      · exact h.1
  | rep kd i, lo => by
    simp only [nu, RS, ac, Bool.or_eq_true, decide_eq_true_eq]
    rw [nu_ok i lo]
    constructor
    · rintro (h | h)
      · exact .inr (.inr (.inl ⟨h, trivial⟩))
      · exact .inr (.inr (.inr ⟨h, trivial⟩))
    · rintro (h | h | h | h)
      · omega
      · first | exact no s1 (RS_in h) | exact no (RS_in h) s1 | exact no s2 (RS_in h) | exact no (RS_in h) s2 | (have := RS_in h; omega)
      · exact .inl h.1
      · exact .inr h.1
theorem Fi_ok : ∀ {t : Re} {lo klo k u : Nat}, Src t lo klo k u → (Fi t klo k ↔ RS t lo u)
  | sym _, lo, klo, k, u, s => by simp only [Src] at s; simp only [Fi, RS]; omega
  | eps, lo, klo, k, u, s => by simp only [Src] at s
  | cat l r, lo, klo, k, u, s => by
    simp only [Src] at s; simp only [Fi, RS]
    rcases s with s | s
    · have hi := Src_in s; have s1 := (Src_in' s).1; have s2 := (Src_in' s).2.1; have s3 := (Src_in' s).2.2
      rw [Fi_ok s]
      refine ⟨fun h => h.elim .inl fun h => ?_, fun h => h.elim .inl fun h => ?_⟩
      · first | exact no s3 (Fi_in h.2) | exact no (Fi_in h.2) s3 | (have := Fi_in h.2; omega)
      · first | exact no s1 (RS_in h.2) | exact no (RS_in h.2) s1 | exact no s2 (RS_in h.2) | exact no (RS_in h.2) s2 | (have := RS_in h.2; omega)
    · have hi := Src_in s; have s1 := (Src_in' s).1; have s2 := (Src_in' s).2.1; have s3 := (Src_in' s).2.2
      rw [Fi_ok s, nu_ok l lo]
      refine ⟨fun h => h.elim (fun h => ?_) .inr, fun h => h.elim (fun h => ?_) .inr⟩
      · first | exact no s3 (Fi_in h) | exact no (Fi_in h) s3 | (have := Fi_in h; omega)
      · first | exact no s1 (RS_in h) | exact no (RS_in h) s1 | exact no s2 (RS_in h) | exact no (RS_in h) s2 | (have := RS_in h; omega)
  | alt l r, lo, klo, k, u, s => by
    simp only [Src] at s; simp only [Fi, RS]
    rcases s with s | s
    · have hi := Src_in s; have s1 := (Src_in' s).1; have s2 := (Src_in' s).2.1; have s3 := (Src_in' s).2.2
      rw [Fi_ok s]
      refine ⟨fun h => h.elim (fun h => .inr (.inl h)) fun h => ?_, fun h => ?_⟩
      · first | exact no s3 (Fi_in h) | exact no (Fi_in h) s3 | (have := Fi_in h; omega)
      · rcases h with h | h | h | h
        · omega
        · exact .inl h
        · first | exact no s1 (RS_in h) | exact no (RS_in h) s1 | exact no s2 (RS_in h) | exact no (RS_in h) s2 | (have := RS_in h; omega)
        · omega
    · have hi := Src_in s; have s1 := (Src_in' s).1; have s2 := (Src_in' s).2.1; have s3 := (Src_in' s).2.2
      rw [Fi_ok s]
      refine ⟨fun h => h.elim (fun h => ?_) fun h => .inr (.inr (.inl h)), fun h => ?_⟩
      · first | exact no s3 (Fi_in h) | exact no (Fi_in h) s3 | (have := Fi_in h; omega)
      · rcases h with h | h | h | h
        · omega
        · first | exact no s1 (RS_in h) | exact no (RS_in h) s1 | exact no s2 (RS_in h) | exact no (RS_in h) s2 | (have := RS_in h; omega)
        · exact .inr h
        · omega
  | rep kd i, lo, klo, k, u, s => by
    simp only [Src] at s; simp only [Fi, RS]
    have hi := Src_in s; have s1 := (Src_in' s).1; have s2 := (Src_in' s).2.1; have s3 := (Src_in' s).2.2
    rw [Fi_ok s]
    refine ⟨fun h => .inr (.inl h), fun h => ?_⟩
    rcases h with h | h | h | h
    · omega
    · exact h
    · omega
    · omega
end Re
end Mine

set_option Elab.async false
set_option linter.unusedVariables false
set_option autoImplicit false
namespace Mine
namespace Re
theorem RS_tgt : ∀ {t : Re} {lo klo k u : Nat}, Src t lo klo k u → ¬ RS t lo (u + 1)
  | sym _, lo, klo, k, u, s, h => by simp only [Src] at s; simp only [RS] at h; omega
  | eps, lo, klo, k, u, s, h => by simp only [Src] at s
  | cat l r, lo, klo, k, u, s, h => by
    simp only [Src] at s; simp only [RS] at h
    rcases s with s | s
    · have hi := Src_in s; have s1 := (Src_in' s).1; have s2 := (Src_in' s).2.1; have s3 := (Src_in' s).2.2
      rcases h with h | ⟨_, h⟩
      · exact RS_tgt s h
      · first | exact no s1 (RS_in h) | exact no (RS_in h) s1 | exact no s2 (RS_in h) | exact no (RS_in h) s2 | (have := RS_in h; omega)
    · have hi := Src_in s; have s1 := (Src_in' s).1; have s2 := (Src_in' s).2.1; have s3 := (Src_in' s).2.2
      rcases h with h | ⟨_, h⟩
      · first | exact no s1 (RS_in h) | exact no (RS_in h) s1 | exact no s2 (RS_in h) | exact no (RS_in h) s2 | (have := RS_in h; omega)
      · exact RS_tgt s h
  | alt l r, lo, klo, k, u, s, h => by
    simp only [Src] at s; simp only [RS] at h
    rcases s with s | s
    · have hi := Src_in s; have s1 := (Src_in' s).1; have s2 := (Src_in' s).2.1; have s3 := (Src_in' s).2.2
      rcases h with h | h | h | h
      · omega
      · exact RS_tgt s h
      · first | exact no s1 (RS_in h) | exact no (RS_in h) s1 | exact no s2 (RS_in h) | exact no (RS_in h) s2 | (have := RS_in h; omega)
      · omega
    · have hi := Src_in s; have s1 := (Src_in' s).1; have s2 := (Src_in' s).2.1; have s3 := (Src_in' s).2.2
      rcases h with h | h | h | h
      · omega
      · first | exact no s1 (RS_in h) | exact no (RS_in h) s1 | exact no s2 (RS_in h) | exact no (RS_in h) s2 | (have := RS_in h; omega)
      · exact RS_tgt s h
      · omega
  | rep kd i, lo, klo, k, u, s, h => by
    simp only [Src] at s; simp only [RS] at h
    have hi := Src_in s; have s1 := (Src_in' s).1; have s2 := (Src_in' s).2.1; have s3 := (Src_in' s).2.2
    rcases h with h | h | h | h
    · omega
    · exact RS_tgt s h
    · omega
    · omega
theorem RT_self : ∀ {t : Re} {lo klo k u : Nat}, Src t lo klo k u → RT t lo klo k (u + 1)
  | sym _, lo, klo, k, u, s => by simp only [Src] at s; simp only [RT]; omega
  | eps, lo, klo, k, u, s => by simp only [Src] at s
  | cat l r, lo, klo, k, u, s => by
    simp only [Src] at s; simp only [RT]
    exact s.elim (fun s => .inl (RT_self s)) fun s => .inr (.inr (RT_self s))
  | alt l r, lo, klo, k, u, s => by
    simp only [Src] at s; simp only [RT]
    exact s.elim (fun s => .inl (RT_self s)) fun s => .inr (.inl (RT_self s))
  | rep kd i, lo, klo, k, u, s => by
    simp only [Src] at s; simp only [RT]
    exact .inl (RT_self s)
theorem RT_tgt : ∀ {t : Re} {lo klo k j u : Nat}, Src t lo klo j u → RT t lo klo k (u + 1) → k = j
  | sym _, lo, klo, k, j, u, s, h => by simp only [Src] at s; simp only [RT] at h; omega
  | eps, lo, klo, k, j, u, s, h => by simp only [Src] at s
  | cat l r, lo, klo, k, j, u, s, h => by
    simp only [Src] at s; simp only [RT] at h
    rcases s with s | s
    · have hi := Src_in s; have s1 := (Src_in' s).1; have s2 := (Src_in' s).2.1; have s3 := (Src_in' s).2.2
      rcases h with h | ⟨_, h⟩ | h
      · exact RT_tgt s h
      · first | exact no s1 (RS_in h) | exact no (RS_in h) s1 | exact no s2 (RS_in h) | exact no (RS_in h) s2 | (have := RS_in h; omega)
      · first | exact no s1 (RT_in' h).1 | exact no (RT_in' h).1 s1 | exact no s2 (RT_in' h).1 | exact no (RT_in' h).1 s2 | exact no s3 (RT_in' h).2 | exact no (RT_in' h).2 s3 | (have := RT_in h; omega)
    · have hi := Src_in s; have s1 := (Src_in' s).1; have s2 := (Src_in' s).2.1; have s3 := (Src_in' s).2.2
      rcases h with h | ⟨_, h⟩ | h
      · first | exact no s1 (RT_in' h).1 | exact no (RT_in' h).1 s1 | exact no s2 (RT_in' h).1 | exact no (RT_in' h).1 s2 | exact no s3 (RT_in' h).2 | exact no (RT_in' h).2 s3 | (have := RT_in h; omega)
      · exact absurd h (RS_tgt s)
      · exact RT_tgt s h
  | alt l r, lo, klo, k, j, u, s, h => by
    simp only [Src] at s; simp only [RT] at h
    rcases s with s | s
    · have hi := Src_in s; have s1 := (Src_in' s).1; have s2 := (Src_in' s).2.1; have s3 := (Src_in' s).2.2
      rcases h with h | h | ⟨_, h⟩
      · exact RT_tgt s h
      · first | exact no s1 (RT_in' h).1 | exact no (RT_in' h).1 s1 | exact no s2 (RT_in' h).1 | exact no (RT_in' h).1 s2 | exact no s3 (RT_in' h).2 | exact no (RT_in' h).2 s3 | (have := RT_in h; omega)
      · omega
    · have hi := Src_in s; have s1 := (Src_in' s).1; have s2 := (Src_in' s).2.1; have s3 := (Src_in' s).2.2
      rcases h with h | h | ⟨_, h⟩
      · first | exact no s1 (RT_in' h).1 | exact no (RT_in' h).1 s1 | exact no s2 (RT_in' h).1 | exact no (RT_in' h).1 s2 | exact no s3 (RT_in' h).2 | exact no (RT_in' h).2 s3 | (have := RT_in h; omega)
      · exact RT_tgt s h
      · omega
  | rep kd i, lo, klo, k, j, u, s, h => by
    simp only [Src] at s; simp only [RT] at h
    have hi := Src_in s; have s1 := (Src_in' s).1; have s2 := (Src_in' s).2.1; have s3 := (Src_in' s).2.2
    rcases h with h | ⟨_, ⟨_, h⟩ | h⟩
    · exact RT_tgt s h
    · exact absurd h (RS_tgt s)
    · omega
theorem La_ok : ∀ {t : Re} {lo klo k u : Nat}, Src t lo klo k u → (La t klo k ↔ RT t lo klo k (ac t lo))
  | sym _, lo, klo, k, u, s => by simp only [Src] at s; obtain ⟨rfl, rfl⟩ := s; simp [La, RT, ac]
  | eps, lo, klo, k, u, s => by simp only [Src] at s
  | cat l r, lo, klo, k, u, s => by
    simp only [Src] at s; simp only [La, RT, ac]
    have ar := ac_in r (lo + sz l)
    rcases s with s | s
    · have hi := Src_in s; have s1 := (Src_in' s).1; have s2 := (Src_in' s).2.1; have s3 := (Src_in' s).2.2
      rw [La_ok s, nu_ok r (lo + sz l)]
      constructor
      · rintro (h | h)
        · exact .inr (.inl ⟨h.2, h.1⟩)
        · first | exact no s3 (La_in h) | exact no (La_in h) s3 | (have := La_in h; omega)
      · rintro (h | h | h)
        · first | exact no s1 (RT_in' h).1 | exact no (RT_in' h).1 s1 | exact no s2 (RT_in' h).1 | exact no (RT_in' h).1 s2 | exact no s3 (RT_in' h).2 | exact no (RT_in' h).2 s3 | (have := RT_in h; omega)
        · exact .inl ⟨h.2, h.1⟩
        · first | exact no s1 (RT_in' h).1 | exact no (RT_in' h).1 s1 | exact no s2 (RT_in' h).1 | exact no (RT_in' h).1 s2 | exact no s3 (RT_in' h).2 | exact no (RT_in' h).2 s3 | (have := RT_in h; omega)
    · have hi := Src_in s; have s1 := (Src_in' s).1; have s2 := (Src_in' s).2.1; have s3 := (Src_in' s).2.2
      rw [La_ok s]
      constructor
      · rintro (h | h)
        · first | exact no s3 (La_in h.2) | exact no (La_in h.2) s3 | (have := La_in h.2; omega)
        · exact .inr (.inr h)
      · rintro (h | h | h)
        · first | exact no s1 (RT_in' h).1 | exact no (RT_in' h).1 s1 | exact no s2 (RT_in' h).1 | exact no (RT_in' h).1 s2 | exact no s3 (RT_in' h).2 | exact no (RT_in' h).2 s3 | (have := RT_in h; omega)
        · first | exact no s1 (RT_in' h.1).1 | exact no (RT_in' h.1).1 s1 | exact no s2 (RT_in' h.1).1 | exact no (RT_in' h.1).1 s2 | exact no s3 (RT_in' h.1).2 | exact no (RT_in' h.1).2 s3 | (have := RT_in h.1; omega)
        · exact .inr h
  | alt l r, lo, klo, k, u, s => by
    simp only [Src] at s; simp only [La, RT, ac]
    rcases s with s | s
    · have hi := Src_in s; have s1 := (Src_in' s).1; have s2 := (Src_in' s).2.1; have s3 := (Src_in' s).2.2
      rw [La_ok s]
      constructor
      · rintro (h | h)
        · exact .inr (.inr ⟨.inl h, trivial⟩)
        · first | exact no s3 (La_in h) | exact no (La_in h) s3 | (have := La_in h; omega)
      · rintro (h | h | ⟨h | h, _⟩)
        · first | exact no s1 (RT_in' h).1 | exact no (RT_in' h).1 s1 | exact no s2 (RT_in' h).1 | exact no (RT_in' h).1 s2 | exact no s3 (RT_in' h).2 | exact no (RT_in' h).2 s3 | (have := RT_in h; omega)
        · first | exact no s1 (RT_in' h).1 | exact no (RT_in' h).1 s1 | exact no s2 (RT_in' h).1 | exact no (RT_in' h).1 s2 | exact no s3 (RT_in' h).2 | exact no (RT_in' h).2 s3 | (have := RT_in h; omega)
        · exact .inl h
        · first | exact no s1 (RT_in' h).1 | exact no (RT_in' h).1 s1 | exact no s2 (RT_in' h).1 | exact no (RT_in' h).1 s2 | exact no s3 (RT_in' h).2 | exact no (RT_in' h).2 s3 | (have := RT_in h; omega)
    · have hi := Src_in s; have s1 := (Src_in' s).1; have s2 := (Src_in' s).2.1; have s3 := (Src_in' s).2.2
      rw [La_ok s]
      constructor
      · rintro (h | h)
        · first | exact no s3 (La_in h) | exact no (La_in h) s3 | (have := La_in h; omega)
        · exact .inr (.inr ⟨.inr h, trivial⟩)
      · rintro (h | h | ⟨h | h, _⟩)
        · first | exact no s1 (RT_in' h).1 | exact no (RT_in' h).1 s1 | exact no s2 (RT_in' h).1 | exact no (RT_in' h).1 s2 | exact no s3 (RT_in' h).2 | exact no (RT_in' h).2 s3 | (have := RT_in h; omega)
        · first | exact no s1 (RT_in' h).1 | exact no (RT_in' h).1 s1 | exact no s2 (RT_in' h).1 | exact no (RT_in' h).1 s2 | exact no s3 (RT_in' h).2 | exact no (RT_in' h).2 s3 | (have := RT_in h; omega)
        · first | exact no s1 (RT_in' h).1 | exact no (RT_in' h).1 s1 | exact no s2 (RT_in' h).1 | exact no (RT_in' h).1 s2 | exact no s3 (RT_in' h).2 | exact no (RT_in' h).2 s3 | (have := RT_in h; omega)
        · exact .inr h
  | rep kd i, lo, klo, k, u, s => by
    simp only [Src] at s; simp only [La, RT, ac]
    rw [La_ok s]
    constructor
    · exact fun h => .inr ⟨h, .inr trivial⟩
    · rintro (h | ⟨h, _⟩)
      · first | exact no s1 (RT_in' h).1 | exact no (RT_in' h).1 s1 | exact no s2 (RT_in' h).1 | exact no (RT_in' h).1 s2 | exact no s3 (RT_in' h).2 | exact no (RT_in' h).2 s3 | (have := RT_in h; omega)
      · exact h
theorem Fo_ok : ∀ {t : Re} {lo klo k j w u : Nat}, Src t lo klo k w → Src t lo klo j u → (Fo t klo k j ↔ RT t lo klo k u)
  | sym _, lo, klo, k, j, w, u, s, s' => by simp only [Src] at s s'; simp only [Fo, RT]; exact ⟨False.elim, fun h => by omega⟩
  | eps, lo, klo, k, j, w, u, s, s' => by simp only [Src] at s
  | cat l r, lo, klo, k, j, w, u, s, s' => by
    simp only [Src] at s s'; simp only [Fo, RT]
    rcases s with s | s <;> rcases s' with s' | s' <;> have hi := Src_in s <;> have hi' := Src_in s'
    · rw [Fo_ok s s']
      constructor
      · rintro (h | h | h)
        · exact .inl h
        · first | exact no s3 (Fo_in h).1 | exact no (Fo_in h).1 s3 | exact no s3 (Fo_in h).2 | exact no (Fo_in h).2 s3 | (have := Fo_in h; omega)
        · first | exact no s3 (Fi_in h.2) | exact no (Fi_in h.2) s3 | (have := Fi_in h.2; omega)
      · rintro (h | h | h)
        · exact .inl h
        · first | exact no s1 (RS_in h.2) | exact no (RS_in h.2) s1 | exact no s2 (RS_in h.2) | exact no (RS_in h.2) s2 | (have := RS_in h.2; omega)
        · first | exact no s1 (RT_in' h).1 | exact no (RT_in' h).1 s1 | exact no s2 (RT_in' h).1 | exact no (RT_in' h).1 s2 | exact no s3 (RT_in' h).2 | exact no (RT_in' h).2 s3 | (have := RT_in h; omega)
    · rw [La_ok s, Fi_ok s']
      constructor
      · rintro (h | h | h)
        · first | exact no s3 (Fo_in h).1 | exact no (Fo_in h).1 s3 | exact no s3 (Fo_in h).2 | exact no (Fo_in h).2 s3 | (have := Fo_in h; omega)
        · first | exact no s3 (Fo_in h).1 | exact no (Fo_in h).1 s3 | exact no s3 (Fo_in h).2 | exact no (Fo_in h).2 s3 | (have := Fo_in h; omega)
        · exact .inr (.inl h)
      · rintro (h | h | h)
        · first | exact no s1 (RT_in' h).1 | exact no (RT_in' h).1 s1 | exact no s2 (RT_in' h).1 | exact no (RT_in' h).1 s2 | exact no s3 (RT_in' h).2 | exact no (RT_in' h).2 s3 | (have := RT_in h; omega)
        · exact .inr (.inr h)
        · first | exact no s1 (RT_in' h).1 | exact no (RT_in' h).1 s1 | exact no s2 (RT_in' h).1 | exact no (RT_in' h).1 s2 | exact no s3 (RT_in' h).2 | exact no (RT_in' h).2 s3 | (have := RT_in h; omega)
    · constructor
      · rintro (h | h | h)
        · first | exact no s3 (Fo_in h).1 | exact no (Fo_in h).1 s3 | exact no s3 (Fo_in h).2 | exact no (Fo_in h).2 s3 | (have := Fo_in h; omega)
        · first | exact no s3 (Fo_in h).1 | exact no (Fo_in h).1 s3 | exact no s3 (Fo_in h).2 | exact no (Fo_in h).2 s3 | (have := Fo_in h; omega)
        · first | exact no s3 (La_in h.1) | exact no (La_in h.1) s3 | (have := La_in h.1; omega)
      · rintro (h | h | h)
        · first | exact no s1 (RT_in' h).1 | exact no (RT_in' h).1 s1 | exact no s2 (RT_in' h).1 | exact no (RT_in' h).1 s2 | exact no s3 (RT_in' h).2 | exact no (RT_in' h).2 s3 | (have := RT_in h; omega)
        · first | exact no s1 (RT_in' h.1).1 | exact no (RT_in' h.1).1 s1 | exact no s2 (RT_in' h.1).1 | exact no (RT_in' h.1).1 s2 | exact no s3 (RT_in' h.1).2 | exact no (RT_in' h.1).2 s3 | (have := RT_in h.1; omega)
        · first | exact no s1 (RT_in' h).1 | exact no (RT_in' h).1 s1 | exact no s2 (RT_in' h).1 | exact no (RT_in' h).1 s2 | exact no s3 (RT_in' h).2 | exact no (RT_in' h).2 s3 | (have := RT_in h; omega)
    · rw [Fo_ok s s']
      constructor
      · rintro (h | h | h)
        · first | exact no s3 (Fo_in h).1 | exact no (Fo_in h).1 s3 | exact no s3 (Fo_in h).2 | exact no (Fo_in h).2 s3 | (have := Fo_in h; omega)
        · exact .inr (.inr h)
        · first | exact no s3 (La_in h.1) | exact no (La_in h.1) s3 | (have := La_in h.1; omega)
      · rintro (h | h | h)
        · first | exact no s1 (RT_in' h).1 | exact no (RT_in' h).1 s1 | exact no s2 (RT_in' h).1 | exact no (RT_in' h).1 s2 | exact no s3 (RT_in' h).2 | exact no (RT_in' h).2 s3 | (have := RT_in h; omega)
        · first | exact no s1 (RT_in' h.1).1 | exact no (RT_in' h.1).1 s1 | exact no s2 (RT_in' h.1).1 | exact no (RT_in' h.1).1 s2 | exact no s3 (RT_in' h.1).2 | exact no (RT_in' h.1).2 s3 | (have := RT_in h.1; omega)
        · exact .inr (.inl h)
  | alt l r, lo, klo, k, j, w, u, s, s' => by
    simp only [Src] at s s'; simp only [Fo, RT]
    rcases s with s | s <;> rcases s' with s' | s' <;> have hi := Src_in s <;> have hi' := Src_in s'
    · rw [Fo_ok s s']
      constructor
      · rintro (h | h)
        · exact .inl h
        · first | exact no s3 (Fo_in h).1 | exact no (Fo_in h).1 s3 | exact no s3 (Fo_in h).2 | exact no (Fo_in h).2 s3 | (have := Fo_in h; omega)
      · rintro (h | h | h)
        · exact .inl h
        · first | exact no s1 (RT_in' h).1 | exact no (RT_in' h).1 s1 | exact no s2 (RT_in' h).1 | exact no (RT_in' h).1 s2 | exact no s3 (RT_in' h).2 | exact no (RT_in' h).2 s3 | (have := RT_in h; omega)
        · omega
    · constructor
      · rintro (h | h)
        · first | exact no s3 (Fo_in h).1 | exact no (Fo_in h).1 s3 | exact no s3 (Fo_in h).2 | exact no (Fo_in h).2 s3 | (have := Fo_in h; omega)
        · first | exact no s3 (Fo_in h).1 | exact no (Fo_in h).1 s3 | exact no s3 (Fo_in h).2 | exact no (Fo_in h).2 s3 | (have := Fo_in h; omega)
      · rintro (h | h | h)
        · first | exact no s1 (RT_in' h).1 | exact no (RT_in' h).1 s1 | exact no s2 (RT_in' h).1 | exact no (RT_in' h).1 s2 | exact no s3 (RT_in' h).2 | exact no (RT_in' h).2 s3 | (have := RT_in h; omega)
        · first | exact no s1 (RT_in' h).1 | exact no (RT_in' h).1 s1 | exact no s2 (RT_in' h).1 | exact no (RT_in' h).1 s2 | exact no s3 (RT_in' h).2 | exact no (RT_in' h).2 s3 | (have := RT_in h; omega)
        · omega
    · constructor
      · rintro (h | h)
        · first | exact no s3 (Fo_in h).1 | exact no (Fo_in h).1 s3 | exact no s3 (Fo_in h).2 | exact no (Fo_in h).2 s3 | (have := Fo_in h; omega)
        · first | exact no s3 (Fo_in h).1 | exact no (Fo_in h).1 s3 | exact no s3 (Fo_in h).2 | exact no (Fo_in h).2 s3 | (have := Fo_in h; omega)
      · rintro (h | h | h)
        · first | exact no s1 (RT_in' h).1 | exact no (RT_in' h).1 s1 | exact no s2 (RT_in' h).1 | exact no (RT_in' h).1 s2 | exact no s3 (RT_in' h).2 | exact no (RT_in' h).2 s3 | (have := RT_in h; omega)
        · first | exact no s1 (RT_in' h).1 | exact no (RT_in' h).1 s1 | exact no s2 (RT_in' h).1 | exact no (RT_in' h).1 s2 | exact no s3 (RT_in' h).2 | exact no (RT_in' h).2 s3 | (have := RT_in h; omega)
        · omega
    · rw [Fo_ok s s']
      constructor
      · rintro (h | h)
        · first | exact no s3 (Fo_in h).1 | exact no (Fo_in h).1 s3 | exact no s3 (Fo_in h).2 | exact no (Fo_in h).2 s3 | (have := Fo_in h; omega)
        · exact .inr (.inl h)
      · rintro (h | h | h)
        · first | exact no s1 (RT_in' h).1 | exact no (RT_in' h).1 s1 | exact no s2 (RT_in' h).1 | exact no (RT_in' h).1 s2 | exact no s3 (RT_in' h).2 | exact no (RT_in' h).2 s3 | (have := RT_in h; omega)
        · exact .inr h
        · omega
  | rep kd i, lo, klo, k, j, w, u, s, s' => by
    simp only [Src] at s s'; simp only [Fo, RT]
    have hi' := Src_in s'
    rw [Fo_ok s s', La_ok s, Fi_ok s']
    constructor
    · rintro (h | ⟨h1, h2, h3⟩)
      · exact .inl h
      · exact .inr ⟨h2, .inl ⟨h1, h3⟩⟩
    · rintro (h | ⟨h2, ⟨h1, h3⟩ | h⟩)
      · exact .inl h
      · exact .inr ⟨h1, h2, h3⟩
      · omega
/-- what is reached -/
theorem reach_st {t : Re} {lo v : Nat} : Rch (Ed t lo) (st t lo) v ↔ RS t lo v := ⟨fun h => h.closed (P := RS t lo) (fun _ _ a e => RS_step a e) (RS_st t lo), RS_path⟩
theorem reach_tgt {t : Re} {lo klo k u v : Nat} (s : Src t lo klo k u) : Rch (Ed t lo) (u + 1) v ↔ RT t lo klo k v := ⟨fun h => h.closed (P := RT t lo klo k) (fun _ _ a e => RT_step a e) (RT_self s), RT_path s⟩
end Re
end Mine

set_option Elab.async false
set_option linter.unusedVariables false
set_option linter.unusedSectionVars false
set_option autoImplicit false
set_option maxRecDepth 10000
open PySem
namespace Mine
/-! labels and edges as data -/
noncomputable def lb (l : Fin 5) : Str := match l with
  | 0 => Str.ofString ""
  | 1 => Str.ofString "a"
  | 2 => Str.ofString "b"
  | 3 => Str.ofString "c"
  | 4 => Str.ofString "."
noncomputable def lbE (l : Fin 5) : PyData := .str (lb l)
theorem enc_lb : Enc lbE 0 := ⟨by decide +kernel, fun _ => Nat.le_refl _⟩
noncomputable def edE (x : Fin 5 × Nat) : PyData := .tuple [lbE x.1, iN x.2]
abbrev Eds := List (List (Fin 5 × Nat))
noncomputable def esE : Eds → PyData := lE (lE edE)
noncomputable def rowOf (es : Eds) (u : Nat) : List (Fin 5 × Nat) := es[u]?.getD []
noncomputable def Ee (es : Eds) (u v : Nat) : Prop := ((0 : Fin 5), v) ∈ rowOf es u
theorem rowOf_get {es : Eds} {u : Nat} (h : u < es.length) : es[u]? = some (rowOf es u) := by
  unfold rowOf; rw [List.getElem?_eq_getElem h]; rfl
theorem ed0 {σ : St} {f : XE} {k : Nat} {x : Fin 5 × Nat} (e : f σ = some (edE x, k)) (hk : k ≠ 2) : subX f (kX (PyData.int 0)) σ = some (lbE x.1, 0) := sub_t (j := 0) (k' := 0) e rfl hk rfl
theorem ed1 {σ : St} {f : XE} {k : Nat} {x : Fin 5 × Nat} (e : f σ = some (edE x, k)) (hk : k ≠ 2) : subX f (kX (PyData.int 1)) σ = some (iN x.2, 0) := sub_t (j := 1) (k' := 0) e rfl hk rfl
theorem last_e {α : Type} {en : α → PyData} {σ : St} {f : XE} {k : Nat} {l : List α} {a : α} (e : f σ = some (lE en l, k)) (hk : k ≠ 2) (h : l[l.length - 1]? = some a) : subX f (negX (kX (PyData.int 1))) σ = some (en a, 0) := by
  have hl : 0 < l.length := by
    rcases Nat.eq_zero_or_pos l.length with q | q
    · rw [List.length_eq_zero_iff.mp q] at h; simp at h
    · exact q
  refine sub_last (n := 1) (i := -1) (k' := 0) e rfl hk (by omega) (by omega) (by rw [List.length_map]; omega) ?_
  rw [List.length_map, List.getElem?_map, h]; rfl
theorem erase_map {α β : Type} (f : α → β) : ∀ (l : List α) (n : Nat), (l.map f).eraseIdx n = (l.eraseIdx n).map f
  | [], n => rfl
  | x :: l, 0 => rfl
  | x :: l, n + 1 => by simp [erase_map f l n]
theorem wp_to {σ : St} {N B C : St → Prop} {R : PyData → Prop} (S : St) {f g : XS} (h1 : WP f σ (Eq S) B C R) (h2 : WP g S N B C R) : WP (seqX f g) σ N B C R :=
  wp_seq (h1.mono (fun _ e => e ▸ h2) (fun _ h => h) (fun _ h => h) (fun _ h => h))
theorem wp_ifT {σ : St} {N B C : St → Prop} {R : PyData → Prop} {t : St → Option Bool} {f g : XS} (e : t σ = some true) (h : WP f σ N B C R) : WP (ifX t f g) σ N B C R := wp_if e (fun _ => h) (fun h => nomatch h)
theorem wp_ifF {σ : St} {N B C : St → Prop} {R : PyData → Prop} {t : St → Option Bool} {f g : XS} (e : t σ = some false) (h : WP g σ N B C R) : WP (ifX t f g) σ N B C R := wp_if e (fun h => nomatch h) (fun _ => h)
theorem wp_delE {α : Type} {en : α → PyData} {σ : St} {N B C : St → Prop} {R : PyData → Prop} {i : Nat} {l : List α} (e1 : σ[i]? = some (some (lE en l, 1))) (hl : 0 < l.length) (h : N (σ.set i (some (lE en (l.eraseIdx (l.length - 1)), 1)))) : WP (delX i (negX (kX (PyData.int 1)))) σ N B C R := by
  refine wp_del (n := l.length - 1) (j := -1) (k' := 0) e1 rfl ?_ ?_
  · unfold ixOf; rw [if_neg (by omega), if_pos (by rw [List.length_map]; omega), List.length_map]; congr 1; omega
  · have : PyData.list ((l.map en).eraseIdx (l.length - 1)) = lE en (l.eraseIdx (l.length - 1)) := by unfold lE; rw [erase_map]
    rw [this]; exact h
theorem erase_last {α : Type} (l : List α) : l.eraseIdx (l.length - 1) = l.dropLast := by
  rw [List.dropLast_eq_take]
  cases l with
  | nil => rfl
  | cons x l => rw [List.eraseIdx_eq_take_drop_succ]; simp
end Mine

set_option Elab.async false
set_option linter.unusedVariables false
set_option linter.unusedSectionVars false
set_option autoImplicit false
set_option maxRecDepth 10000
open PySem
namespace Mine
structure EsOk (es : Eds) (N : Nat) : Prop where
  len : es.length = N
  small : N ≤ 60
  tgt : ∀ u x, x ∈ rowOf es u → x.2 < N
  row : ∀ u, (rowOf es u).length ≤ 1000
/-- where the search stands -/
structure Cl (es : Eds) (gs seen work : List Nat) (N : Nat) : Prop where
  nd : seen.Nodup
  wnd : work.Nodup
  sub : ∀ u ∈ work, u ∈ seen
  has : ∀ u ∈ gs, u ∈ seen
  lt : ∀ u ∈ seen, u < N
  ok : ∀ v ∈ seen, ∃ u ∈ gs, Rch (Ee es) u v
  done : ∀ u ∈ seen, u ∉ work → ∀ v, Ee es u v → v ∈ seen
theorem nodup_snoc {α : Type} {l : List α} {x : α} (h : l.Nodup) (hx : x ∉ l) : (l ++ [x]).Nodup := by
  rw [List.nodup_append]
  exact ⟨h, by simp, fun a ha b hb e => by rw [List.mem_singleton.mp hb] at e; exact hx (e ▸ ha)⟩
theorem lt_len {l : List Nat} {N : Nat} (h : l.Nodup) (hl : ∀ u ∈ l, u < N) : l.length ≤ N := by
  have := nodup_len h (m := List.range N) fun x hx => List.mem_range.mpr (hl x hx)
  simpa using this
/-- the edges of one state are looked at -/
structure Cs (es : Eds) (u : Nat) (seen wk : List Nat) (i : Nat) (sn wn : List Nat) : Prop where
  n1 : sn.Nodup
  n2 : wn.Nodup
  n3 : u ∉ wn
  n4 : ∀ v ∈ wn, v ∈ sn
  n5 : ∀ v ∈ seen, v ∈ sn
  n6 : ∀ v ∈ sn, v ∈ seen ∨ v ∈ wn
  n7 : ∀ v ∈ wk, v ∈ wn
  n8 : ∀ v ∈ wn, v ∈ wk ∨ v ∉ seen
  n9 : ∀ v ∈ sn, v ∈ seen ∨ Ee es u v
  n10 : ∀ x ∈ (rowOf es u).take i, x.1 = 0 → x.2 ∈ sn
  n11 : sn.length + wk.length = seen.length + wn.length
theorem mem_snoc {α : Type} {l : List α} {a v : α} {p : α → Prop} (h : ∀ v ∈ l, p v) (ha : p a) (hv : v ∈ l ++ [a]) : p v := (List.mem_append.mp hv).elim (h v) fun e => List.mem_singleton.mp e ▸ ha
theorem Cs.add {es : Eds} {u : Nat} {seen wk : List Nat} {i : Nat} {sn wn : List Nat} {x : Fin 5 × Nat} (K : Cs es u seen wk i sn wn) (hu : u ∈ seen) (hx : (rowOf es u)[i]? = some x) (hx0 : x.1 = 0) (hxn : x.2 ∉ sn) : Cs es u seen wk (i + 1) (sn ++ [x.2]) (wn ++ [x.2]) := by
  have hee : Ee es u x.2 := by
    have : x = ((0 : Fin 5), x.2) := by rw [← hx0]
    unfold Ee; rw [← this]; exact List.mem_of_getElem? hx
  have hl : x.2 ∈ sn ++ [x.2] := List.mem_append_right _ List.mem_cons_self
  exact ⟨nodup_snoc K.n1 hxn, nodup_snoc K.n2 fun h => hxn (K.n4 _ h), fun h => (List.mem_append.mp h).elim K.n3 fun h => hxn (List.mem_singleton.mp h ▸ K.n5 u hu),
    fun v hv => mem_snoc (fun v h => List.mem_append_left _ (K.n4 v h)) hl hv, fun v hv => List.mem_append_left _ (K.n5 v hv), fun v hv => mem_snoc (p := fun v => v ∈ seen ∨ v ∈ wn ++ [x.2]) (fun v h => (K.n6 v h).imp id (List.mem_append_left _)) (.inr (List.mem_append_right _ List.mem_cons_self)) hv,
    fun v hv => List.mem_append_left _ (K.n7 v hv), fun v hv => mem_snoc (p := fun v => v ∈ wk ∨ v ∉ seen) K.n8 (.inr fun h => hxn (K.n5 _ h)) hv, fun v hv => mem_snoc (p := fun v => v ∈ seen ∨ Ee es u v) K.n9 (.inr hee) hv, fun y hy hy0 => by
      rw [List.take_add_one, hx, List.mem_append] at hy
      rcases hy with hy | hy
      · exact List.mem_append_left _ (K.n10 y hy hy0)
      · obtain rfl := List.mem_singleton.mp (show y ∈ [x] from hy); exact hl, by rw [List.length_append, List.length_append, Nat.add_right_comm, K.n11, Nat.add_assoc]⟩
theorem Cs.old {es : Eds} {u : Nat} {seen wk : List Nat} {i : Nat} {sn wn : List Nat} {x : Fin 5 × Nat} (K : Cs es u seen wk i sn wn) (hx : (rowOf es u)[i]? = some x) (h : x.1 = 0 → x.2 ∈ sn) : Cs es u seen wk (i + 1) sn wn :=
  ⟨K.n1, K.n2, K.n3, K.n4, K.n5, K.n6, K.n7, K.n8, K.n9, fun y hy hy0 => by
      rw [List.take_add_one, hx, List.mem_append] at hy
      rcases hy with hy | hy
      · exact K.n10 y hy hy0
      · obtain rfl := List.mem_singleton.mp (show y ∈ [x] from hy); exact h hy0, K.n11⟩
theorem Cs.fin {es : Eds} {u N : Nat} {gs seen wk : List Nat} {sn wn : List Nat} (E : EsOk es N) (C : Cl es gs seen (wk ++ [u]) N) (K : Cs es u seen wk (rowOf es u).length sn wn) : Cl es gs sn wn N := by
  have hu : u ∈ seen := C.sub u (List.mem_append_right _ List.mem_cons_self)
  have n10 := K.n10
  rw [List.take_length] at n10
  refine ⟨K.n1, K.n2, K.n4, fun v hv => K.n5 v (C.has v hv), fun v hv => (K.n9 v hv).elim (C.lt v) fun h => E.tgt u _ h, fun v hv => ?_, fun v hv hvw w hw => ?_⟩
  · rcases K.n9 v hv with h | h
    · exact C.ok v h
    · obtain ⟨g, hg', hr⟩ := C.ok u hu
      exact ⟨g, hg', hr.step h⟩
  · by_cases hvu : v = u
    · subst hvu; exact n10 _ hw rfl
    · rcases K.n6 v hv with h | h
      · exact K.n5 w (C.done v h (fun hm => (List.mem_append.mp hm).elim (fun hm => hvw (K.n7 v hm)) fun hm => hvu (List.mem_singleton.mp hm)) w hw)
      · exact absurd h hvw
inductive CgI (es : Eds) (gs : List Nat) (j : Nat) : St → Prop
  | mk (seen : List Nat) (x4 : Option (PyData × Nat)) : seen.Nodup → (∀ v, v ∈ seen ↔ v ∈ gs.take j) → CgI es gs j [some (esE es, 0), some (lE iN gs, 0), some (lE iN seen, 1), some (lE iN seen, 1), x4, none, none]
inductive CsI (es : Eds) (gs : List Nat) (u j : Nat) (seen wk : List Nat) (i : Nat) : St → Prop
  | mk (sn wn : List Nat) (x6 : Option (PyData × Nat)) : Cs es u seen wk i sn wn → CsI es gs u j seen wk i [some (esE es, 0), some (lE iN gs, 0), some (lE iN sn, 1), some (lE iN wn, 1), some (iN u, 0), some (iN j, 0), x6]
inductive ClI (es : Eds) (gs : List Nat) (N j : Nat) : St → Prop
  | mk (seen work : List Nat) (x4 x5 x6 : Option (PyData × Nat)) : Cl es gs seen work N → j + work.length = seen.length → ClI es gs N j [some (esE es, 0), some (lE iN gs, 0), some (lE iN seen, 1), some (lE iN work, 1), x4, x5, x6]
inductive CeI (es : Eds) (gs : List Nat) (N : Nat) : St → Prop
  | mk (seen : List Nat) (x3 x4 x5 x6 : Option (PyData × Nat)) : Cl es gs seen [] N → CeI es gs N [some (esE es, 0), some (lE iN gs, 0), some (lE iN seen, 1), x3, x4, x5, x6]
theorem cl_row {es : Eds} {gs seen wk : List Nat} {u j N : Nat} {B : St → Prop} {R : PyData → Prop} (E : EsOk es N) (hu : u ∈ seen) (hlt : ∀ v ∈ seen, v < N) (i : Nat) (σ : St) (x : Fin 5 × Nat) (hx : (rowOf es u)[i]? = some x) (h : CsI es gs u j seen wk i σ) :
    WP (seqX (ifX (andT (trX (eqX true (subX (vX 6) (kX (PyData.int 0))) (kX (PyData.str (Str.ofString ""))))) (trX (inX false (subX (vX 6) (kX (PyData.int 1))) (vX 2)))) (seqX (appX 2 [] (subX (vX 6) (kX (PyData.int 1)))) (seqX (appX 3 [] (subX (vX 6) (kX (PyData.int 1)))) skipX)) skipX) skipX) (σ.set 6 (some (edE x, 0))) (CsI es gs u j seen wk (i + 1)) B (CsI es gs u j seen wk (i + 1)) R := by
  obtain ⟨sn, wn, x6, K⟩ := h
  have h60 := E.small
  have hsnl : sn.length < 1000000 := Nat.lt_of_le_of_lt (lt_len K.n1 fun v hv => (K.n9 v hv).elim (hlt v) fun h => E.tgt u _ h) (Nat.lt_of_le_of_lt h60 (by decide))
  have hwnl : wn.length < 1000000 := Nat.lt_of_le_of_lt (lt_len K.n2 fun v hv => (K.n9 v (K.n4 v hv)).elim (hlt v) fun h => E.tgt u _ h) (Nat.lt_of_le_of_lt h60 (by decide))
  refine wp_seq (wp_if (and_t (tr_b (eq_t enc_lb (by decide) (a := x.1) (b := 0) (k := 0) (k' := 0) (ed0 (k := 0) rfl (by decide)) rfl)) fun _ => tr_b (in_f enc_n (by decide) (a := x.2) (l := sn) (ed1 (k := 0) rfl (by decide)) rfl)) (fun hb => ?_) (fun hb => ?_))
  · rw [Bool.and_eq_true] at hb
    refine wp_to [some (esE es, 0), some (lE iN gs, 0), some (lE iN (sn ++ [x.2]), 1), some (lE iN wn, 1), some (iN u, 0), some (iN j, 0), some (edE x, 0)] (wp_appE (en := iN) (a := x.2) (k := 0) rfl (ed1 (k := 0) rfl (by decide)) rfl hsnl rfl) ?_
    exact wp_seq (wp_appE (en := iN) (a := x.2) (k := 0) rfl (ed1 (k := 0) rfl (by decide)) rfl hwnl (wp_skip (wp_skip (.mk _ _ _ (K.add hu hx (of_decide_eq_true hb.1) (by simpa using hb.2))))))
  · exact wp_skip (wp_skip (.mk _ _ _ (K.old hx fun e => by rw [e] at hb; simpa using hb)))
theorem clos_ok {es : Eds} {N : Nat} (E : EsOk es N) {gs : List Nat} (hg : ∀ u ∈ gs, u < N) (hgl : gs.length ≤ 1000) :
    ∃ l, closF [esE es, lE iN gs] = some (lE iN l) ∧ l.Pairwise (· < ·) ∧ ∀ v, v ∈ l ↔ ∃ u ∈ gs, Rch (Ee es) u v := by
  have h60 := E.small
  suffices main : ∃ v, closF [esE es, lE iN gs] = some v ∧ ∃ l, v = lE iN l ∧ l.Pairwise (· < ·) ∧ ∀ v, v ∈ l ↔ ∃ u ∈ gs, Rch (Ee es) u v by
    obtain ⟨v, e, l, rfl, h⟩ := main
    exact ⟨l, e, h⟩
  refine fnX_ex rfl ?_
  unfold g2clos
  refine wp_seq (wp_asg3 (d := lE iN []) rfl ?_)
  refine wp_seq (wp_asg3 (d := lE iN []) rfl ?_)
  refine wp_cut (CgI es gs gs.length) ?_ ?_
  · refine wp_it (en := iN) (l := gs) (k := 0) (CgI es gs) rfl rfl (.mk [] none List.nodup_nil (fun v => Iff.rfl)) ?_ (fun _ h => h)
    rintro j σ u hu ⟨seen, x4, hnd, hm⟩
    have hsl : seen.length < 1000000 := Nat.lt_of_le_of_lt (lt_len hnd fun v hv => hg v (List.mem_of_mem_take ((hm v).mp hv))) (Nat.lt_of_le_of_lt h60 (by decide))
    have hm' : ∀ v, v ∈ gs.take (j + 1) ↔ v ∈ gs.take j ∨ v = u := fun v => by rw [List.take_add_one, hu, List.mem_append, Option.toList_some, List.mem_singleton]
    refine wp_seq (wp_if (tr_b (in_f enc_n (by decide) (a := u) (l := seen) rfl rfl)) (fun hb => ?_) (fun hb => ?_))
    · refine wp_to [some (esE es, 0), some (lE iN gs, 0), some (lE iN (seen ++ [u]), 1), some (lE iN seen, 1), some (iN u, 0), none, none] (wp_appE (en := iN) (a := u) (k := 0) rfl rfl rfl hsl rfl) ?_
      exact wp_seq (wp_appE (en := iN) (a := u) (k := 0) rfl rfl rfl hsl (wp_skip (wp_skip (.mk (seen ++ [u]) _ (nodup_snoc hnd (by simpa using hb)) (fun v => by rw [hm', List.mem_append, hm, List.mem_singleton])))))
    · exact wp_skip (wp_skip (.mk seen _ hnd (fun v => by rw [hm', ← hm]; exact ⟨.inl, fun h => h.elim id fun e => by rw [e]; simpa using hb⟩)))
  · rintro σ ⟨seen0, x4, hnd0, hm0⟩
    rw [List.take_length] at hm0
    have hl0 : seen0.length ≤ N := lt_len hnd0 fun v hv => hg v ((hm0 v).mp hv)
    have C0 : Cl es gs seen0 seen0 N := ⟨hnd0, hnd0, fun _ h => h, fun u h => (hm0 u).mpr h, fun u h => hg u ((hm0 u).mp h), fun v h => ⟨v, (hm0 v).mp h, .refl⟩, fun u h h' => absurd h h'⟩
    refine wp_cut (CeI es gs N) ?_ ?_
    · refine wp_rng (n := N + seen0.length) (k := 0) (ClI es gs N) (add_n (a := N) (b := seen0.length) (k := 0) (k' := 0) (by rw [← E.len]; exact len_e (en := lE edE) rfl) (len_e (en := iN) rfl)) (by omega) (.mk seen0 seen0 x4 none none C0 (Nat.zero_add _)) ?_ ?_
      · rintro j σ hj ⟨seen, work, x4, x5, x6, C, hjw⟩
        refine wp_seq (wp_if (tr_b (eq_t enc_n (by decide) (a := work.length) (b := 0) (len_e (en := iN) rfl) rfl)) (fun hb => ?_) (fun hb => ?_))
        · obtain rfl : work = [] := List.length_eq_zero_iff.mp (of_decide_eq_true hb)
          exact wp_seq (wp_brk (.mk seen _ _ _ _ C))
        · have hb := of_decide_eq_false hb
          obtain ⟨wk, u, rfl⟩ : ∃ wk u, work = wk ++ [u] := ⟨_, _, (List.dropLast_concat_getLast fun e => hb (by rw [e]; rfl)).symm⟩
          have hu : u ∈ seen := C.sub u (List.mem_append_right _ List.mem_cons_self)
          have hwk := List.nodup_append.mp C.wnd
          refine wp_skip ?_
          refine wp_to [some (esE es, 0), some (lE iN gs, 0), some (lE iN seen, 1), some (lE iN (wk ++ [u]), 1), some (iN u, 0), some (iN j, 0), x6] (wp_asg0 (d := iN u) (last_e (en := iN) (k := 1) rfl (by decide) (by simp)) rfl) ?_
          refine wp_to [some (esE es, 0), some (lE iN gs, 0), some (lE iN seen, 1), some (lE iN wk, 1), some (iN u, 0), some (iN j, 0), x6] (wp_delE (en := iN) rfl (by simp) (by rw [erase_last, List.dropLast_concat]; rfl)) ?_
          refine wp_seq (wp_it (en := edE) (l := rowOf es u) (k := 0) (CsI es gs u j seen wk) (sub_e (en := lE edE) (j := u) (k := 0) (k' := 0) rfl rfl (by decide) (rowOf_get (by rw [E.len]; exact C.lt u hu))) rfl
            (.mk seen wk x6 ⟨C.nd, hwk.1, fun h => hwk.2.2 u h u List.mem_cons_self rfl, fun v hv => C.sub v (List.mem_append_left _ hv), fun _ h => h, fun _ h => .inl h, fun _ h => h, fun _ h => .inl h, fun _ h => .inl h, fun x hx => (nomatch hx), rfl⟩) (cl_row E hu C.lt) ?_)
          rintro σ ⟨sn, wn, x6, K⟩
          exact wp_skip (.mk sn wn _ _ _ (K.fin E C) (by have := K.n11; rw [List.length_append, List.length_singleton] at hjw; omega))
      · rintro σ ⟨seen, work, x4, x5, x6, C, hjw⟩
        have hsl := lt_len C.nd C.lt
        obtain rfl : work = [] := List.length_eq_zero_iff.mp (by omega)
        exact .mk seen _ _ _ _ C
    · rintro σ ⟨seen, x3, x4, x5, x6, C⟩
      have hsl := lt_len C.nd C.lt
      have hmm : ∀ x, x ∈ (List.range N).filter (fun x => decide (x ∈ seen)) ↔ x ∈ seen := fun x => by
        rw [List.mem_filter, List.mem_range, decide_eq_true_iff]
        exact ⟨fun h => h.2, fun h => ⟨C.lt x h, h⟩⟩
      have hmp : ((List.range N).filter (fun x => decide (x ∈ seen))).Pairwise (· < ·) := List.pairwise_lt_range.filter _
      refine wp_seq (wp_ret (k := 3) (sort_n (k := 0) (l := seen) rfl (by omega) C.nd hmp hmm) rfl ⟨_, rfl, hmp, fun v => ?_⟩)
      rw [hmm]
      constructor
      · exact C.ok v
      · rintro ⟨u, hu, hr⟩
        exact hr.closed (P := fun v => v ∈ seen) (fun a b ha e => C.done a ha (by simp) b e) (C.has u hu)
end Mine

set_option Elab.async false
set_option linter.unusedVariables false
set_option linter.unusedSectionVars false
set_option autoImplicit false
set_option maxRecDepth 10000
open PySem
namespace Mine
noncomputable def apE (es : Eds) (u : Nat) (x : Fin 5 × Nat) : Eds := es.set u (rowOf es u ++ [x])
section
variable {σ : St} {N B C : St → Prop} {R : PyData → Prop}
theorem wp_nx {g : XS} {σ' : St} (e : g σ = some (.next, σ')) (h : N σ') : WP g σ N B C R := ⟨by unfold WP0; rw [e]; exact h⟩
theorem wp_deep0 {i : Nat} (h : N (σ.set i (some (esE [], 2)))) : WP (deep0X i) σ N B C R := ⟨h⟩
theorem wp_deepN {i : Nat} {es : Eds} (e : σ[i]? = some (some (esE es, 2))) (hl : es.length < 1000000) (h : N (σ.set i (some (esE (es ++ [[]]), 2)))) : WP (deepNX i) σ N B C R := by
  have e' : σ[i]? = some (some (.list (es.map (lE edE)), 2)) := e
  refine wp_nx (σ' := σ.set i (some (esE (es ++ [[]]), 2))) ?_ h
  have : PyData.list (es.map (lE edE) ++ [.list []]) = esE (es ++ [[]]) := by unfold esE lE; rw [List.map_append]; rfl
  unfold deepNX; rw [e', ← this]
  exact if_pos (by rw [List.length_map]; exact hl)
theorem wp_deepA {i : Nat} {fz : List Nat} {g f : XE} {es : Eds} {u : Nat} {x : Fin 5 × Nat} {k k' : Nat} (e1 : (freezeL fz σ)[i]? = some (some (esE es, 2))) (e2 : g (freezeL fz σ) = some (iN u, k')) (e3 : f (freezeL fz σ) = some (edE x, k)) (hk : (k == 0 || k == 3) = true)
    (hu : u < es.length) (hl : (rowOf es u).length < 1000000) (h : N ((freezeL fz σ).set i (some (esE (apE es u x), 2)))) : WP (deepAX i fz g f) σ N B C R := by
  have e1' : (freezeL fz σ)[i]? = some (some (.list (es.map (lE edE)), 2)) := e1
  have e2' : g (freezeL fz σ) = some (.int (u : Int), k') := e2
  refine wp_nx (σ' := (freezeL fz σ).set i (some (esE (apE es u x), 2))) ?_ h
  have h1 : ixOf (u : Int) (es.map (lE edE)).length = some u := ix_n (by rw [List.length_map]; exact hu)
  have h2 : (es.map (lE edE))[u]? = some (.list ((rowOf es u).map edE)) := by rw [List.getElem?_map, rowOf_get hu]; rfl
  have h3 : PyData.list ((es.map (lE edE)).set u (.list ((rowOf es u).map edE ++ [edE x]))) = esE (apE es u x) := by
    unfold esE apE
    show _ = PyData.list _
    rw [List.map_set]
    unfold lE
    rw [List.map_append]; rfl
  unfold deepAX
  rw [e1', e2', e3]
  show (match ixOf (u : Int) (es.map (lE edE)).length with | some j => (match (es.map (lE edE))[j]? with | some (.list ys) => if (k == 0 || k == 3) = true ∧ ys.length < 1000000 then some (Fl.next, (freezeL fz σ).set i (some (.list ((es.map (lE edE)).set j (.list (ys ++ [edE x]))), 2))) else none | _ => none) | none => none) = _
  rw [h1]
  show (match (es.map (lE edE))[u]? with | some (.list ys) => if (k == 0 || k == 3) = true ∧ ys.length < 1000000 then some (Fl.next, (freezeL fz σ).set i (some (.list ((es.map (lE edE)).set u (.list (ys ++ [edE x]))), 2))) else none | _ => none) = _
  rw [h2, ← h3]
  exact if_pos ⟨hk, by rw [List.length_map]; exact hl⟩
theorem wp_pop {α : Type} {en : α → PyData} {i j : Nat} {l : List α} {a : α} (e : σ[j]? = some (some (lE en (l ++ [a]), 1))) (h : N ((σ.set j (some (lE en l, 1))).set i (some (en a, 0)))) : WP (popX i j) σ N B C R := by
  have e' : σ[j]? = some (some (.list ((l ++ [a]).map en), 1)) := e
  refine wp_nx (σ' := (σ.set j (some (lE en l, 1))).set i (some (en a, 0))) ?_ h
  have h1 : ((l ++ [a]).map en)[((l ++ [a]).map en).length - 1]? = some (en a) := by simp
  have h2 : PyData.list (((l ++ [a]).map en).eraseIdx (((l ++ [a]).map en).length - 1)) = lE en l := by
    rw [erase_last, List.map_append]
    unfold lE
    simp
  unfold popX
  rw [e']
  simp only [h1, h2]
theorem wp_frz {fz : List Nat} {g : XS} (h : WP g (freezeL fz σ) N B C R) : WP (frzX fz g) σ N B C R := ⟨h.run⟩
theorem wp_unp {is fz : List Nat} {f : XE} {ds : List PyData} (e : f (freezeL fz σ) = some (.tuple ds, 0)) (hl : ds.length = is.length) (h : N (setsX is ds (freezeL fz σ))) : WP (unpX is fz f) σ N B C R := by
  refine wp_nx (σ' := setsX is ds (freezeL fz σ)) ?_ h
  unfold unpX
  rw [e]
  exact if_pos ⟨rfl, hl⟩
theorem wp_delM {α : Type} {en : α → PyData} {i : Nat} {l : List α} {a : α} (e1 : σ[i]? = some (some (lE en (l ++ [a]), 1))) (h : N (σ.set i (some (lE en l, 1)))) : WP (delX i (negX (kX (PyData.int 1)))) σ N B C R := by
  refine wp_delE (en := en) e1 (by simp) ?_
  rw [erase_last, List.dropLast_concat]; exact h
theorem wp_setM {α : Type} {en : α → PyData} {i : Nat} {fz : List Nat} {f : XE} {l : List α} {a b : α} {k : Nat} (e1 : (freezeL fz σ)[i]? = some (some (lE en (l ++ [a]), 1))) (e : f (freezeL fz σ) = some (en b, k)) (hk : (k == 0 || k == 3) = true) (h : N ((freezeL fz σ).set i (some (lE en (l ++ [b]), 1)))) : WP (setX i fz f (negX (kX (PyData.int 1)))) σ N B C R := by
  refine wp_set (n := l.length) (j := -1) (k' := 0) e1 e rfl hk ?_ ?_
  · unfold ixOf
    rw [if_neg (by omega), if_pos (by simp only [List.length_map, List.length_append, List.length_singleton]; omega)]
    congr 1; simp only [List.length_map, List.length_append, List.length_singleton]; omega
  · have : PyData.list (((l ++ [a]).map en).set l.length (en b)) = lE en (l ++ [b]) := by
      unfold lE
      rw [List.map_append, List.map_append, List.set_append_right _ _ (by simp)]
      simp
    rw [this]; exact h
end
section
variable {σ : St} {t u : St → Option Bool} {b c : Bool}
theorem or_t (h1 : t σ = some b) (h2 : b = false → u σ = some c) : orT t u σ = some (b || c) := by
  unfold orT; rw [h1]
  cases b with
  | true => rfl
  | false => exact h2 rfl
theorem not_t (h : t σ = some b) : notT t σ = some (!b) := by unfold notT; rw [h]; rfl
end
section
variable {α : Type} [DecidableEq α] {en : α → PyData} {D : Nat} {σ : St} {f g : XE} {k k' : Nat}
theorem in_tt (E : Enc en D) (hD : D ≤ 100) {a : α} {l : List α} (e1 : f σ = some (en a, k)) (e2 : g σ = some (.tuple (l.map en), k')) : inX true f g σ = some (.bool (decide (a ∈ l)), 0) := by
  unfold inX; rw [e1, e2]
  simp only [E.any]
  rw [if_pos (by have := E.dep a; omega)]
  simp
theorem eq_f (E : Enc en D) (hD : D ≤ 100) {a b : α} (e1 : f σ = some (en a, k)) (e2 : g σ = some (en b, k')) : eqX false f g σ = some (.bool (!decide (a = b)), 0) := by
  rw [eq_e E hD e1 e2]; simp
end
section
variable {α : Type} {en : α → PyData} {σ : St} {f g : XE} {k k' : Nat}
theorem sub_tl {j : Nat} {l : List α} {a : α} (e1 : f σ = some (.tuple (l.map en), k)) (e2 : g σ = some (iN j, k')) (hk : k ≠ 2) (h : l[j]? = some a) : subX f g σ = some (en a, 0) :=
  sub_t e1 e2 hk (by rw [List.getElem?_map, h]; rfl)
theorem sub_m1 {l : List α} {a : α} (e : f σ = some (lE en (l ++ [a]), k)) (hk : k ≠ 2) : subX f (negX (kX (PyData.int 1))) σ = some (en a, 0) := last_e e hk (by simp)
theorem sub_m2 {l : List α} {a b : α} (e : f σ = some (lE en (l ++ [a] ++ [b]), k)) (hk : k ≠ 2) : subX f (negX (kX (PyData.int 2))) σ = some (en a, 0) := by
  refine sub_last (n := 2) (i := -2) (k' := 0) e rfl hk (by omega) (by omega) (by simp) ?_
  rw [List.getElem?_map]
  simp
theorem bor_b {b c : Bool} (e1 : f σ = some (.bool b, k)) (e2 : b = false → g σ = some (.bool c, k')) : borX f g σ = some (.bool (b || c), 0) := by
  unfold borX; rw [e1]
  cases b with
  | true => rfl
  | false => simp only; rw [e2 rfl]; rfl
theorem band_b {b c : Bool} (e1 : f σ = some (.bool b, k)) (e2 : b = true → g σ = some (.bool c, k')) : bandX f g σ = some (.bool (b && c), 0) := by
  unfold bandX; rw [e1]
  cases b with
  | true => simp only; rw [e2 rfl]; rfl
  | false => rfl
theorem rev_e {l : List α} (e : f σ = some (lE en l, k)) (hk : k ≠ 2) : revX f σ = some (lE en l.reverse, 3) := by
  have e' : f σ = some (.list (l.map en), k) := e
  unfold revX; rw [e']; simp only [hk, ne_eq, not_false_eq_true, if_true]
  unfold lE; rw [List.map_reverse]
theorem ad_l {l m : List α} (e1 : f σ = some (lE en l, k)) (e2 : g σ = some (lE en m, k')) (h1 : k ≠ 2) (h2 : k' ≠ 2) (hl : l.length + m.length ≤ 10000000) : addX f g σ = some (lE en (l ++ m), 3) := by
  have := add_l (xs := l.map en) (ys := m.map en) e1 e2 h1 h2 (by simpa using hl)
  rw [this]; unfold lE; rw [List.map_append]
theorem any_it {is : List Nat} {q : St → Option Bool} {l : List α} {fs : St} (p : α → Bool) (e1 : f σ = some (lE en l, k)) (hk : k = 0 ∨ k = 1 ∨ k = 3) (e2 : freeOf is σ = some fs) (e3 : ∀ x ∈ l, q (some (en x, 0) :: fs) = some (p x)) :
    anyX is (itX f) q σ = some (.bool (l.any p), 0) := by
  have : ∀ ys : List α, (∀ x ∈ ys, q (some (en x, 0) :: fs) = some (p x)) → allQ fs q (ys.map en) = some (ys.map p) := fun ys => by
    induction ys with
    | nil => intro _; rfl
    | cons y ys ih =>
      intro hy
      rw [List.map_cons]
      unfold allQ
      rw [hy y List.mem_cons_self]
      simp only [ih fun x hx => hy x (List.mem_cons_of_mem _ hx)]
      rfl
  unfold anyX
  rw [it_l e1 hk, e2]
  simp only [this l e3, Option.map_some, List.any_map]
  rfl
end
/-- step -/
noncomputable def Hit (es : Eds) (c : Fin 5) (us : List Nat) (v : Nat) : Prop := ∃ u ∈ us, ∃ x ∈ rowOf es u, (x.1 = c ∨ x.1 = 4) ∧ x.2 = v
noncomputable def Hit1 (c : Fin 5) (xs : List (Fin 5 × Nat)) (v : Nat) : Prop := ∃ x ∈ xs, (x.1 = c ∨ x.1 = 4) ∧ x.2 = v
theorem Hit1.snoc {c : Fin 5} {xs : List (Fin 5 × Nat)} {x : Fin 5 × Nat} {v : Nat} : Hit1 c (xs ++ [x]) v ↔ Hit1 c xs v ∨ ((x.1 = c ∨ x.1 = 4) ∧ x.2 = v) := by
  constructor
  · rintro ⟨y, hy, h⟩
    rcases List.mem_append.mp hy with hy | hy
    · exact .inl ⟨y, hy, h⟩
    · rw [List.mem_singleton.mp hy] at h; exact .inr h
  · rintro (⟨y, hy, h⟩ | h)
    · exact ⟨y, List.mem_append_left _ hy, h⟩
    · exact ⟨x, List.mem_append_right _ List.mem_cons_self, h⟩
theorem Hit.snoc {es : Eds} {c : Fin 5} {us : List Nat} {u v : Nat} : Hit es c (us ++ [u]) v ↔ Hit es c us v ∨ Hit1 c (rowOf es u) v := by
  constructor
  · rintro ⟨y, hy, h⟩
    rcases List.mem_append.mp hy with hy | hy
    · exact .inl ⟨y, hy, h⟩
    · rw [List.mem_singleton.mp hy] at h; exact .inr h
  · rintro (⟨y, hy, h⟩ | h)
    · exact ⟨y, List.mem_append_left _ hy, h⟩
    · exact ⟨u, List.mem_append_right _ List.mem_cons_self, h⟩
theorem take_snoc {α : Type} {l : List α} {j : Nat} {a : α} (h : l[j]? = some a) : l.take (j + 1) = l.take j ++ [a] := by rw [List.take_add_one, h]; rfl
inductive StI (es : Eds) (ss : List Nat) (c : Fin 5) (j : Nat) : St → Prop
  | mk (T : List Nat) (x4 x5 : Option (PyData × Nat)) : T.Nodup → (∀ v, v ∈ T ↔ Hit es c (ss.take j) v) → StI es ss c j [some (esE es, 0), some (lE iN ss, 0), some (lbE c, 0), some (lE iN T, 1), x4, x5]
inductive SuI (es : Eds) (ss : List Nat) (c : Fin 5) (T : List Nat) (u i : Nat) : St → Prop
  | mk (T' : List Nat) (x5 : Option (PyData × Nat)) : T'.Nodup → (∀ v, v ∈ T' ↔ v ∈ T ∨ Hit1 c ((rowOf es u).take i) v) → SuI es ss c T u i [some (esE es, 0), some (lE iN ss, 0), some (lbE c, 0), some (lE iN T', 1), some (iN u, 0), x5]
theorem step_ok {es : Eds} {N : Nat} (E : EsOk es N) {ss : List Nat} (hs : ∀ u ∈ ss, u < N) (c : Fin 5) :
    ∃ l, stepF [esE es, lE iN ss, lbE c] = some (lE iN l) ∧ l.Pairwise (· < ·) ∧ ∀ v, v ∈ l ↔ ∃ u ∈ ss, ∃ x ∈ rowOf es u, (x.1 = c ∨ x.1 = 4) ∧ x.2 = v := by
  have h60 := E.small
  suffices main : ∃ v, stepF [esE es, lE iN ss, lbE c] = some v ∧ ∃ l, v = lE iN l ∧ l.Pairwise (· < ·) ∧ ∀ v, v ∈ l ↔ Hit es c ss v by
    obtain ⟨v, e, l, rfl, h⟩ := main
    exact ⟨l, e, h⟩
  refine fnX_ex rfl ?_
  unfold g2step
  refine wp_seq (wp_asg3 (d := lE iN []) rfl ?_)
  have hlt : ∀ {us v}, Hit es c us v → v < N := fun ⟨u, _, x, hx, _, e⟩ => e ▸ E.tgt u x hx
  refine wp_cut (StI es ss c ss.length) ?_ ?_
  · refine wp_it (en := iN) (l := ss) (k := 0) (StI es ss c) rfl rfl (.mk [] none none List.nodup_nil (fun v => ⟨fun h => (nomatch h), fun ⟨u, h, _⟩ => (nomatch h)⟩)) ?_ (fun _ h => h)
    rintro j σ u hu ⟨T, x4, x5, hnd, hm⟩
    refine wp_seq (wp_it (en := edE) (l := rowOf es u) (k := 0) (SuI es ss c T u) (sub_e (en := lE edE) (j := u) (k := 0) (k' := 0) rfl rfl (by decide) (rowOf_get (by rw [E.len]; exact hs u (List.mem_of_getElem? hu)))) rfl (.mk T x5 hnd (fun v => ⟨.inl, fun h => h.elim id fun ⟨x, h, _⟩ => (nomatch h)⟩)) ?_ ?_)
    · rintro i σ x hx ⟨T', x5, hnd', hm'⟩
      have hT' : T'.length < 1000000 := Nat.lt_of_le_of_lt (lt_len hnd' fun v hv => ((hm' v).mp hv).elim (fun h => hlt ((hm v).mp h)) fun ⟨y, hy, _, e⟩ => e ▸ E.tgt u y (List.mem_of_mem_take hy)) (Nat.lt_of_le_of_lt h60 (by decide))
      refine wp_seq (wp_if (and_t (or_t (tr_b (eq_t enc_lb (by decide) (a := x.1) (b := c) (k := 0) (k' := 0) (ed0 (k := 0) rfl (by decide)) rfl)) fun _ => tr_b (eq_t enc_lb (by decide) (a := x.1) (b := 4) (k := 0) (k' := 0) (ed0 (k := 0) rfl (by decide)) rfl)) fun _ => tr_b (in_f enc_n (by decide) (a := x.2) (l := T') (ed1 (k := 0) rfl (by decide)) rfl)) (fun hb => ?_) (fun hb => ?_))
      · rw [Bool.and_eq_true, Bool.or_eq_true] at hb
        have h1 : x.1 = c ∨ x.1 = 4 := hb.1.imp of_decide_eq_true of_decide_eq_true
        refine wp_seq (wp_appE (en := iN) (a := x.2) (k := 0) rfl (ed1 (k := 0) rfl (by decide)) rfl hT' (wp_skip (wp_skip (.mk (T' ++ [x.2]) _ (nodup_snoc hnd' (by simpa using hb.2)) (fun v => ?_)))))
        rw [List.mem_append, hm', List.mem_singleton, take_snoc hx, Hit1.snoc, or_assoc]
        exact or_congr Iff.rfl (or_congr Iff.rfl ⟨fun e => ⟨h1, e.symm⟩, fun e => e.2.symm⟩)
      · refine wp_skip (wp_skip (.mk T' _ hnd' (fun v => ?_)))
        rw [take_snoc hx, Hit1.snoc, ← or_assoc, ← hm']
        refine ⟨.inl, fun h => h.elim id fun ⟨h, e⟩ => ?_⟩
        rw [Bool.and_eq_false_iff, Bool.or_eq_false_iff] at hb
        rcases hb with hb | hb
        · exact h.elim (fun h => absurd h (of_decide_eq_false hb.1)) (fun h => absurd h (of_decide_eq_false hb.2))
        · rw [← e]; simpa using hb
    · rintro σ ⟨T', x5, hnd', hm'⟩
      exact wp_skip (.mk T' _ x5 hnd' (fun v => by rw [hm', hm, List.take_length, take_snoc hu, Hit.snoc]))
  · rintro σ ⟨T, x4, x5, hnd, hm⟩
    rw [List.take_length] at hm
    have hTl : ∀ v ∈ T, v < N := fun v hv => hlt ((hm v).mp hv)
    have hmem : ∀ x, x ∈ (List.range N).filter (fun x => decide (x ∈ T)) ↔ x ∈ T := fun x => by
      rw [List.mem_filter, List.mem_range, decide_eq_true_iff]
      exact ⟨fun h => h.2, fun h => ⟨hTl x h, h⟩⟩
    have hmp : ((List.range N).filter (fun x => decide (x ∈ T))).Pairwise (· < ·) := List.pairwise_lt_range.filter _
    exact wp_seq (wp_ret (k := 3) (sort_n (k := 0) (l := T) rfl (Nat.lt_of_le_of_lt (lt_len hnd hTl) (Nat.lt_of_le_of_lt h60 (by decide))) hnd hmp hmem) rfl ⟨_, rfl, hmp, fun v => by rw [hmem, hm]⟩)
end Mine

set_option Elab.async false
set_option linter.unusedVariables false
set_option linter.unusedSectionVars false
set_option autoImplicit false
set_option maxRecDepth 10000
open PySem
namespace Mine
namespace Re
noncomputable def lab (n : Nat) : Fin 5 := if n = 0 then 1 else if n = 1 then 2 else if n = 2 then 3 else 4
theorem lab_ne (n : Nat) : lab n ≠ 0 := by
  unfold lab
  split
  · decide
  · split
    · decide
    · split <;> decide
noncomputable def lvs : Re → Nat → List (Nat × Fin 5)
  | sym n, lo => [(lo, lab n)]
  | eps, _ => []
  | cat l r, lo => lvs l lo ++ lvs r (lo + sz l)
  | alt l r, lo => lvs l lo ++ lvs r (lo + sz l)
  | rep _ i, lo => lvs i lo
theorem lvs_len (t : Re) : ∀ lo : Nat, (lvs t lo).length = nl t := by
  induction t with
  | sym _ => exact fun _ => rfl
  | eps => exact fun _ => rfl
  | cat l r il ir => exact fun lo => (List.length_append).trans (by rw [il, ir]; rfl)
  | alt l r il ir => exact fun lo => (List.length_append).trans (by rw [il, ir]; rfl)
  | rep _ i ii => exact ii
theorem lvs_in' {t : Re} : ∀ {lo : Nat} {x : Nat × Fin 5}, x ∈ lvs t lo → (lo ≤ x.1 ∧ x.1 < lo + sz t) ∧ (lo ≤ x.1 + 1 ∧ x.1 + 1 < lo + sz t) ∧ x.2 ≠ 0 := by
  induction t with
  | sym n => intro lo x h; rw [List.mem_singleton.mp (show x ∈ [(lo, lab n)] from h)]; exact ⟨in_0 _ 0, in_1 _ 0, lab_ne n⟩
  | eps => intro lo x h; exact (List.not_mem_nil (show x ∈ [] from h)).elim
  | cat l r il ir =>
    intro lo x h
    rcases List.mem_append.mp (show x ∈ lvs l lo ++ lvs r (lo + sz l) from h) with h | h
    · exact ⟨in_l (il h).1, in_l (il h).2.1, (il h).2.2⟩
    · exact ⟨in_r (ir h).1, in_r (ir h).2.1, (ir h).2.2⟩
  | alt l r il ir =>
    intro lo x h
    rcases List.mem_append.mp (show x ∈ lvs l lo ++ lvs r (lo + sz l) from h) with h | h
    · exact ⟨in_l (in_l (il h).1), in_l (in_l (il h).2.1), (il h).2.2⟩
    · exact ⟨in_l (in_r (ir h).1), in_l (in_r (ir h).2.1), (ir h).2.2⟩
  | rep _ i ii => exact fun h => ⟨in_l (ii h).1, in_l (ii h).2.1, (ii h).2.2⟩
theorem lvs_in {t : Re} {lo : Nat} {x : Nat × Fin 5} (h : x ∈ lvs t lo) : lo ≤ x.1 ∧ x.1 + 1 < lo + sz t ∧ x.2 ≠ 0 := ⟨(lvs_in' h).1.1, (lvs_in' h).2.1.2, (lvs_in' h).2.2⟩
theorem lvs_lt {l r : Re} {lo : Nat} (a : Nat × Fin 5) (ha : a ∈ lvs l lo) (b : Nat × Fin 5) (hb : b ∈ lvs r (lo + sz l)) : a.1 < b.1 := Nat.lt_of_lt_of_le (lvs_in' ha).1.2 (lvs_in' hb).1.1
theorem lvs_sort (t : Re) : ∀ lo : Nat, (lvs t lo).Pairwise (fun a b => a.1 < b.1) := by
  induction t with
  | sym _ => exact fun lo => List.pairwise_singleton _ _
  | eps => exact fun lo => List.Pairwise.nil
  | cat l r il ir => exact fun lo => List.pairwise_append.mpr ⟨il lo, ir _, lvs_lt⟩
  | alt l r il ir => exact fun lo => List.pairwise_append.mpr ⟨il lo, ir _, lvs_lt⟩
  | rep _ i ii => exact ii
theorem app_get {α : Type} {A B : List α} {n klo k : Nat} {x : α} (hA : A.length = n) : (klo ≤ k ∧ (A ++ B)[k - klo]? = some x) ↔ (klo ≤ k ∧ A[k - klo]? = some x) ∨ (klo + n ≤ k ∧ B[k - (klo + n)]? = some x) := by
  rw [List.getElem?_append]
  subst hA
  split
  · rename_i h
    constructor
    · exact fun h' => .inl h'
    · rintro (h' | h')
      · exact h'
      · omega
  · rename_i h
    rw [Nat.sub_sub]
    constructor
    · rintro ⟨h1, h2⟩; exact .inr ⟨by omega, h2⟩
    · rintro (⟨h1, h2⟩ | ⟨h1, h2⟩)
      · rw [List.getElem?_eq_none (by omega)] at h2; cases h2
      · exact ⟨by omega, h2⟩
theorem Src_lvs : ∀ {t : Re} {lo klo k u : Nat}, Src t lo klo k u ↔ ∃ c, klo ≤ k ∧ (lvs t lo)[k - klo]? = some (u, c)
  | sym n, lo, klo, k, u => by
    simp only [Src, lvs]
    constructor
    · rintro ⟨rfl, rfl⟩; exact ⟨lab n, Nat.le_refl _, by simp⟩
    · rintro ⟨c, h1, h2⟩
      have h3 := (List.getElem?_eq_some_iff.mp h2).1
      simp at h3
      have : k = klo := by omega
      subst this
      simp at h2
      exact ⟨rfl, h2.1.symm⟩
  | eps, lo, klo, k, u => by simp [Src, lvs]
  | cat l r, lo, klo, k, u => by
    simp only [Src, lvs, app_get (lvs_len l lo), Src_lvs (t := l), Src_lvs (t := r)]
    constructor
    · rintro (⟨c, h⟩ | ⟨c, h⟩)
      · exact ⟨c, .inl h⟩
      · exact ⟨c, .inr h⟩
    · rintro ⟨c, h | h⟩
      · exact .inl ⟨c, h⟩
      · exact .inr ⟨c, h⟩
  | alt l r, lo, klo, k, u => by
    simp only [Src, lvs, app_get (lvs_len l lo), Src_lvs (t := l), Src_lvs (t := r)]
    constructor
    · rintro (⟨c, h⟩ | ⟨c, h⟩)
      · exact ⟨c, .inl h⟩
      · exact ⟨c, .inr h⟩
    · rintro ⟨c, h | h⟩
      · exact .inl ⟨c, h⟩
      · exact .inr ⟨c, h⟩
  | rep _ i, lo, klo, k, u => by simp only [Src, lvs]; exact Src_lvs (t := i)
/-! a stack of trees, the top first -/
noncomputable def szs : List Re → Nat
  | [] => 0
  | t :: ts => szs ts + sz t
noncomputable def nls : List Re → Nat
  | [] => 0
  | t :: ts => nls ts + nl t
noncomputable def stk : List Re → List (Nat × Nat)
  | [] => []
  | t :: ts => stk ts ++ [(st t (szs ts), ac t (szs ts))]
noncomputable def EdS : List Re → Nat → Nat → Prop
  | [], _, _ => False
  | t :: ts, u, v => EdS ts u v ∨ Ed t (szs ts) u v
noncomputable def lvsS : List Re → List (Nat × Fin 5)
  | [] => []
  | t :: ts => lvsS ts ++ lvs t (szs ts)
noncomputable def FoS : List Re → Nat → Nat → Prop
  | [], _, _ => False
  | t :: ts, k, j => FoS ts k j ∨ Fo t (nls ts) k j
theorem lvsS_len : ∀ (ts : List Re), (lvsS ts).length = nls ts
  | [] => rfl
  | t :: ts => by simp only [lvsS, nls, List.length_append, lvsS_len ts, lvs_len t]
end Re
/-! items -/
inductive It where
  | sym : Fin 4 → It
  | eps : It
  | cat : It
  | alt : It
  | rep : Fin 3 → It
noncomputable def push : It → List Re → Option (List Re)
  | .sym c, ts => some (.sym c.val :: ts)
  | .eps, ts => some (.eps :: ts)
  | .cat, r :: l :: ts => some (.cat l r :: ts)
  | .alt, r :: l :: ts => some (.alt l r :: ts)
  | .rep k, i :: ts => some (.rep k.val i :: ts)
  | _, _ => none
noncomputable def runI : List It → List Re → Option (List Re)
  | [], ts => some ts
  | i :: is, ts => match push i ts with
    | some ts' => runI is ts'
    | none => none
theorem runI_snoc {i : It} : ∀ {is : List It} {ts ts' : List Re}, runI is ts = some ts' → runI (is ++ [i]) ts = push i ts'
  | [], ts, ts', h => by
    cases h
    show (match push i ts with | some ts' => runI [] ts' | none => none) = _
    cases push i ts <;> rfl
  | a :: is, ts, ts', h => by
    rw [List.cons_append]
    unfold runI at h ⊢
    cases e : push a ts with
    | none => rw [e] at h; cases h
    | some ts1 => rw [e] at h; exact runI_snoc h
/-- the five ways -/
inductive Psh : It → List Re → List Re → Prop
  | sym {c ts} : Psh (.sym c) ts (.sym c.val :: ts)
  | eps {ts} : Psh .eps ts (.eps :: ts)
  | cat {l r ts} : Psh .cat (r :: l :: ts) (.cat l r :: ts)
  | alt {l r ts} : Psh .alt (r :: l :: ts) (.alt l r :: ts)
  | rep {k i ts} : Psh (.rep k) (i :: ts) (.rep k.val i :: ts)
theorem push_psh {i : It} {ts ts' : List Re} (h : push i ts = some ts') : Psh i ts ts' := by
  cases i with
  | sym c => exact Option.some.inj h ▸ .sym
  | eps => exact Option.some.inj h ▸ .eps
  | cat =>
    cases ts with
    | nil => exact nomatch h
    | cons r ts =>
      cases ts with
      | nil => exact nomatch h
      | cons l ts => exact Option.some.inj h ▸ .cat
  | alt =>
    cases ts with
    | nil => exact nomatch h
    | cons r ts =>
      cases ts with
      | nil => exact nomatch h
      | cons l ts => exact Option.some.inj h ▸ .alt
  | rep k =>
    cases ts with
    | nil => exact nomatch h
    | cons r ts => exact Option.some.inj h ▸ .rep
theorem runI_step {i : It} {is : List It} {ts T : List Re} (h : runI (i :: is) ts = some T) : ∃ ts', Psh i ts ts' ∧ runI is ts' = some T := by
  cases e : push i ts with
  | none => unfold runI at h; rw [e] at h; cases h
  | some ts' => unfold runI at h; rw [e] at h; exact ⟨ts', push_psh e, h⟩
theorem Psh.le {i : It} {ts ts' : List Re} (h : Psh i ts ts') : Re.szs ts' ≤ Re.szs ts + 2 ∧ Re.nls ts' ≤ Re.nls ts + 1 := by
  cases h <;> simp only [Re.szs, Re.nls, Re.sz, Re.nl] <;> omega
/-! the edges of a stack -/
theorem row_ap {es : Eds} {u w : Nat} {x : Fin 5 × Nat} (hu : u < es.length) : rowOf (apE es u x) w = if w = u then rowOf es w ++ [x] else rowOf es w := by
  unfold apE
  by_cases h : w = u
  · subst h
    rw [if_pos rfl]
    show (es.set w (rowOf es w ++ [x]))[w]?.getD [] = _
    rw [List.getElem?_set, if_pos rfl, if_pos hu]; rfl
  · rw [if_neg h]
    show (es.set u (rowOf es u ++ [x]))[w]?.getD [] = _
    rw [List.getElem?_set, if_neg (Ne.symm h)]; rfl
theorem ap_len {es : Eds} {u : Nat} {x : Fin 5 × Nat} : (apE es u x).length = es.length := by unfold apE; simp
noncomputable def aps (es : Eds) : List (Nat × (Fin 5 × Nat)) → Eds
  | [] => es
  | y :: L => aps (apE es y.1 y.2) L
theorem aps_app : ∀ {es : Eds} {L M : List (Nat × (Fin 5 × Nat))}, aps es (L ++ M) = aps (aps es L) M
  | es, [], M => rfl
  | es, y :: L, M => aps_app (es := apE es y.1 y.2) (L := L)
theorem aps_len : ∀ {es : Eds} {L : List (Nat × (Fin 5 × Nat))}, (aps es L).length = es.length
  | es, [] => rfl
  | es, y :: L => by rw [aps, aps_len, ap_len]
theorem row_aps : ∀ {es : Eds} {L : List (Nat × (Fin 5 × Nat))} {w : Nat}, (∀ y ∈ L, y.1 < es.length) → rowOf (aps es L) w = rowOf es w ++ (L.filter (fun y => decide (y.1 = w))).map (·.2)
  | es, [], w, h => by simp [aps]
  | es, y :: L, w, h => by
    rw [aps, row_aps (es := apE es y.1 y.2) (L := L) (fun z hz => by rw [ap_len]; exact h z (List.mem_cons_of_mem _ hz)), row_ap (h y List.mem_cons_self), List.filter_cons]
    by_cases e : w = y.1
    · subst e; simp
    · rw [if_neg e, if_neg (by simpa using fun h => e h.symm)]
theorem row_new {es : Eds} {w : Nat} : rowOf (es ++ [[]]) w = rowOf es w := by
  unfold rowOf
  rw [List.getElem?_append]
  split
  · rfl
  · rename_i h
    rw [List.getElem?_eq_none (l := es) (by omega)]
    cases e : w - es.length with
    | zero => rfl
    | succ n => rfl
open Re in
structure TI (ts : List Re) (es : Eds) (m : Nat) : Prop where
  len : es.length = szs ts
  e0 : ∀ u v, (((0 : Fin 5), v) ∈ rowOf es u ↔ EdS ts u v)
  el : ∀ u, (rowOf es u).filter (fun x => decide (x.1 ≠ 0)) = ((lvsS ts).filter (fun x => decide (x.1 = u))).map (fun x => (x.2, u + 1))
  row : ∀ u, (rowOf es u).length ≤ m
open Re in
theorem TI.nil : TI [] [] 0 := ⟨rfl, fun u v => by simp [rowOf, EdS], fun u => by simp [rowOf, lvsS], fun u => by simp [rowOf]⟩
section
open Re
variable {ts ts' : List Re} {es es0 : Eds} {L : List (Nat × (Fin 5 × Nat))} {m n : Nat} {l r i : Re}
theorem TI.adds (T : TI ts es m) (hr : ∀ w, rowOf es0 w = rowOf es w) (hl : es0.length = szs ts') (hL : ∀ y ∈ L, y.1 < szs ts' ∧ y.2.1 = 0) (h4 : L.length ≤ 4) (he : ∀ u v, EdS ts' u v ↔ EdS ts u v ∨ (u, ((0 : Fin 5), v)) ∈ L) (hv : lvsS ts' = lvsS ts) : TI ts' (aps es0 L) (m + 4) := by
  have hrow : ∀ w, rowOf (aps es0 L) w = rowOf es w ++ (L.filter (fun y => decide (y.1 = w))).map (·.2) := fun w => by
    rw [row_aps (fun y hy => by rw [hl]; exact (hL y hy).1), hr]
  refine ⟨by rw [aps_len, hl], fun u v => ?_, fun u => ?_, fun u => ?_⟩
  · rw [hrow, he, List.mem_append, T.e0]
    refine or_congr Iff.rfl ?_
    rw [List.mem_map]
    constructor
    · rintro ⟨⟨a, b⟩, ha, e⟩
      have := List.mem_filter.mp ha
      have h2 := of_decide_eq_true this.2
      subst e; subst h2
      exact this.1
    · intro h
      exact ⟨_, List.mem_filter.mpr ⟨h, by simp⟩, rfl⟩
  · rw [hrow, hv, List.filter_append, T.el u]
    have : List.filter (fun x => decide (x.1 ≠ 0)) ((L.filter (fun y => decide (y.1 = u))).map (·.2)) = [] := by
      rw [List.filter_eq_nil_iff]
      intro x hx
      obtain ⟨y, hy, rfl⟩ := List.mem_map.mp hx
      have := (hL y (List.mem_filter.mp hy).1).2
      simp [this]
    rw [this, List.append_nil]
  · rw [hrow, List.length_append, List.length_map]
    have := T.row u
    have := List.length_filter_le (fun y => decide (y.1 = u)) L
    omega
theorem row_new2 {w : Nat} : rowOf (es ++ [[]] ++ [[]]) w = rowOf es w := by rw [row_new, row_new]
theorem TI.sym (T : TI ts es m) : TI (sym n :: ts) (apE (es ++ [[]] ++ [[]]) (szs ts) (lab n, szs ts + 1)) (m + 4) := by
  have hlen : (es ++ [[]] ++ [[]]).length = szs ts + 2 := by simp [T.len]
  have hrow : ∀ w, rowOf (apE (es ++ [[]] ++ [[]]) (szs ts) (lab n, szs ts + 1)) w = if w = szs ts then rowOf es w ++ [(lab n, szs ts + 1)] else rowOf es w := fun w => by
    rw [row_ap (by omega), row_new2]
  refine ⟨by rw [ap_len, hlen]; rfl, fun u v => ?_, fun u => ?_, fun u => ?_⟩
  · rw [hrow]
    have h1 : EdS (Re.sym n :: ts) u v ↔ EdS ts u v := by simp only [EdS, Ed, or_false]
    rw [h1, ← T.e0]
    split
    · rw [List.mem_append, List.mem_singleton]
      constructor
      · rintro (h | h)
        · exact h
        · exact absurd (congrArg Prod.fst h).symm (lab_ne n)
      · exact .inl
    · exact Iff.rfl
  · rw [hrow]
    have h1 : lvsS (Re.sym n :: ts) = lvsS ts ++ [(szs ts, lab n)] := rfl
    rw [h1, List.filter_append, List.map_append]
    split
    · rename_i h
      subst h
      rw [List.filter_append, T.el]
      simp [lab_ne n]
    · rename_i h
      rw [T.el]
      have : (szs ts = u) = False := eq_false (fun e => h e.symm)
      simp [this]
  · rw [hrow]
    have := T.row u
    split
    · simp; omega
    · omega
theorem TI.eps (T : TI ts es m) : TI (eps :: ts) (apE (es ++ [[]] ++ [[]]) (szs ts) (0, szs ts + 1)) (m + 4) := by
  refine TI.adds (L := [(szs ts, ((0 : Fin 5), szs ts + 1))]) T (fun w => row_new2) (by simp [T.len, szs, sz]) ?_ (by simp) ?_ (by simp [lvsS, lvs])
  · intro y hy
    simp only [List.mem_singleton] at hy; subst hy
    simp [szs, sz]
  · intro u v
    simp [EdS, Ed]
theorem TI.cat (T : TI (r :: l :: ts) es m) : TI (cat l r :: ts) (apE es (ac l (szs ts)) (0, st r (szs ts + sz l))) (m + 4) := by
  have h1 := ac_in l (szs ts)
  refine TI.adds (L := [(ac l (szs ts), ((0 : Fin 5), st r (szs ts + sz l)))]) T (fun w => rfl) (by rw [T.len]; simp only [szs, sz]; omega) ?_ (by simp) ?_ (by simp [lvsS, lvs, szs])
  · intro y hy
    simp only [List.mem_singleton] at hy; subst hy
    simp only [szs, sz]
    exact ⟨by omega, trivial⟩
  · intro u v
    simp only [EdS, Ed, szs, List.mem_singleton, Prod.mk.injEq, true_and, or_assoc]
theorem TI.alt (T : TI (r :: l :: ts) es m) {s : Nat} (hs : s = szs ts + sz l + sz r) : TI (alt l r :: ts) (apE (apE (apE (apE (es ++ [[]] ++ [[]]) s (0, st l (szs ts))) s (0, st r (szs ts + sz l))) (ac l (szs ts)) (0, s + 1)) (ac r (szs ts + sz l)) (0, s + 1)) (m + 4) := by
  have h1 := ac_in l (szs ts)
  have h2 := ac_in r (szs ts + sz l)
  subst hs
  refine TI.adds (L := [(szs ts + sz l + sz r, ((0 : Fin 5), st l (szs ts))), (szs ts + sz l + sz r, (0, st r (szs ts + sz l))), (ac l (szs ts), (0, szs ts + sz l + sz r + 1)), (ac r (szs ts + sz l), (0, szs ts + sz l + sz r + 1))]) T (fun w => row_new2) (by simp only [List.length_append, T.len, szs, sz, List.length_singleton]; omega) ?_ (by simp) ?_ (by simp [lvsS, lvs, szs])
  · intro y hy
    simp only [List.mem_cons, List.not_mem_nil, or_false] at hy
    simp only [szs, sz]
    rcases hy with rfl | rfl | rfl | rfl <;> exact ⟨by simp only; omega, rfl⟩
  · intro u v
    simp only [EdS, Ed, szs, List.mem_cons, List.not_mem_nil, or_false, Prod.mk.injEq, true_and, or_assoc]
    refine or_congr Iff.rfl (or_congr Iff.rfl (or_congr Iff.rfl ?_))
    constructor
    · rintro (⟨h, h' | h'⟩ | ⟨h | h, h'⟩)
      · exact .inl ⟨h, h'⟩
      · exact .inr (.inl ⟨h, h'⟩)
      · exact .inr (.inr (.inl ⟨h, h'⟩))
      · exact .inr (.inr (.inr ⟨h, h'⟩))
    · rintro (⟨h, h'⟩ | ⟨h, h'⟩ | ⟨h, h'⟩ | ⟨h, h'⟩)
      · exact .inl ⟨h, .inl h'⟩
      · exact .inl ⟨h, .inr h'⟩
      · exact .inr ⟨.inl h, h'⟩
      · exact .inr ⟨.inr h, h'⟩
noncomputable def repL (kd s a z : Nat) : List (Nat × (Fin 5 × Nat)) := [(s, (0, a))] ++ (if kd ≠ 1 then [(s, ((0 : Fin 5), s + 1))] else []) ++ (if kd ≠ 2 then [(z, ((0 : Fin 5), a))] else []) ++ [(z, (0, s + 1))]
theorem TI.rep (T : TI (i :: ts) es m) {s kd : Nat} (hs : s = szs ts + sz i) : TI (rep kd i :: ts) (aps (es ++ [[]] ++ [[]]) (repL kd s (st i (szs ts)) (ac i (szs ts)))) (m + 4) := by
  have h1 := ac_in i (szs ts)
  subst hs
  have hm : ∀ y, y ∈ repL kd (szs ts + sz i) (st i (szs ts)) (ac i (szs ts)) ↔ y = (szs ts + sz i, ((0 : Fin 5), st i (szs ts))) ∨ (kd ≠ 1 ∧ y = (szs ts + sz i, ((0 : Fin 5), szs ts + sz i + 1))) ∨ (kd ≠ 2 ∧ y = (ac i (szs ts), ((0 : Fin 5), st i (szs ts)))) ∨ y = (ac i (szs ts), ((0 : Fin 5), szs ts + sz i + 1)) := fun y => by
    unfold repL
    by_cases q1 : kd = 1 <;> by_cases q2 : kd = 2 <;> simp [q1, q2]
  refine TI.adds T (fun w => row_new2) (by simp only [List.length_append, T.len, szs, sz, List.length_singleton]; omega) ?_ ?_ ?_ (by simp [lvsS, lvs])
  · intro y hy
    rw [hm] at hy
    simp only [szs, sz]
    rcases hy with rfl | ⟨_, rfl⟩ | ⟨_, rfl⟩ | rfl <;> exact ⟨by simp only; omega, rfl⟩
  · unfold repL
    by_cases q1 : kd = 1 <;> by_cases q2 : kd = 2 <;> simp [q1, q2]
  · intro u v
    rw [hm]
    simp only [EdS, Ed, Prod.mk.injEq, true_and, or_assoc]
end
/-! lists by key -/
theorem fil_split {α : Type} {f : α → Nat} {N : Nat} : ∀ {l : List α}, l.Pairwise (fun a b => f a < f b) → l.filter (fun x => decide (f x < N)) ++ l.filter (fun x => decide (f x = N)) = l.filter (fun x => decide (f x < N + 1))
  | [], _ => rfl
  | a :: l, h => by
    obtain ⟨h1, h2⟩ := List.pairwise_cons.mp h
    have ih := fil_split (N := N) h2
    rcases Nat.lt_trichotomy (f a) N with q | q | q
    · rw [List.filter_cons_of_pos (by simpa using q), List.filter_cons_of_neg (by simpa using Nat.ne_of_lt q), List.filter_cons_of_pos (by simp; omega), List.cons_append, ih]
    · have e : l.filter (fun x => decide (f x < N)) = [] := by
        rw [List.filter_eq_nil_iff]; intro x hx; have := h1 x hx; simp; omega
      rw [e, List.nil_append] at ih
      rw [List.filter_cons_of_neg (by simp; omega), List.filter_cons_of_pos (by simpa using q), List.filter_cons_of_pos (by simp; omega), e, ih]; rfl
    · rw [List.filter_cons_of_neg (by simp; omega), List.filter_cons_of_neg (by simp; omega), List.filter_cons_of_neg (by simp; omega), ih]
theorem fil_all {α : Type} {f : α → Nat} {l : List α} (h : l.Pairwise (fun a b => f a < f b)) : ∀ N : Nat, (List.range N).flatMap (fun s => l.filter (fun x => decide (f x = s))) = l.filter (fun x => decide (f x < N))
  | 0 => by simp
  | N + 1 => by rw [List.range_succ, List.flatMap_append, fil_all h N, ← fil_split h]; simp
theorem flat_map {α β γ : Type} (f : α → List β) (g : β → γ) : ∀ l : List α, (l.flatMap f).map g = l.flatMap (fun a => (f a).map g)
  | [] => rfl
  | a :: l => by simp [flat_map f g l]
theorem sorted_eq : ∀ {l m : List Nat}, l.Pairwise (· < ·) → m.Pairwise (· < ·) → (∀ x, x ∈ l ↔ x ∈ m) → l = m
  | [], [], _, _, _ => rfl
  | [], b :: m, _, _, h => absurd ((h b).mpr List.mem_cons_self) (by simp)
  | a :: l, [], _, _, h => absurd ((h a).mp List.mem_cons_self) (by simp)
  | a :: l, b :: m, hl, hm, h => by
    obtain ⟨a1, a2⟩ := List.pairwise_cons.mp hl
    obtain ⟨b1, b2⟩ := List.pairwise_cons.mp hm
    have hab : a = b := by
      rcases List.mem_cons.mp ((h a).mp List.mem_cons_self) with e | e
      · exact e
      · rcases List.mem_cons.mp ((h b).mpr List.mem_cons_self) with e' | e'
        · exact e'.symm
        · have := b1 a e; have := a1 b e'; omega
    subst hab
    refine congrArg _ (sorted_eq a2 b2 fun x => ?_)
    constructor
    · intro hx
      rcases List.mem_cons.mp ((h x).mp (List.mem_cons_of_mem _ hx)) with e | e
      · have := a1 x hx; omega
      · exact e
    · intro hx
      rcases List.mem_cons.mp ((h x).mpr (List.mem_cons_of_mem _ hx)) with e | e
      · have := b1 x hx; omega
      · exact e
end Mine

set_option Elab.async false
set_option linter.unusedVariables false
set_option linter.unusedSectionVars false
set_option autoImplicit false
set_option maxRecDepth 10000
open PySem
namespace Mine
abbrev Ent := Bool × List Nat × List Nat
noncomputable def rowN (fol : List (List Nat)) (k : Nat) : List Nat := fol[k]?.getD []
theorem rowN_get {fol : List (List Nat)} {k : Nat} (h : k < fol.length) : fol[k]? = some (rowN fol k) := by
  unfold rowN; rw [List.getElem?_eq_getElem h]; rfl
section
open Re
noncomputable def StkR : List Re → List Ent → Prop
  | [], [] => True
  | t :: ts, e :: es => (e.1 = nu t ∧ (∀ k, k ∈ e.2.1 ↔ Fi t (nls ts) k) ∧ (∀ k, k ∈ e.2.2 ↔ La t (nls ts) k) ∧ e.2.1.length ≤ nl t ∧ e.2.2.length ≤ nl t) ∧ StkR ts es
  | _, _ => False
structure RI (ts : List Re) (fol : List (List Nat)) (es : List Ent) (m : Nat) : Prop where
  len : fol.length = nls ts
  fo : ∀ k j, (j ∈ rowN fol k ↔ FoS ts k j)
  row : ∀ k, (rowN fol k).length ≤ m
  st : StkR ts es
variable {ts : List Re} {fol fol' : List (List Nat)} {es : List Ent} {m m' n : Nat} {l r i : Re} {e el er : Ent}
theorem RI.nil : RI [] [] [] 0 := ⟨rfl, fun k j => by simp [rowN, FoS], fun k => by simp [rowN], trivial⟩
theorem RI.sym (T : RI ts fol es m) : RI (sym n :: ts) (fol ++ [[]]) ((false, [nls ts], [nls ts]) :: es) m := by
  have hrow : ∀ k, rowN (fol ++ [[]]) k = rowN fol k := fun k => by
    unfold rowN
    rw [List.getElem?_append]
    split
    · rfl
    · rename_i h
      rw [List.getElem?_eq_none (l := fol) (by omega)]
      cases e : k - fol.length with
      | zero => rfl
      | succ n => rfl
  refine ⟨by simp [T.len, nls, nl], fun k j => ?_, fun k => by rw [hrow]; exact T.row k, ⟨rfl, fun k => ?_, fun k => ?_, ?_, ?_⟩, T.st⟩
  · rw [hrow, T.fo]; simp only [FoS, Fo, or_false]
  · simp only [Fi, List.mem_singleton]
  · simp only [La, List.mem_singleton]
  · simp [nl]
  · simp [nl]
theorem RI.eps (T : RI ts fol es m) : RI (eps :: ts) fol ((true, [], []) :: es) m := by
  refine ⟨by rw [T.len]; rfl, fun k j => ?_, T.row, ⟨rfl, fun k => ?_, fun k => ?_, ?_, ?_⟩, T.st⟩
  · rw [T.fo]; simp only [FoS, Fo, or_false]
  · simp [Fi]
  · simp [La]
  · simp
  · simp
theorem RI.alt (T : RI (r :: l :: ts) fol (er :: el :: es) m) : RI (alt l r :: ts) fol ((el.1 || er.1, el.2.1 ++ er.2.1, el.2.2 ++ er.2.2) :: es) m := by
  obtain ⟨⟨r1, r2, r3, r4, r5⟩, ⟨l1, l2, l3, l4, l5⟩, hs⟩ := T.st
  refine ⟨by rw [T.len]; simp only [nls, nl]; omega, fun k j => ?_, T.row, ⟨by rw [r1, l1]; rfl, fun k => ?_, fun k => ?_, ?_, ?_⟩, hs⟩
  · rw [T.fo]; simp only [FoS, Fo, nls, or_assoc]
  · rw [List.mem_append, l2, r2]; simp only [Fi, nls]
  · rw [List.mem_append, l3, r3]; simp only [La, nls]
  · simp only [List.length_append, nl]; omega
  · simp only [List.length_append, nl]; omega
theorem RI.cat (T : RI (r :: l :: ts) fol (er :: el :: es) m) (hl : fol'.length = fol.length) (hf : ∀ k v, v ∈ rowN fol' k ↔ v ∈ rowN fol k ∨ (k ∈ el.2.2 ∧ v ∈ er.2.1)) (hm : ∀ k, (rowN fol' k).length ≤ m') :
    RI (cat l r :: ts) fol' ((el.1 && er.1, (if el.1 = true then el.2.1 ++ er.2.1 else el.2.1), (if er.1 = true then el.2.2 ++ er.2.2 else er.2.2)) :: es) m' := by
  obtain ⟨⟨r1, r2, r3, r4, r5⟩, ⟨l1, l2, l3, l4, l5⟩, hs⟩ := T.st
  refine ⟨by rw [hl, T.len]; simp only [nls, nl]; omega, fun k j => ?_, hm, ⟨by rw [r1, l1]; rfl, fun k => ?_, fun k => ?_, ?_, ?_⟩, hs⟩
  · rw [hf, T.fo, l3, r2]; simp only [FoS, Fo, nls, or_assoc]
  · simp only [Fi]
    rw [l1]
    split
    · rename_i h; rw [List.mem_append, l2, r2]; simp only [nls, h, true_and]
    · rename_i h; rw [l2]; simp only [h, Bool.false_eq_true, false_and, or_false]
  · simp only [La]
    rw [r1]
    split
    · rename_i h; rw [List.mem_append, l3, r3]; simp only [nls, h, true_and]
    · rename_i h; rw [r3]; simp only [nls, h, Bool.false_eq_true, false_and, false_or]
  · simp only [nl]
    split
    · simp only [List.length_append]; omega
    · omega
  · simp only [nl]
    split
    · simp only [List.length_append]; omega
    · omega
theorem RI.rep {kd : Nat} (T : RI (i :: ts) fol (e :: es) m) (hl : fol'.length = fol.length) (hf : ∀ k v, v ∈ rowN fol' k ↔ v ∈ rowN fol k ∨ (kd ≠ 2 ∧ k ∈ e.2.2 ∧ v ∈ e.2.1)) (hm : ∀ k, (rowN fol' k).length ≤ m') :
    RI (rep kd i :: ts) fol' ((e.1 || decide (kd ≠ 1), e.2.1, e.2.2) :: es) m' := by
  obtain ⟨⟨r1, r2, r3, r4, r5⟩, hs⟩ := T.st
  refine ⟨by rw [hl, T.len]; rfl, fun k j => ?_, hm, ⟨by rw [r1]; rfl, fun k => ?_, fun k => ?_, r4, r5⟩, hs⟩
  · rw [hf, T.fo, r2, r3]; simp only [FoS, Fo, or_assoc]
  · rw [r2]; simp only [Fi]
  · rw [r3]; simp only [La]
/-- a row of follow grows -/
theorem row_grow {k w : Nat} {F : List Nat} (hk : k < fol.length) : rowN (fol.set k (rowN fol k ++ F)) w = if w = k then rowN fol w ++ F else rowN fol w := by
  by_cases h : w = k
  · subst h
    rw [if_pos rfl]
    show (fol.set w (rowN fol w ++ F))[w]?.getD [] = _
    rw [List.getElem?_set, if_pos rfl, if_pos hk]; rfl
  · rw [if_neg h]
    show (fol.set k (rowN fol k ++ F))[w]?.getD [] = _
    rw [List.getElem?_set, if_neg (Ne.symm h)]; rfl
/-! one tree: what the edges show -/
variable {t : Re} {ed : Eds}
theorem TI.ee (T : TI [t] ed m) (u v : Nat) : Ee ed u v ↔ Ed t 0 u v := by
  unfold Ee; rw [T.e0]; simp only [EdS, szs, false_or]
theorem TI.lb (T : TI [t] ed m) {u v : Nat} {c : Fin 5} (hc : c ≠ 0) : (c, v) ∈ rowOf ed u ↔ (u, c) ∈ lvs t 0 ∧ v = u + 1 := by
  have h := T.el u
  have h1 : lvsS [t] = lvs t 0 := by simp [lvsS, szs]
  rw [h1] at h
  have h2 : (c, v) ∈ rowOf ed u ↔ (c, v) ∈ (rowOf ed u).filter (fun x => decide (x.1 ≠ 0)) := by
    rw [List.mem_filter]; simp [hc]
  rw [h2, h, List.mem_map]
  constructor
  · rintro ⟨⟨a, b⟩, ha, e⟩
    have := List.mem_filter.mp ha
    have h3 : a = u := of_decide_eq_true this.2
    subst h3
    injection e with e1 e2
    simp only at e1
    subst e1
    exact ⟨this.1, e2.symm⟩
  · rintro ⟨h3, rfl⟩
    exact ⟨(u, c), List.mem_filter.mpr ⟨h3, by simp⟩, rfl⟩
theorem TI.ok (T : TI [t] ed m) (hm : m ≤ 1000) (ht : sz t ≤ 60) : EsOk ed (sz t) := by
  refine ⟨by rw [T.len]; simp [szs], ht, fun u x hx => ?_, fun u => Nat.le_trans (T.row u) hm⟩
  obtain ⟨c, v⟩ := x
  by_cases hc : c = 0
  · subst hc
    have := Ed_in ((T.ee u v).mp hx)
    omega
  · have := (T.lb hc).mp hx
    have h2 := lvs_in this.1
    simp only at h2 ⊢
    omega
theorem TI.flat (T : TI [t] ed m) : (List.range (sz t)).flatMap (fun s => ((rowOf ed s).filter (fun x => decide (x.1 ≠ 0))).map (fun x => (s, x.1, x.2))) = (lvs t 0).map (fun x => (x.1, x.2, x.1 + 1)) := by
  have h1 : lvsS [t] = lvs t 0 := by simp [lvsS, szs]
  have h2 : (fun s => ((rowOf ed s).filter (fun x => decide (x.1 ≠ 0))).map (fun x => (s, x.1, x.2))) = fun s => ((lvs t 0).filter (fun x => decide (x.1 = s))).map (fun x => (x.1, x.2, x.1 + 1)) := by
    funext s
    rw [T.el s, h1, List.map_map]
    refine List.map_congr_left fun x hx => ?_
    have := of_decide_eq_true (List.mem_filter.mp hx).2
    subst this; rfl
  rw [h2, ← flat_map, fil_all (lvs_sort t 0)]
  refine congrArg _ (List.filter_eq_self.mpr fun x hx => ?_)
  have := lvs_in hx
  simp; omega
end
end Mine

set_option Elab.async false
set_option linter.unusedVariables false
set_option linter.unusedSectionVars false
set_option autoImplicit false
set_option maxRecDepth 10000
open PySem
namespace Mine
/-! kinds and items as data -/
noncomputable def kn (k : Fin 8) : Str := match k with
  | 0 => Str.ofString "chr"
  | 1 => Str.ofString "any"
  | 2 => Str.ofString "eps"
  | 3 => Str.ofString "cat"
  | 4 => Str.ofString "alt"
  | 5 => Str.ofString "star"
  | 6 => Str.ofString "plus"
  | 7 => Str.ofString "opt"
noncomputable def kE (k : Fin 8) : PyData := .str (kn k)
theorem enc_k : Enc kE 0 := ⟨by decide +kernel, fun _ => Nat.le_refl _⟩
noncomputable def kd : It → Fin 8
  | .sym c => if c = 3 then 1 else 0
  | .eps => 2
  | .cat => 3
  | .alt => 4
  | .rep k => if k = 0 then 5 else if k = 1 then 6 else 7
noncomputable def sg : It → Fin 5
  | .sym c => if c = 3 then 0 else if c = 0 then 1 else if c = 1 then 2 else 3
  | _ => 0
noncomputable def itE (i : It) : PyData := .tuple [kE (kd i), lbE (sg i)]
theorem it0 {σ : St} {f : XE} {k : Nat} {x : It} (e : f σ = some (itE x, k)) (hk : k ≠ 2) : subX f (kX (PyData.int 0)) σ = some (kE (kd x), 0) := sub_t (j := 0) (k' := 0) e rfl hk rfl
theorem it1 {σ : St} {f : XE} {k : Nat} {x : It} (e : f σ = some (itE x, k)) (hk : k ≠ 2) : subX f (kX (PyData.int 1)) σ = some (lbE (sg x), 0) := sub_t (j := 1) (k' := 0) e rfl hk rfl
noncomputable def lvIts : List It := [.sym 0, .sym 1, .sym 3, .sym 0, .eps, .sym 2]
noncomputable def opIts : List It := [.rep 0, .rep 1, .rep 2, .cat, .alt, .cat]
theorem lv_ok {j : Nat} (h : j < 6) : ∃ i, lvIts[j]? = some i ∧ ∀ ts, ∃ t, push i ts = some (t :: ts) := by
  match j, h with
  | 0, _ | 1, _ | 2, _ | 3, _ | 4, _ | 5, _ => exact ⟨_, rfl, fun ts => ⟨_, rfl⟩⟩
theorem op1_ok {j : Nat} (h : j < 3) : ∃ i, opIts[j]? = some i ∧ sg i = 0 ∧ ∀ t ts, ∃ t', push i (t :: ts) = some (t' :: ts) := by
  match j, h with
  | 0, _ | 1, _ | 2, _ => exact ⟨_, rfl, rfl, fun t ts => ⟨_, rfl⟩⟩
theorem op2_ok {j : Nat} (h : 3 ≤ j) (h' : j < 6) : ∃ i, opIts[j]? = some i ∧ sg i = 0 ∧ ∀ r l ts, ∃ t', push i (r :: l :: ts) = some (t' :: ts) := by
  match j, h, h' with
  | 3, _, _ | 4, _, _ | 5, _, _ => exact ⟨_, rfl, rfl, fun r l ts => ⟨_, rfl⟩⟩
theorem cell2_ok (ns : List Int) (i : Nat) : cell2F [lE PyData.int ns, iN i] = some (.int (ns[i]?.getD 0)) := by
  refine fnX_of rfl ?_
  unfold g2cell
  refine wp_seq (wp_if (tr_b (c2_n (a := (i : Int)) (b := (ns.length : Int)) rfl (len_e (en := PyData.int) rfl))) (fun hb => ?_) (fun hb => ?_))
  · have hb := of_decide_eq_true hb
    have hi : i < ns.length := by omega
    refine wp_seq (wp_ret (k := 0) (sub_e (en := PyData.int) (j := i) (k := 0) (k' := 0) rfl rfl (by decide) (List.getElem?_eq_getElem hi)) rfl ?_)
    rw [List.getElem?_eq_getElem hi]; rfl
  · have hb := of_decide_eq_false hb
    refine wp_skip (wp_seq (wp_ret (k := 0) rfl rfl ?_))
    rw [List.getElem?_eq_none (by omega)]; rfl
theorem cell2 {ns : List Int} {σ : St} {f g : XE} {k k' i : Nat} (e1 : f σ = some (lE PyData.int ns, k)) (h1 : (k == 0 || k == 3) = true) (e2 : g σ = some (iN i, k')) (h2 : (k' == 0 || k' == 3) = true) : callX cell2F [f, g] σ = some (.int (ns[i]?.getD 0), 0) :=
  call_x (ar_cons e1 h1 (ar_cons e2 h2 ar_nil)) (cell2_ok ns _)
/-- an operator's item, as the code writes it -/
theorem op_x {σ : St} {f g : XE} {k k' j : Nat} {i : It} (e1 : f σ = some (kindsD, k)) (e2 : g σ = some (iN j, k')) (hk : k ≠ 2) (h : opIts[j]? = some i) (hs : sg i = 0) : tupX [subX f g, kX (PyData.str (Str.ofString ""))] σ = some (itE i, 0) := by
  have e3 : f σ = some (.tuple (opIts.map fun i => kE (kd i)), k) := e1
  have := tup_x (ar_cons (k := 0) (sub_tl (en := fun i => kE (kd i)) e3 e2 hk h) rfl (ar_cons (k := 0) (f := kX (PyData.str (Str.ofString ""))) (d := lbE 0) rfl rfl ar_nil)) (by show 2 ≤ 1000; decide)
  rw [this]; unfold itE; rw [hs]
theorem ne_nil2 {ts : List Re} (h : 1 < ts.length) : ∃ r l ts', ts = r :: l :: ts' := by
  match ts, h with
  | r :: l :: ts', _ => exact ⟨r, l, ts', rfl⟩
theorem ne_nil1 {ts : List Re} (h : 0 < ts.length) : ∃ t ts', ts = t :: ts' := by
  match ts, h with
  | t :: ts', _ => exact ⟨t, ts', rfl⟩
noncomputable def postB : XS := (seqX (asgX 5 [] (i2X (fun a b => if b = 0 then none else some (a.fmod b)) (callX cell2F [vX 0, addX (kX (PyData.int 2)) (vX 4)]) (kX (PyData.int 12)))) (seqX (ifX (orT (trX (eqX true (vX 2) (kX (PyData.int 0)))) (andT (trX (c2X (fun a b => decide (a < b)) (vX 5) (kX (PyData.int 6)))) (trX (c2X (fun a b => decide (a < b)) (vX 3) (kX (PyData.int 4)))))) (seqX (appX 1 [] (subX (kX leavesD) (i2X (fun a b => if b = 0 then none else some (a.fmod b)) (vX 5) (kX (PyData.int 6))))) (seqX (asgX 2 [] (addX (vX 2) (kX (PyData.int 1)))) (seqX (asgX 3 [] (addX (vX 3) (kX (PyData.int 1)))) skipX))) (seqX (ifX (trX (c2X (fun a b => decide (b < a)) (vX 2) (kX (PyData.int 1)))) (seqX (appX 1 [] (tupX [subX (kX kindsD) (i2X (fun a b => if b = 0 then none else some (a.fmod b)) (vX 5) (kX (PyData.int 6))), kX (PyData.str (Str.ofString ""))])) (seqX (ifX (trX (c2X (fun a b => decide (b < a)) (i2X (fun a b => if b = 0 then none else some (a.fmod b)) (vX 5) (kX (PyData.int 6))) (kX (PyData.int 2)))) (seqX (asgX 2 [] (i2X (fun a b => some (a - b)) (vX 2) (kX (PyData.int 1)))) skipX) skipX) skipX)) (seqX (appX 1 [] (tupX [subX (kX kindsD) (i2X (fun a b => if b = 0 then none else some (a.fmod b)) (vX 5) (kX (PyData.int 3))), kX (PyData.str (Str.ofString ""))])) skipX)) skipX)) skipX))
inductive PoI (ns : List Int) (j : Nat) : St → Prop
  | mk (its : List It) (ts : List Re) (dep lv : Nat) (x4 x5 : Option (PyData × Nat)) : its.length = j → runI its [] = some ts → ts.length = dep → (0 < j → 0 < dep) → dep ≤ j → PoI ns j [some (lE PyData.int ns, 0), some (lE itE its, 1), some (iN dep, 0), some (iN lv, 0), x4, x5]
section
variable {ns : List Int} {its : List It} {i : It} {dep lv j d : Nat} {x5 : Option (PyData × Nat)} {N B C : St → Prop} {R : PyData → Prop}
theorem po_m (m : Nat) (hm : 0 < m) {l : List It} : i2X (fun a b => if b = 0 then none else some (a.fmod b)) (vX 5) (kX (iN m)) [some (lE PyData.int ns, 0), some (lE itE l, 1), some (iN dep, 0), some (iN lv, 0), some (iN j, 0), some (iN d, 0)] = some (iN (d % m), 0) := by
  rw [← md_nat]; exact mod_n (m := m) (k := 0) (k' := 0) rfl rfl hm
theorem po_pre (hd : md (ns[2 + j]?.getD 0) 12 = d) (hl : its.length < 1000)
    (h1 : ∀ i, lvIts[d % 6]? = some i → N [some (lE PyData.int ns, 0), some (lE itE (its ++ [i]), 1), some (iN (dep + 1), 0), some (iN (lv + 1), 0), some (iN j, 0), some (iN d, 0)])
    (h2 : 1 < dep → d % 6 < 3 → ∀ i, opIts[d % 6]? = some i → N [some (lE PyData.int ns, 0), some (lE itE (its ++ [i]), 1), some (iN dep, 0), some (iN lv, 0), some (iN j, 0), some (iN d, 0)])
    (h3 : 1 < dep → 3 ≤ d % 6 → ∀ i, opIts[d % 6]? = some i → N [some (lE PyData.int ns, 0), some (lE itE (its ++ [i]), 1), some (iN (dep - 1), 0), some (iN lv, 0), some (iN j, 0), some (iN d, 0)])
    (h4 : 0 < dep → ∀ i, opIts[d % 3]? = some i → N [some (lE PyData.int ns, 0), some (lE itE (its ++ [i]), 1), some (iN dep, 0), some (iN lv, 0), some (iN j, 0), some (iN d, 0)]) : WP postB [some (lE PyData.int ns, 0), some (lE itE its, 1), some (iN dep, 0), some (iN lv, 0), some (iN j, 0), x5] N B C R := by
  have h6 : d % 6 < 6 := Nat.mod_lt _ (by decide)
  have hl' : its.length < 1000000 := Nat.lt_of_lt_of_le hl (by decide)
  unfold postB
  refine wp_to [some (lE PyData.int ns, 0), some (lE itE its, 1), some (iN dep, 0), some (iN lv, 0), some (iN j, 0), some (iN d, 0)] (wp_asg0 (d := iN d) (by rw [← hd]; exact mod_n (m := 12) (cell2 (i := 2 + j) (k := 0) rfl rfl (ad_n (a := 2) (b := j) (k := 0) (k' := 0) rfl rfl) rfl) (k' := 0) rfl (by decide)) rfl) ?_
  refine wp_seq (wp_if (or_t (tr_b (eq_t enc_n (by decide) (a := dep) (b := 0) rfl rfl)) fun _ => and_t (tr_b (c2_n (a := (d : Int)) (b := 6) rfl rfl)) fun _ => tr_b (c2_n (a := (lv : Int)) (b := 4) rfl rfl)) (fun _ => ?_) (fun hb => ?_))
  · obtain ⟨i, hi, hp⟩ := lv_ok h6
    refine wp_to [some (lE PyData.int ns, 0), some (lE itE (its ++ [i]), 1), some (iN dep, 0), some (iN lv, 0), some (iN j, 0), some (iN d, 0)] (wp_appE (en := itE) (a := i) (k := 0) rfl (sub_tl (en := itE) (l := lvIts) (k := 0) rfl (po_m 6 (by decide)) (by decide) hi) rfl hl' rfl) ?_
    refine wp_to [some (lE PyData.int ns, 0), some (lE itE (its ++ [i]), 1), some (iN (dep + 1), 0), some (iN lv, 0), some (iN j, 0), some (iN d, 0)] (wp_asg0 (d := iN (dep + 1)) (ad_n (k := 0) (k' := 0) rfl rfl) rfl) ?_
    exact wp_seq (wp_asg0 (d := iN (lv + 1)) (ad_n (k := 0) (k' := 0) rfl rfl) (wp_skip (wp_skip (h1 i hi))))
  · have hdep : 0 < dep := Nat.pos_of_ne_zero fun e => by rw [Bool.or_eq_false_iff] at hb; exact of_decide_eq_false hb.1 e
    refine wp_seq (wp_if (tr_b (c2_n (a := (dep : Int)) (b := 1) rfl rfl)) (fun hc => ?_) (fun _ => ?_))
    · have hc : 1 < dep := Int.ofNat_lt.mp (of_decide_eq_true hc)
      have hc2 : ∀ i, c2X (fun a b => decide (b < a)) (i2X (fun a b => if b = 0 then none else some (a.fmod b)) (vX 5) (kX (PyData.int 6))) (kX (PyData.int 2)) [some (lE PyData.int ns, 0), some (lE itE (its ++ [i]), 1), some (iN dep, 0), some (iN lv, 0), some (iN j, 0), some (iN d, 0)] = some (.bool (decide ((2 : Int) < ((d % 6 : Nat) : Int))), 0) := fun i => c2_n (b := 2) (k' := 0) (po_m 6 (by decide)) rfl
      by_cases hq : d % 6 < 3
      · obtain ⟨i, hi, hs, hp⟩ := op1_ok hq
        refine wp_to [some (lE PyData.int ns, 0), some (lE itE (its ++ [i]), 1), some (iN dep, 0), some (iN lv, 0), some (iN j, 0), some (iN d, 0)] (wp_appE (en := itE) (a := i) (k := 0) rfl (op_x (k := 0) rfl (po_m 6 (by decide)) (by decide) hi hs) rfl hl' rfl) ?_
        exact wp_seq (wp_if (tr_b (hc2 i)) (fun hb => absurd hq (Nat.not_lt.mpr (Int.ofNat_lt.mp (of_decide_eq_true hb)))) (fun _ => wp_skip (wp_skip (wp_skip (wp_skip (h2 hc hq i hi))))))
      · have hq := Nat.not_lt.mp hq
        obtain ⟨i, hi, hs, hp⟩ := op2_ok hq h6
        refine wp_to [some (lE PyData.int ns, 0), some (lE itE (its ++ [i]), 1), some (iN dep, 0), some (iN lv, 0), some (iN j, 0), some (iN d, 0)] (wp_appE (en := itE) (a := i) (k := 0) rfl (op_x (k := 0) rfl (po_m 6 (by decide)) (by decide) hi hs) rfl hl' rfl) ?_
        exact wp_seq (wp_if (tr_b (hc2 i)) (fun _ => wp_seq (wp_asg0 (d := iN (dep - 1)) (sub_n (a := dep) (b := 1) (k := 0) (k' := 0) rfl rfl hdep) (wp_skip (wp_skip (wp_skip (wp_skip (h3 hc hq i hi))))))) (fun hb => absurd (Int.ofNat_lt.mpr hq) (of_decide_eq_false hb)))
    · obtain ⟨i, hi, hs, hp⟩ := op1_ok (j := d % 3) (Nat.mod_lt _ (by decide))
      exact wp_seq (wp_appE (en := itE) (a := i) (k := 0) rfl (op_x (k := 0) rfl (po_m 3 (by decide)) (by decide) hi hs) rfl hl' (wp_skip (wp_skip (wp_skip (h4 hdep i hi)))))
end
theorem some_eq {α : Type} {o : Option α} {a b : α} (h : o = some a) (h' : o = some b) : a = b := Option.some.inj (h.symm.trans h')
theorem po_step {ns : List Int} {B C : St → Prop} {R : PyData → Prop} (j : Nat) (hj : j < 1000) (σ : St) (h : PoI ns j σ) : WP postB (σ.set 4 (some (iN j, 0))) (PoI ns (j + 1)) B C R := by
  obtain ⟨its, ts, dep, lv, x4, x5, h1, h2, h3, h4, h5⟩ := h
  have hl : ∀ i, (its ++ [i]).length = j + 1 := fun i => by rw [List.length_append, h1]; rfl
  refine po_pre rfl (by rw [h1]; exact hj) (fun i hi => ?_) (fun hc hq i hi => ?_) (fun hc hq i hi => ?_) (fun hc i hi => ?_)
  · obtain ⟨i', hi', hp⟩ := lv_ok (Nat.mod_lt (md (ns[2 + j]?.getD 0) 12) (by decide : 0 < 6))
    obtain rfl := some_eq hi hi'
    obtain ⟨t, hp⟩ := hp ts
    exact .mk _ (t :: ts) _ _ _ _ (hl i) (by rw [runI_snoc h2, hp]) (congrArg (· + 1) h3) (fun _ => Nat.succ_pos _) (Nat.succ_le_succ h5)
  · obtain ⟨i', hi', hs, hp⟩ := op1_ok hq
    obtain rfl := some_eq hi hi'
    obtain ⟨r, ts, rfl⟩ := ne_nil1 (ts := ts) (by omega)
    obtain ⟨t, hp⟩ := hp r ts
    exact .mk _ (t :: ts) _ _ _ _ (hl i) (by rw [runI_snoc h2, hp]) h3 (fun _ => by omega) (Nat.le_succ_of_le h5)
  · obtain ⟨i', hi', hs, hp⟩ := op2_ok hq (Nat.mod_lt _ (by decide))
    obtain rfl := some_eq hi hi'
    obtain ⟨r, l, ts, rfl⟩ := ne_nil2 (ts := ts) (by omega)
    obtain ⟨t, hp⟩ := hp r l ts
    exact .mk _ (t :: ts) _ _ _ _ (hl i) (by rw [runI_snoc h2, hp]) (by rw [← h3]; rfl) (fun _ => by omega) (by omega)
  · obtain ⟨i', hi', hs, hp⟩ := op1_ok (j := md (ns[2 + j]?.getD 0) 12 % 3) (Nat.mod_lt _ (by decide))
    obtain rfl := some_eq hi hi'
    obtain ⟨r, ts, rfl⟩ := ne_nil1 (ts := ts) (by omega)
    obtain ⟨t, hp⟩ := hp r ts
    exact .mk _ (t :: ts) _ _ _ _ (hl i) (by rw [runI_snoc h2, hp]) h3 (fun _ => hc) (Nat.le_succ_of_le h5)
inductive PqI (ns : List Int) (n dep lv : Nat) (x5 : Option (PyData × Nat)) (j : Nat) : St → Prop
  | mk (its : List It) (ts : List Re) (x4 : Option (PyData × Nat)) : its.length = n + j → runI its [] = some ts → ts.length = dep - j → PqI ns n dep lv x5 j [some (lE PyData.int ns, 0), some (lE itE its, 1), some (iN dep, 0), some (iN lv, 0), x4, x5]
theorem post_ok (ns : List Int) : ∃ its t, postF [lE PyData.int ns] = some (lE itE its) ∧ runI its [] = some [t] ∧ its.length ≤ 15 := by
  suffices main : ∃ v, postF [lE PyData.int ns] = some v ∧ ∃ its t, v = lE itE its ∧ runI its [] = some [t] ∧ its.length ≤ 15 by
    obtain ⟨v, e, its, t, rfl, h⟩ := main
    exact ⟨its, t, e, h⟩
  refine fnX_ex rfl ?_
  unfold g2post
  refine wp_seq (wp_asg3 (d := lE itE []) rfl ?_)
  refine wp_seq (wp_asg0 (d := iN 0) rfl ?_)
  refine wp_to [some (lE PyData.int ns, 0), some (lE itE [], 1), some (iN 0, 0), some (iN 0, 0), none, none] (wp_asg0 (d := iN 0) rfl rfl) ?_
  have hn7 : md (ns[0]?.getD 0) 7 < 7 := md_lt (by decide)
  refine wp_cut (PoI ns (2 + md (ns[0]?.getD 0) 7)) ?_ ?_
  · exact wp_rng (n := 2 + md (ns[0]?.getD 0) 7) (k := 0) (PoI ns) (ad_n (a := 2) (k := 0) rfl (mod_n (m := 7) (cell2 (i := 0) (k := 0) (k' := 0) rfl rfl rfl rfl) (k' := 0) rfl (by decide))) (by omega) (.mk [] [] 0 0 none none rfl rfl rfl (fun h => absurd h (by decide)) (Nat.le_refl _)) (fun j σ hj h => po_step j (by omega) σ h) (fun _ h => h)
  · rintro σ ⟨its, ts, dep, lv, x4, x5, h1, h2, h3, h4, h5⟩
    generalize md (ns[0]?.getD 0) 7 = n0 at *
    have h4 := h4 (by omega)
    refine wp_cut (PqI ns (2 + n0) dep lv x5 (dep - 1)) ?_ ?_
    · refine wp_rng (n := dep - 1) (k := 0) (PqI ns (2 + n0) dep lv x5) (sub_n (a := dep) (b := 1) (k := 0) (k' := 0) rfl rfl h4) (by omega) (.mk its ts x4 h1 h2 h3) ?_ (fun _ h => h)
      rintro j σ hj ⟨its, ts, x4, h1, h2, h3⟩
      obtain ⟨r, l, ts', rfl⟩ := ne_nil2 (ts := ts) (by omega)
      have hm2 : md (ns[10 + j]?.getD 0) 2 < 2 := md_lt (by decide)
      obtain ⟨i, hi, hs, hp⟩ := op2_ok (j := 3 + md (ns[10 + j]?.getD 0) 2) (Nat.le_add_right _ _) (Nat.lt_of_lt_of_le (Nat.add_lt_add_left hm2 3) (by decide))
      obtain ⟨t, hp⟩ := hp r l ts'
      exact wp_seq (wp_appE (en := itE) (a := i) (k := 0) rfl (op_x (k := 0) rfl (ad_n (a := 3) (k := 0) rfl (mod_n (m := 2) (cell2 (i := 10 + j) (k := 0) rfl rfl (ad_n (a := 10) (b := j) (k := 0) (k' := 0) rfl rfl) rfl) (k' := 0) rfl (by decide))) (by decide) hi hs) rfl (by omega) (wp_skip (.mk (its ++ [i]) (t :: ts') _ (by rw [List.length_append, h1]; rfl) (by rw [runI_snoc h2, hp]) (congrArg Nat.pred h3))))
    · rintro σ ⟨its, ts, x4, h1, h2, h3⟩
      obtain ⟨t, ts', rfl⟩ := ne_nil1 (ts := ts) (by omega)
      obtain rfl : ts' = [] := List.length_eq_zero_iff.mp (by rw [List.length_cons] at h3; omega)
      exact wp_seq (wp_ret (k := 0) rfl rfl ⟨its, t, rfl, h2, by omega⟩)
end Mine

set_option Elab.async false
set_option linter.unusedVariables false
set_option linter.unusedSectionVars false
set_option autoImplicit false
set_option maxRecDepth 10000
open PySem
namespace Mine
noncomputable def prE (p : Nat × Nat) : PyData := .tuple [iN p.1, iN p.2]
noncomputable def thomT : XS := (seqX (ifX (trX (inX true (vX 4) (tupX [kX (PyData.str (Str.ofString "chr")), kX (PyData.str (Str.ofString "any")), kX (PyData.str (Str.ofString "eps"))]))) (seqX (asgX 9 [] (subX (vX 3) (kX (PyData.int 1)))) (seqX (ifX (trX (eqX true (vX 4) (kX (PyData.str (Str.ofString "any"))))) (seqX (asgX 9 [] (kX (PyData.str (Str.ofString ".")))) skipX) skipX) (seqX (deepAX 1 [9, 8] (vX 7) (tupX [vX 9, vX 8])) (seqX (appX 2 [7, 8] (tupX [vX 7, vX 8])) skipX)))) (seqX (ifX (trX (eqX true (vX 4) (kX (PyData.str (Str.ofString "alt"))))) (seqX (asgX 5 [] (subX (vX 2) (negX (kX (PyData.int 2))))) (seqX (asgX 6 [] (subX (vX 2) (negX (kX (PyData.int 1))))) (seqX (delX 2 (negX (kX (PyData.int 1)))) (seqX (deepAX 1 [] (vX 7) (tupX [kX (PyData.str (Str.ofString "")), subX (vX 5) (kX (PyData.int 0))])) (seqX (deepAX 1 [] (vX 7) (tupX [kX (PyData.str (Str.ofString "")), subX (vX 6) (kX (PyData.int 0))])) (seqX (deepAX 1 [8] (subX (vX 5) (kX (PyData.int 1))) (tupX [kX (PyData.str (Str.ofString "")), vX 8])) (seqX (deepAX 1 [8] (subX (vX 6) (kX (PyData.int 1))) (tupX [kX (PyData.str (Str.ofString "")), vX 8])) (seqX (setX 2 [7, 8] (tupX [vX 7, vX 8]) (negX (kX (PyData.int 1)))) skipX)))))))) (seqX (asgX 10 [] (subX (vX 2) (negX (kX (PyData.int 1))))) (seqX (deepAX 1 [] (vX 7) (tupX [kX (PyData.str (Str.ofString "")), subX (vX 10) (kX (PyData.int 0))])) (seqX (ifX (trX (eqX false (vX 4) (kX (PyData.str (Str.ofString "plus"))))) (seqX (deepAX 1 [8] (vX 7) (tupX [kX (PyData.str (Str.ofString "")), vX 8])) skipX) skipX) (seqX (ifX (trX (eqX false (vX 4) (kX (PyData.str (Str.ofString "opt"))))) (seqX (deepAX 1 [] (subX (vX 10) (kX (PyData.int 1))) (tupX [kX (PyData.str (Str.ofString "")), subX (vX 10) (kX (PyData.int 0))])) skipX) skipX) (seqX (deepAX 1 [8] (subX (vX 10) (kX (PyData.int 1))) (tupX [kX (PyData.str (Str.ofString "")), vX 8])) (seqX (setX 2 [7, 8] (tupX [vX 7, vX 8]) (negX (kX (PyData.int 1)))) skipX))))))) skipX)) skipX)
noncomputable def thomB : XS := (seqX (asgX 4 [] (subX (vX 3) (kX (PyData.int 0)))) (seqX (ifX (trX (eqX true (vX 4) (kX (PyData.str (Str.ofString "cat"))))) (seqX (asgX 5 [] (subX (vX 2) (negX (kX (PyData.int 2))))) (seqX (asgX 6 [] (subX (vX 2) (negX (kX (PyData.int 1))))) (seqX (delX 2 (negX (kX (PyData.int 1)))) (seqX (deepAX 1 [] (subX (vX 5) (kX (PyData.int 1))) (tupX [kX (PyData.str (Str.ofString "")), subX (vX 6) (kX (PyData.int 0))])) (seqX (setX 2 [] (tupX [subX (vX 5) (kX (PyData.int 0)), subX (vX 6) (kX (PyData.int 1))]) (negX (kX (PyData.int 1)))) (seqX (fun σ => some (Fl.cont, σ)) skipX)))))) skipX) (seqX (asgX 7 [] (lenX (vX 1))) (seqX (asgX 8 [] (addX (vX 7) (kX (PyData.int 1)))) (seqX (deepNX 1) (seqX (deepNX 1) thomT))))))
section
variable {σ : St} {f g : XE} {k k' : Nat}
theorem pr0 {a b : Nat} (e : f σ = some (prE (a, b), k)) (hk : k ≠ 2) : subX f (kX (PyData.int 0)) σ = some (iN a, 0) := sub_t (j := 0) (k' := 0) e rfl hk rfl
theorem pr1 {a b : Nat} (e : f σ = some (prE (a, b), k)) (hk : k ≠ 2) : subX f (kX (PyData.int 1)) σ = some (iN b, 0) := sub_t (j := 1) (k' := 0) e rfl hk rfl
theorem pr_x {a b : Nat} (e1 : f σ = some (iN a, k)) (h1 : (k == 0 || k == 3) = true) (e2 : g σ = some (iN b, k')) (h2 : (k' == 0 || k' == 3) = true) : tupX [f, g] σ = some (prE (a, b), 0) := tup_x (ar_cons e1 h1 (ar_cons e2 h2 ar_nil)) (by show 2 ≤ 1000; decide)
theorem ed_x {c : Fin 5} {b : Nat} (e1 : f σ = some (lbE c, k)) (h1 : (k == 0 || k == 3) = true) (e2 : g σ = some (iN b, k')) (h2 : (k' == 0 || k' == 3) = true) : tupX [f, g] σ = some (edE (c, b), 0) := tup_x (ar_cons e1 h1 (ar_cons e2 h2 ar_nil)) (by show 2 ≤ 1000; decide)
end
structure EB (es : Eds) (n m : Nat) : Prop where
  len : es.length = n
  row : ∀ w, (rowOf es w).length ≤ m
theorem EB.ap {es : Eds} {n m u : Nat} {x : Fin 5 × Nat} (E : EB es n m) (hu : u < n) : EB (apE es u x) n (m + 1) := ⟨ap_len.trans E.len, fun w => by
  rw [row_ap (Nat.lt_of_lt_of_eq hu E.len.symm)]
  split
  · rw [List.length_append]; exact Nat.add_le_add_right (E.row w) 1
  · exact Nat.le_succ_of_le (E.row w)⟩
theorem EB.new {es : Eds} {n m : Nat} (E : EB es n m) : EB (es ++ [[]] ++ [[]]) (n + 2) m := ⟨by rw [List.length_append, List.length_append, E.len]; rfl, fun w => by rw [row_new2]; exact E.row w⟩
theorem stk_len : ∀ ts : List Re, 2 * (Re.stk ts).length ≤ Re.szs ts
  | [] => Nat.le_refl _
  | t :: ts => by
    have := stk_len ts
    have := Re.sz_pos t
    simp only [Re.stk, Re.szs, List.length_append, List.length_singleton]; omega
theorem kd_sym : ∀ c : Fin 4, kd (.sym c) ≠ 3 ∧ kd (.sym c) ∈ ([0, 1, 2] : List (Fin 8)) ∧ (kd (.sym c) = 1 → Re.lab c.val = 4) ∧ (kd (.sym c) ≠ 1 → sg (.sym c) = Re.lab c.val) := by decide
theorem kd_rep : ∀ k : Fin 3, kd (.rep k) ∉ ([0, 1, 2] : List (Fin 8)) ∧ kd (.rep k) ≠ 3 ∧ kd (.rep k) ≠ 4 ∧ (kd (.rep k) = 6 ↔ k.val = 1) ∧ (kd (.rep k) = 7 ↔ k.val = 2) := by decide
section
variable {its : List It} {it : It} {es : Eds} {s n a z b w : Nat} {c : Fin 5} {L : List (Nat × Nat)} {a0 a2 x3 x4 x5 x6 x7 x8 x9 x10 : Option (PyData × Nat)} {N B C : St → Prop} {R : PyData → Prop}
theorem wp_dA {σ : St} {i : Nat} {fz : List Nat} {g f : XE} {u m k k' : Nat} {x : Fin 5 × Nat} (E : EB es n m) (hm : m < 1000000) (e1 : (freezeL fz σ)[i]? = some (some (esE es, 2))) (e2 : g (freezeL fz σ) = some (iN u, k')) (e3 : f (freezeL fz σ) = some (edE x, k)) (hk : (k == 0 || k == 3) = true)
    (hu : u < n) (h : N ((freezeL fz σ).set i (some (esE (apE es u x), 2)))) : WP (deepAX i fz g f) σ N B C R :=
  wp_deepA e1 e2 e3 hk (Nat.lt_of_lt_of_eq hu E.len.symm) (Nat.lt_of_le_of_lt (E.row u) hm) h
theorem th_cat (E : EB es n 100) (hz : z < n) (h : C [a0, some (esE (apE es z (0, b)), 2), some (lE prE (L ++ [(a, w)]), 1), some (itE .cat, 0), some (kE 3, 0), some (prE (a, z), 0), some (prE (b, w), 0), x7, x8, x9, x10]) :
    WP thomB [a0, some (esE (es), 2), some (lE prE (L ++ [(a, z)] ++ [(b, w)]), 1), some (itE .cat, 0), x4, x5, x6, x7, x8, x9, x10] N B C R := by
  unfold thomB
  refine wp_to [a0, some (esE (es), 2), some (lE prE (L ++ [(a, z)] ++ [(b, w)]), 1), some (itE .cat, 0), some (kE 3, 0), x5, x6, x7, x8, x9, x10] (wp_asg0 (d := kE 3) (it0 (x := .cat) (k := 0) rfl (by decide)) rfl) ?_
  refine wp_seq (wp_ifT (tr_b (eq_t enc_k (by decide) (a := 3) (b := 3) rfl rfl)) ?_)
  refine wp_to [a0, some (esE (es), 2), some (lE prE (L ++ [(a, z)] ++ [(b, w)]), 1), some (itE .cat, 0), some (kE 3, 0), some (prE (a, z), 0), x6, x7, x8, x9, x10] (wp_asg0 (d := prE (a, z)) (sub_m2 (en := prE) (k := 1) rfl (by decide)) rfl) ?_
  refine wp_to [a0, some (esE (es), 2), some (lE prE (L ++ [(a, z)] ++ [(b, w)]), 1), some (itE .cat, 0), some (kE 3, 0), some (prE (a, z), 0), some (prE (b, w), 0), x7, x8, x9, x10] (wp_asg0 (d := prE (b, w)) (sub_m1 (en := prE) (k := 1) rfl (by decide)) rfl) ?_
  refine wp_to [a0, some (esE (es), 2), some (lE prE (L ++ [(a, z)]), 1), some (itE .cat, 0), some (kE 3, 0), some (prE (a, z), 0), some (prE (b, w), 0), x7, x8, x9, x10] (wp_delM (en := prE) rfl rfl) ?_
  refine wp_to [a0, some (esE (apE es z (0, b)), 2), some (lE prE (L ++ [(a, z)]), 1), some (itE .cat, 0), some (kE 3, 0), some (prE (a, z), 0), some (prE (b, w), 0), x7, x8, x9, x10] (wp_dA E (by decide) (u := z) (x := (0, b)) (k := 0) (k' := 0) rfl (pr1 (k := 0) rfl (by decide)) (ed_x (k := 0) (k' := 0) rfl rfl (pr0 (k := 0) rfl (by decide)) rfl) rfl hz rfl) ?_
  refine wp_to [a0, some (esE (apE es z (0, b)), 2), some (lE prE (L ++ [(a, w)]), 1), some (itE .cat, 0), some (kE 3, 0), some (prE (a, z), 0), some (prE (b, w), 0), x7, x8, x9, x10] (wp_setM (en := prE) (b := (a, w)) (k := 0) rfl (pr_x (k := 0) (k' := 0) (pr0 (k := 0) rfl (by decide)) rfl (pr1 (k := 0) rfl (by decide)) rfl) rfl rfl) ?_
  exact wp_seq (wp_cont h)
theorem th_pre (hk : kd it ≠ 3) (E : EB es s 100) (hs : s < 1000) (h : WP thomT [a0, some (esE (es ++ [[]] ++ [[]]), 2), a2, some (itE it, 0), some (kE (kd it), 0), x5, x6, some (iN s, 0), some (iN (s + 1), 0), x9, x10] N B C R) : WP thomB [a0, some (esE (es), 2), a2, some (itE it, 0), x4, x5, x6, x7, x8, x9, x10] N B C R := by
  unfold thomB
  refine wp_to [a0, some (esE (es), 2), a2, some (itE it, 0), some (kE (kd it), 0), x5, x6, x7, x8, x9, x10] (wp_asg0 (d := kE (kd it)) (it0 (k := 0) rfl (by decide)) rfl) ?_
  refine wp_seq (wp_if (tr_b (eq_t enc_k (by decide) (a := kd it) (b := 3) rfl rfl)) (fun hb => absurd (of_decide_eq_true hb) hk) (fun _ => wp_skip ?_))
  refine wp_to [a0, some (esE (es), 2), a2, some (itE it, 0), some (kE (kd it), 0), x5, x6, some (iN s, 0), x8, x9, x10] (wp_asg0 (d := iN s) (by rw [← E.len]; exact len_e (en := lE edE) rfl) rfl) ?_
  refine wp_to [a0, some (esE (es), 2), a2, some (itE it, 0), some (kE (kd it), 0), x5, x6, some (iN s, 0), some (iN (s + 1), 0), x9, x10] (wp_asg0 (d := iN (s + 1)) (ad_n (a := s) (b := 1) (k := 0) (k' := 0) rfl rfl) rfl) ?_
  refine wp_to [a0, some (esE (es ++ [[]]), 2), a2, some (itE it, 0), some (kE (kd it), 0), x5, x6, some (iN s, 0), some (iN (s + 1), 0), x9, x10] (wp_deepN (es := es) rfl (by rw [E.len]; omega) rfl) ?_
  refine wp_to [a0, some (esE (es ++ [[]] ++ [[]]), 2), a2, some (itE it, 0), some (kE (kd it), 0), x5, x6, some (iN s, 0), some (iN (s + 1), 0), x9, x10] (wp_deepN (es := es ++ [[]]) rfl (by rw [List.length_append, List.length_singleton, E.len]; omega) rfl) ?_
  exact h
theorem t_in : trX (inX true (vX 4) (tupX [kX (PyData.str (Str.ofString "chr")), kX (PyData.str (Str.ofString "any")), kX (PyData.str (Str.ofString "eps"))])) [a0, some (esE (es), 2), a2, x3, some (kE (kd it), 0), x5, x6, x7, x8, x9, x10] = some (decide (kd it ∈ ([0, 1, 2] : List (Fin 8)))) :=
  tr_b (in_tt enc_k (by decide) (a := kd it) (l := [0, 1, 2]) rfl (tup_x (ar_cons (k := 0) rfl rfl (ar_cons (k := 0) rfl rfl (ar_cons (k := 0) rfl rfl ar_nil))) (by show 3 ≤ 1000; decide)))
theorem th_leaf (hi : kd it ∈ ([0, 1, 2] : List (Fin 8))) (h1 : kd it = 1 → c = 4) (h2 : kd it ≠ 1 → sg it = c) (E : EB es n 100) (hs : s < n) (hl : L.length < 1000) (h : N [a0, some (esE (apE es s (c, s + 1)), 2), some (lE prE (L ++ [(s, s + 1)]), 1), some (itE it, 0), some (kE (kd it), 0), x5, x6, some (iN s, 0), some (iN (s + 1), 0), some (lbE c, 0), x10]) : WP thomT [a0, some (esE (es), 2), some (lE prE (L), 1), some (itE it, 0), some (kE (kd it), 0), x5, x6, some (iN s, 0), some (iN (s + 1), 0), x9, x10] N B C R := by
  unfold thomT
  refine wp_seq (wp_if t_in (fun _ => ?_) (fun hb => absurd hi (of_decide_eq_false hb)))
  refine wp_to [a0, some (esE (es), 2), some (lE prE (L), 1), some (itE it, 0), some (kE (kd it), 0), x5, x6, some (iN s, 0), some (iN (s + 1), 0), some (lbE (sg it), 0), x10] (wp_asg0 (d := lbE (sg it)) (it1 (k := 0) rfl (by decide)) rfl) ?_
  refine wp_to [a0, some (esE (es), 2), some (lE prE (L), 1), some (itE it, 0), some (kE (kd it), 0), x5, x6, some (iN s, 0), some (iN (s + 1), 0), some (lbE c, 0), x10] (wp_if (tr_b (eq_t enc_k (by decide) (a := kd it) (b := 1) rfl rfl)) (fun hb => wp_seq (wp_asg0 (d := lbE 4) rfl (wp_skip (by rw [h1 (of_decide_eq_true hb)]; rfl)))) (fun hb => wp_skip (by rw [h2 (of_decide_eq_false hb)]))) ?_
  refine wp_to [a0, some (esE (apE es s (c, s + 1)), 2), some (lE prE (L), 1), some (itE it, 0), some (kE (kd it), 0), x5, x6, some (iN s, 0), some (iN (s + 1), 0), some (lbE c, 0), x10] (wp_dA E (by decide) (u := s) (x := (c, s + 1)) (k := 0) (k' := 0) rfl rfl (ed_x (k := 0) (k' := 0) rfl rfl rfl rfl) rfl hs rfl) ?_
  exact wp_seq (wp_appE (en := prE) (a := (s, s + 1)) (k := 0) rfl (pr_x (k := 0) (k' := 0) rfl rfl rfl rfl) rfl (Nat.lt_of_lt_of_le hl (by decide)) (wp_skip (wp_skip h)))
theorem th_alt (E : EB es n 100) (hs : s < n) (hz : z < n) (hw : w < n) (h : N [a0, some (esE (apE (apE (apE (apE es s (0, a)) s (0, b)) z (0, s + 1)) w (0, s + 1)), 2), some (lE prE (L ++ [(s, s + 1)]), 1), some (itE .alt, 0), some (kE 4, 0), some (prE (a, z), 0), some (prE (b, w), 0), some (iN s, 0), some (iN (s + 1), 0), x9, x10]) : WP thomT [a0, some (esE (es), 2), some (lE prE (L ++ [(a, z)] ++ [(b, w)]), 1), some (itE .alt, 0), some (kE 4, 0), x5, x6, some (iN s, 0), some (iN (s + 1), 0), x9, x10] N B C R := by
  unfold thomT
  refine wp_seq (wp_ifF (t_in (it := .alt)) ?_)
  refine wp_seq (wp_ifT (tr_b (eq_t enc_k (by decide) (a := 4) (b := 4) rfl rfl)) ?_)
  refine wp_to [a0, some (esE (es), 2), some (lE prE (L ++ [(a, z)] ++ [(b, w)]), 1), some (itE .alt, 0), some (kE 4, 0), some (prE (a, z), 0), x6, some (iN s, 0), some (iN (s + 1), 0), x9, x10] (wp_asg0 (d := prE (a, z)) (sub_m2 (en := prE) (k := 1) rfl (by decide)) rfl) ?_
  refine wp_to [a0, some (esE (es), 2), some (lE prE (L ++ [(a, z)] ++ [(b, w)]), 1), some (itE .alt, 0), some (kE 4, 0), some (prE (a, z), 0), some (prE (b, w), 0), some (iN s, 0), some (iN (s + 1), 0), x9, x10] (wp_asg0 (d := prE (b, w)) (sub_m1 (en := prE) (k := 1) rfl (by decide)) rfl) ?_
  refine wp_to [a0, some (esE (es), 2), some (lE prE (L ++ [(a, z)]), 1), some (itE .alt, 0), some (kE 4, 0), some (prE (a, z), 0), some (prE (b, w), 0), some (iN s, 0), some (iN (s + 1), 0), x9, x10] (wp_delM (en := prE) rfl rfl) ?_
  refine wp_to [a0, some (esE (apE es s (0, a)), 2), some (lE prE (L ++ [(a, z)]), 1), some (itE .alt, 0), some (kE 4, 0), some (prE (a, z), 0), some (prE (b, w), 0), some (iN s, 0), some (iN (s + 1), 0), x9, x10] (wp_dA E (by decide) (u := s) (x := (0, a)) (k := 0) (k' := 0) rfl rfl (ed_x (k := 0) (k' := 0) rfl rfl (pr0 (k := 0) rfl (by decide)) rfl) rfl hs rfl) ?_
  refine wp_to [a0, some (esE (apE (apE es s (0, a)) s (0, b)), 2), some (lE prE (L ++ [(a, z)]), 1), some (itE .alt, 0), some (kE 4, 0), some (prE (a, z), 0), some (prE (b, w), 0), some (iN s, 0), some (iN (s + 1), 0), x9, x10] (wp_dA (E.ap hs) (by decide) (u := s) (x := (0, b)) (k := 0) (k' := 0) rfl rfl (ed_x (k := 0) (k' := 0) rfl rfl (pr0 (k := 0) rfl (by decide)) rfl) rfl hs rfl) ?_
  refine wp_to [a0, some (esE (apE (apE (apE es s (0, a)) s (0, b)) z (0, s + 1)), 2), some (lE prE (L ++ [(a, z)]), 1), some (itE .alt, 0), some (kE 4, 0), some (prE (a, z), 0), some (prE (b, w), 0), some (iN s, 0), some (iN (s + 1), 0), x9, x10] (wp_dA ((E.ap hs).ap hs) (by decide) (u := z) (x := (0, s + 1)) (k := 0) (k' := 0) rfl (pr1 (k := 0) rfl (by decide)) (ed_x (k := 0) (k' := 0) rfl rfl rfl rfl) rfl hz rfl) ?_
  refine wp_to [a0, some (esE (apE (apE (apE (apE es s (0, a)) s (0, b)) z (0, s + 1)) w (0, s + 1)), 2), some (lE prE (L ++ [(a, z)]), 1), some (itE .alt, 0), some (kE 4, 0), some (prE (a, z), 0), some (prE (b, w), 0), some (iN s, 0), some (iN (s + 1), 0), x9, x10] (wp_dA (((E.ap hs).ap hs).ap hz) (by decide) (u := w) (x := (0, s + 1)) (k := 0) (k' := 0) rfl (pr1 (k := 0) rfl (by decide)) (ed_x (k := 0) (k' := 0) rfl rfl rfl rfl) rfl hw rfl) ?_
  exact wp_seq (wp_setM (en := prE) (b := (s, s + 1)) (k := 0) rfl (pr_x (k := 0) (k' := 0) rfl rfl rfl rfl) rfl (wp_skip (wp_skip (wp_skip h))))
theorem EB.opt {u m : Nat} {p : Prop} [Decidable p] {x : Fin 5 × Nat} (E : EB es n m) (hu : u < n) : EB (aps es (if p then [(u, x)] else [])) n (m + 1) := by
  split
  · exact E.ap hu
  · exact ⟨E.len, fun w => Nat.le_succ_of_le (E.row w)⟩
theorem th_rep {kk : Fin 3} (E : EB es n 100) (hs : s < n) (hz : z < n) (h : N [a0, some (esE (apE (aps (aps (apE es s (0, a)) (if kk.val ≠ 1 then [(s, ((0 : Fin 5), s + 1))] else [])) (if kk.val ≠ 2 then [(z, ((0 : Fin 5), a))] else [])) z (0, s + 1)), 2), some (lE prE (L ++ [(s, s + 1)]), 1), some (itE (.rep kk), 0), some (kE (kd (.rep kk)), 0), x5, x6, some (iN s, 0), some (iN (s + 1), 0), x9, some (prE (a, z), 0)]) : WP thomT [a0, some (esE (es), 2), some (lE prE (L ++ [(a, z)]), 1), some (itE (.rep kk), 0), some (kE (kd (.rep kk)), 0), x5, x6, some (iN s, 0), some (iN (s + 1), 0), x9, x10] N B C R := by
  have hk := kd_rep kk
  unfold thomT
  refine wp_seq (wp_if t_in (fun hb => absurd (of_decide_eq_true hb) hk.1) (fun _ => ?_))
  refine wp_seq (wp_if (tr_b (eq_t enc_k (by decide) (a := kd (.rep kk)) (b := 4) rfl rfl)) (fun hb => absurd (of_decide_eq_true hb) hk.2.2.1) (fun _ => ?_))
  refine wp_to [a0, some (esE (es), 2), some (lE prE (L ++ [(a, z)]), 1), some (itE (.rep kk), 0), some (kE (kd (.rep kk)), 0), x5, x6, some (iN s, 0), some (iN (s + 1), 0), x9, some (prE (a, z), 0)] (wp_asg0 (d := prE (a, z)) (sub_m1 (en := prE) (k := 1) rfl (by decide)) rfl) ?_
  refine wp_to [a0, some (esE (apE es s (0, a)), 2), some (lE prE (L ++ [(a, z)]), 1), some (itE (.rep kk), 0), some (kE (kd (.rep kk)), 0), x5, x6, some (iN s, 0), some (iN (s + 1), 0), x9, some (prE (a, z), 0)] (wp_dA E (by decide) (u := s) (x := (0, a)) (k := 0) (k' := 0) rfl rfl (ed_x (k := 0) (k' := 0) rfl rfl (pr0 (k := 0) rfl (by decide)) rfl) rfl hs rfl) ?_
  refine wp_to [a0, some (esE (aps (apE es s (0, a)) (if kk.val ≠ 1 then [(s, ((0 : Fin 5), s + 1))] else [])), 2), some (lE prE (L ++ [(a, z)]), 1), some (itE (.rep kk), 0), some (kE (kd (.rep kk)), 0), x5, x6, some (iN s, 0), some (iN (s + 1), 0), x9, some (prE (a, z), 0)] (wp_if (tr_b (eq_f enc_k (by decide) (a := kd (.rep kk)) (b := 6) rfl rfl)) (fun hb => wp_seq (wp_dA (E.ap hs) (by decide) (u := s) (x := (0, s + 1)) (k := 0) (k' := 0) rfl rfl (ed_x (k := 0) (k' := 0) rfl rfl rfl rfl) rfl hs (wp_skip (by rw [if_pos (c := kk.val ≠ 1) (fun h => by rw [decide_eq_true (hk.2.2.2.1.mpr h)] at hb; cases hb)]; rfl)))) (fun hb => wp_skip (by rw [if_neg (c := kk.val ≠ 1) (fun h => h (hk.2.2.2.1.mp (by simpa using hb)))]; rfl))) ?_
  refine wp_to [a0, some (esE (aps (aps (apE es s (0, a)) (if kk.val ≠ 1 then [(s, ((0 : Fin 5), s + 1))] else [])) (if kk.val ≠ 2 then [(z, ((0 : Fin 5), a))] else [])), 2), some (lE prE (L ++ [(a, z)]), 1), some (itE (.rep kk), 0), some (kE (kd (.rep kk)), 0), x5, x6, some (iN s, 0), some (iN (s + 1), 0), x9, some (prE (a, z), 0)] (wp_if (tr_b (eq_f enc_k (by decide) (a := kd (.rep kk)) (b := 7) rfl rfl)) (fun hb => wp_seq (wp_dA ((E.ap hs).opt hs) (by decide) (u := z) (x := (0, a)) (k := 0) (k' := 0) rfl (pr1 (k := 0) rfl (by decide)) (ed_x (k := 0) (k' := 0) rfl rfl (pr0 (k := 0) rfl (by decide)) rfl) rfl hz (wp_skip (by rw [if_pos (c := kk.val ≠ 2) (fun h => by rw [decide_eq_true (hk.2.2.2.2.mpr h)] at hb; cases hb)]; rfl)))) (fun hb => wp_skip (by rw [if_neg (c := kk.val ≠ 2) (fun h => h (hk.2.2.2.2.mp (by simpa using hb)))]; rfl))) ?_
  refine wp_to [a0, some (esE (apE (aps (aps (apE es s (0, a)) (if kk.val ≠ 1 then [(s, ((0 : Fin 5), s + 1))] else [])) (if kk.val ≠ 2 then [(z, ((0 : Fin 5), a))] else [])) z (0, s + 1)), 2), some (lE prE (L ++ [(a, z)]), 1), some (itE (.rep kk), 0), some (kE (kd (.rep kk)), 0), x5, x6, some (iN s, 0), some (iN (s + 1), 0), x9, some (prE (a, z), 0)] (wp_dA (((E.ap hs).opt hs).opt hz) (by decide) (u := z) (x := (0, s + 1)) (k := 0) (k' := 0) rfl (pr1 (k := 0) rfl (by decide)) (ed_x (k := 0) (k' := 0) rfl rfl rfl rfl) rfl hz rfl) ?_
  exact wp_seq (wp_setM (en := prE) (b := (s, s + 1)) (k := 0) rfl (pr_x (k := 0) (k' := 0) rfl rfl rfl rfl) rfl (wp_skip (wp_skip (wp_skip h))))
end
open Re in
inductive ThI (its : List It) (t : Re) (j : Nat) : St → Prop
  | mk (ts : List Re) (es : Eds) (x3 x4 x5 x6 x7 x8 x9 x10 : Option (PyData × Nat)) : runI (its.drop j) ts = some [t] → TI ts es (4 * j) → szs ts ≤ 2 * j → ThI its t j [some (lE itE its, 0), some (esE es, 2), some (lE prE (stk ts), 1), x3, x4, x5, x6, x7, x8, x9, x10]
open Re in
theorem th_step {its : List It} {t : Re} (hl : its.length ≤ 15) {B : St → Prop} {R : PyData → Prop} (j : Nat) (σ : St) (it : It) (hit : its[j]? = some it) (h : ThI its t j σ) : WP thomB (σ.set 3 (some (itE it, 0))) (ThI its t (j + 1)) B (ThI its t (j + 1)) R := by
  obtain ⟨ts, es, x3, x4, x5, x6, x7, x8, x9, x10, hrun, T, hsz⟩ := h
  obtain ⟨hj, e⟩ := List.getElem?_eq_some_iff.mp hit
  rw [List.drop_eq_getElem_cons hj, e] at hrun
  obtain ⟨ts', hp, hrun'⟩ := runI_step hrun
  have hle := hp.le.1
  have hsz' : szs ts' ≤ 2 * (j + 1) := by omega
  have hs : szs ts < 1000 := by omega
  have E : EB es (szs ts) 100 := ⟨T.len, fun w => Nat.le_trans (T.row w) (by omega)⟩
  clear hle e hit hrun hsz
  cases hp with
  | @sym c =>
    have hk := kd_sym c
    have := stk_len ts
    exact th_pre hk.1 E hs (th_leaf hk.2.1 hk.2.2.1 hk.2.2.2 E.new (by omega) (by omega) (.mk (Re.sym c.val :: ts) _ _ _ _ _ _ _ _ _ hrun' (T.sym) hsz'))
  | eps =>
    have := stk_len ts
    exact th_pre (by decide) E hs (th_leaf (c := 0) (by decide) (fun h => absurd h (by decide)) (fun _ => rfl) E.new (by omega) (by omega) (.mk (Re.eps :: ts) _ _ _ _ _ _ _ _ _ hrun' (T.eps) hsz'))
  | @cat l r ts =>
    have ha := ac_in l (szs ts)
    exact th_cat (L := stk ts) (a := st l (szs ts)) (z := ac l (szs ts)) (b := st r (szs ts + sz l)) (w := ac r (szs ts + sz l)) E (Nat.lt_of_lt_of_le ha.2 (Nat.le_add_right _ _)) (.mk (Re.cat l r :: ts) _ _ _ _ _ _ _ _ _ hrun' (T.cat) hsz')
  | @alt l r ts =>
    have ha := ac_in l (szs ts)
    have hb := ac_in r (szs ts + sz l)
    have hn : szs (r :: l :: ts) + 2 = szs ts + sz l + sz r + 2 := rfl
    exact th_pre (by decide) E hs (th_alt (L := stk ts) (a := st l (szs ts)) (z := ac l (szs ts)) (b := st r (szs ts + sz l)) (w := ac r (szs ts + sz l)) E.new (by omega) (by omega) (by omega) (.mk (Re.alt l r :: ts) _ _ _ _ _ _ _ _ _ hrun' (T.alt rfl) hsz'))
  | @rep kk i ts =>
    have ha := ac_in i (szs ts)
    have hn : szs (i :: ts) + 2 = szs ts + sz i + 2 := rfl
    refine th_pre (kd_rep kk).2.1 E hs (th_rep (L := stk ts) (a := st i (szs ts)) (z := ac i (szs ts)) E.new (by omega) (by omega) (.mk (Re.rep kk.val i :: ts) _ _ _ _ _ _ _ _ _ hrun' (?_) hsz'))
    have := T.rep (kd := kk.val) rfl
    unfold repL at this
    rw [aps_app, aps_app, aps_app] at this
    exact this
open Re in
theorem thom_ok {its : List It} {t : Re} (hr : runI its [] = some [t]) (hl : its.length ≤ 15) :
    ∃ es, thomF [lE itE its] = some (.tuple [iN (st t 0), iN (ac t 0), esE es]) ∧ TI [t] es 60 ∧ sz t ≤ 30 := by
  suffices main : ∃ v, thomF [lE itE its] = some v ∧ ∃ es, v = .tuple [iN (st t 0), iN (ac t 0), esE es] ∧ TI [t] es 60 ∧ sz t ≤ 30 by
    obtain ⟨v, e, es, rfl, h⟩ := main
    exact ⟨es, e, h⟩
  refine fnX_ex rfl ?_
  unfold g2thom
  refine wp_seq (wp_deep0 ?_)
  refine wp_seq (wp_asg3 (d := lE prE []) rfl ?_)
  refine wp_cut (ThI its t its.length) ?_ ?_
  · exact wp_it (en := itE) (l := its) (k := 0) (ThI its t) rfl rfl (.mk [] [] none none none none none none none none hr TI.nil (Nat.le_refl _)) (th_step hl) (fun _ h => h)
  · rintro σ ⟨ts, es, x3, x4, x5, x6, x7, x8, x9, x10, hrun, T, hsz⟩
    rw [List.drop_length] at hrun
    cases hrun
    have hst : lE prE (stk [t]) = lE prE ([] ++ [(st t 0, ac t 0)]) := rfl
    rw [hst]
    exact wp_seq (wp_ret (k := 0) (tup_x (ar_cons (k := 0) (pr0 (k := 0) (sub_m1 (en := prE) (k := 1) rfl (by decide)) (by decide)) rfl (ar_cons (k := 0) (pr1 (k := 0) (sub_m1 (en := prE) (k := 1) rfl (by decide)) (by decide)) rfl (ar_cons (k := 0) rfl rfl ar_nil))) (by show 3 ≤ 1000; decide)) rfl ⟨es, rfl, ⟨T.len, T.e0, T.el, fun u => Nat.le_trans (T.row u) (by omega)⟩, by simp only [szs] at hsz; omega⟩)
end Mine

set_option Elab.async false
set_option linter.unusedVariables false
set_option linter.unusedSectionVars false
set_option autoImplicit false
set_option maxRecDepth 10000
open PySem
namespace Mine
noncomputable def readM : XS := (ifX (orT (trX (eqX true (vX 6) (kX (PyData.str (Str.ofString "chr"))))) (trX (eqX true (vX 6) (kX (PyData.str (Str.ofString "any")))))) (seqX (asgX 7 [] (subX (vX 5) (kX (PyData.int 1)))) (seqX (ifX (trX (eqX true (vX 6) (kX (PyData.str (Str.ofString "any"))))) (seqX (asgX 7 [] (kX (PyData.str (Str.ofString ".")))) skipX) skipX) (seqX (appX 4 [] (tupX [kX (PyData.bool false), lstX [lenX (vX 2)], lstX [lenX (vX 2)]])) (seqX (appX 2 [1, 7] (tupX [vX 1, vX 7, addX (vX 1) (kX (PyData.int 1))])) (seqX (appX 3 [] (lstX [])) skipX))))) (seqX (ifX (trX (eqX true (vX 6) (kX (PyData.str (Str.ofString "eps"))))) (seqX (appX 4 [] (tupX [kX (PyData.bool true), lstX [], lstX []])) skipX) (seqX (ifX (trX (eqX true (vX 6) (kX (PyData.str (Str.ofString "alt"))))) (seqX (popX 8 4) (seqX (popX 9 4) (seqX (appX 4 [] (tupX [borX (subX (vX 9) (kX (PyData.int 0))) (subX (vX 8) (kX (PyData.int 0))), addX (subX (vX 9) (kX (PyData.int 1))) (subX (vX 8) (kX (PyData.int 1))), addX (subX (vX 9) (kX (PyData.int 2))) (subX (vX 8) (kX (PyData.int 2)))])) skipX))) (seqX (ifX (trX (eqX true (vX 6) (kX (PyData.str (Str.ofString "cat"))))) (seqX (popX 8 4) (seqX (popX 9 4) (seqX (forX 10 [] (itX (subX (vX 9) (kX (PyData.int 2)))) (seqX (setX 3 [] (addX (subX (vX 3) (vX 10)) (subX (vX 8) (kX (PyData.int 1)))) (vX 10)) skipX)) (seqX (asgX 11 [] (subX (vX 9) (kX (PyData.int 1)))) (seqX (ifX (trX (subX (vX 9) (kX (PyData.int 0)))) (seqX (asgX 11 [] (addX (subX (vX 9) (kX (PyData.int 1))) (subX (vX 8) (kX (PyData.int 1))))) skipX) skipX) (seqX (asgX 12 [] (subX (vX 8) (kX (PyData.int 2)))) (seqX (ifX (trX (subX (vX 8) (kX (PyData.int 0)))) (seqX (asgX 12 [] (addX (subX (vX 9) (kX (PyData.int 2))) (subX (vX 8) (kX (PyData.int 2))))) skipX) skipX) (seqX (appX 4 [11, 12] (tupX [bandX (subX (vX 9) (kX (PyData.int 0))) (subX (vX 8) (kX (PyData.int 0))), vX 11, vX 12])) skipX)))))))) (seqX (popX 13 4) (seqX (ifX (trX (eqX false (vX 6) (kX (PyData.str (Str.ofString "opt"))))) (seqX (forX 10 [] (itX (subX (vX 13) (kX (PyData.int 2)))) (seqX (setX 3 [] (addX (subX (vX 3) (vX 10)) (subX (vX 13) (kX (PyData.int 1)))) (vX 10)) skipX)) skipX) skipX) (seqX (appX 4 [] (tupX [borX (subX (vX 13) (kX (PyData.int 0))) (eqX false (vX 6) (kX (PyData.str (Str.ofString "plus")))), subX (vX 13) (kX (PyData.int 1)), subX (vX 13) (kX (PyData.int 2))])) skipX)))) skipX)) skipX)) skipX))
noncomputable def readB : XS := (seqX (asgX 6 [] (subX (vX 5) (kX (PyData.int 0)))) (seqX readM (seqX (ifX (trX (eqX false (vX 6) (kX (PyData.str (Str.ofString "cat"))))) (seqX (asgX 1 [] (addX (vX 1) (kX (PyData.int 2)))) skipX) skipX) skipX)))
noncomputable def enE (e : Ent) : PyData := .tuple [.bool e.1, lE iN e.2.1, lE iN e.2.2]
abbrev Tri := Nat × Fin 5 × Nat
noncomputable def trE (x : Tri) : PyData := .tuple [iN x.1, lbE x.2.1, iN x.2.2]
theorem enc_tr : Enc trE 1 := ⟨fun x y => by
  show (PyData.eqv (iN x.1) (iN y.1) && (PyData.eqv (lbE x.2.1) (lbE y.2.1) && (PyData.eqv (iN x.2.2) (iN y.2.2) && true))) = _
  rw [enc_lb.eq, enc_n.eq, enc_n.eq]
  obtain ⟨a, b, c⟩ := x
  obtain ⟨a', b', c'⟩ := y
  by_cases h1 : a = a' <;> by_cases h2 : b = b' <;> by_cases h3 : c = c' <;> simp [h1, h2, h3], fun x => by
  show max (iN x.1).depth (max (lbE x.2.1).depth (max (iN x.2.2).depth 0)) + 1 ≤ 1
  have := enc_lb.dep x.2.1; have := enc_n.dep x.1; have := enc_n.dep x.2.2; omega⟩
section
variable {σ : St} {f g h : XE} {k k' k'' : Nat}
theorem en0 {x : Ent} (e : f σ = some (enE x, k)) (hk : k ≠ 2) : subX f (kX (PyData.int 0)) σ = some (.bool x.1, 0) := sub_t (j := 0) (k' := 0) e rfl hk rfl
theorem en1 {x : Ent} (e : f σ = some (enE x, k)) (hk : k ≠ 2) : subX f (kX (PyData.int 1)) σ = some (lE iN x.2.1, 0) := sub_t (j := 1) (k' := 0) e rfl hk rfl
theorem en2 {x : Ent} (e : f σ = some (enE x, k)) (hk : k ≠ 2) : subX f (kX (PyData.int 2)) σ = some (lE iN x.2.2, 0) := sub_t (j := 2) (k' := 0) e rfl hk rfl
theorem en_x {b : Bool} {F L : List Nat} (e1 : f σ = some (.bool b, k)) (h1 : (k == 0 || k == 3) = true) (e2 : g σ = some (lE iN F, k')) (h2 : (k' == 0 || k' == 3) = true) (e3 : h σ = some (lE iN L, k'')) (h3 : (k'' == 0 || k'' == 3) = true) : tupX [f, g, h] σ = some (enE (b, F, L), 0) :=
  tup_x (ar_cons e1 h1 (ar_cons e2 h2 (ar_cons e3 h3 ar_nil))) (by show 3 ≤ 1000; decide)
theorem tr_x {a b : Nat} {c : Fin 5} (e1 : f σ = some (iN a, k)) (h1 : (k == 0 || k == 3) = true) (e2 : g σ = some (lbE c, k')) (h2 : (k' == 0 || k' == 3) = true) (e3 : h σ = some (iN b, k'')) (h3 : (k'' == 0 || k'' == 3) = true) : tupX [f, g, h] σ = some (trE (a, c, b), 0) :=
  tup_x (ar_cons e1 h1 (ar_cons e2 h2 (ar_cons e3 h3 ar_nil))) (by show 3 ≤ 1000; decide)
theorem tri1 {x : Tri} (e : f σ = some (trE x, k)) (hk : k ≠ 2) : subX f (kX (PyData.int 1)) σ = some (lbE x.2.1, 0) := sub_t (j := 1) (k' := 0) e rfl hk rfl
theorem tri2 {x : Tri} (e : f σ = some (trE x, k)) (hk : k ≠ 2) : subX f (kX (PyData.int 2)) σ = some (iN x.2.2, 0) := sub_t (j := 2) (k' := 0) e rfl hk rfl
theorem one_x {a : Nat} (e1 : f σ = some (iN a, k)) (h1 : (k == 0 || k == 3) = true) : lstX [f] σ = some (lE iN [a], 3) := lst_x (ar_cons e1 h1 ar_nil) (by show 1 ≤ 1000; decide)
end
noncomputable def lfs (ts : List Re) : List Tri := (Re.lvsS ts).map fun x => (x.1, x.2, x.1 + 1)
/-- rows of follow, some of them grown -/
structure Gr (fol fol' : List (List Nat)) (L F : List Nat) (i m : Nat) : Prop where
  len : fol'.length = fol.length
  mem : ∀ k v, (v ∈ rowN fol' k ↔ v ∈ rowN fol k ∨ (k ∈ L.take i ∧ v ∈ F))
  row : ∀ k, (rowN fol' k).length ≤ m + 15 * i
theorem Gr.nil {fol : List (List Nat)} {L F : List Nat} {m : Nat} (h : ∀ k, (rowN fol k).length ≤ m) : Gr fol fol L F 0 m := ⟨rfl, fun k v => by simp, fun k => h k⟩
theorem Gr.step {fol fol' : List (List Nat)} {L F : List Nat} {i m k : Nat} (G : Gr fol fol' L F i m) (hk : L[i]? = some k) (hkl : k < fol.length) (hF : F.length ≤ 15) : Gr fol (fol'.set k (rowN fol' k ++ F)) L F (i + 1) m := by
  have hg : ∀ w, rowN (fol'.set k (rowN fol' k ++ F)) w = if w = k then rowN fol' w ++ F else rowN fol' w := fun w => row_grow (by rw [G.len]; exact hkl)
  refine ⟨by rw [List.length_set, G.len], fun w v => ?_, fun w => ?_⟩
  · rw [hg, List.take_add_one, hk]
    split
    · rename_i h; subst h
      rw [List.mem_append, G.mem]
      simp only [List.mem_append, Option.toList_some, List.mem_singleton, or_true, true_and]
      constructor
      · rintro ((h | ⟨_, h⟩) | h)
        · exact .inl h
        · exact .inr h
        · exact .inr h
      · rintro (h | h)
        · exact .inl (.inl h)
        · exact .inr h
    · rename_i h
      rw [G.mem]
      simp only [List.mem_append, Option.toList_some, List.mem_singleton, h, or_false]
  · rw [hg]
    have := G.row w
    split
    · rw [List.length_append]; omega
    · omega
section
open Re
theorem kd_01 : ∀ c : Fin 4, kd (.sym c) = 0 ∨ kd (.sym c) = 1 := by decide
theorem Psh.len {i : It} {ts ts' : List Re} (h : Psh i ts ts') : ts'.length ≤ ts.length + 1 := by
  cases h <;> simp only [List.length_cons] <;> omega
theorem StkR_len : ∀ {ts : List Re} {es : List Ent}, StkR ts es → es.length = ts.length
  | [], [], _ => rfl
  | [], _ :: _, h => h.elim
  | _ :: _, [], h => h.elim
  | t :: ts, e :: es, h => congrArg (· + 1) (StkR_len h.2)
theorem StkR_one {t : Re} {ts : List Re} {es : List Ent} (h : StkR (t :: ts) es) : ∃ e es', es = e :: es' := by
  cases es with
  | nil => exact h.elim
  | cons e es => exact ⟨e, es, rfl⟩
theorem StkR_two {r l : Re} {ts : List Re} {es : List Ent} (h : StkR (r :: l :: ts) es) : ∃ er el es', es = er :: el :: es' := by
  obtain ⟨er, es, rfl⟩ := StkR_one h
  obtain ⟨el, es, rfl⟩ := StkR_one h.2
  exact ⟨er, el, es, rfl⟩
theorem RI.wk {ts : List Re} {fol : List (List Nat)} {es : List Ent} {m m' : Nat} (T : RI ts fol es m) (h : m ≤ m') : RI ts fol es m' := ⟨T.len, T.fo, fun k => Nat.le_trans (T.row k) h, T.st⟩
end
section
variable {it : It} {s q m p0 p1 p2 : Nat} {c : Fin 5} {ls : List Tri} {fol : List (List Nat)} {L : List Ent} {e el er : Ent} {a0 a1 a2 a3 a4 x5 x6 x7 x8 x9 x10 x11 x12 x13 : Option (PyData × Nat)} {N B C : St → Prop} {R : PyData → Prop}
theorem rd_all (h1 : WP readM [a0, some (iN s, 0), a2, a3, a4, some (itE it, 0), some (kE (kd it), 0), x7, x8, x9, x10, x11, x12, x13] (fun σ => WP (seqX (ifX (trX (eqX false (vX 6) (kX (PyData.str (Str.ofString "cat"))))) (seqX (asgX 1 [] (addX (vX 1) (kX (PyData.int 2)))) skipX) skipX) skipX) σ N B C R) B C R) : WP readB [a0, some (iN s, 0), a2, a3, a4, some (itE it, 0), x6, x7, x8, x9, x10, x11, x12, x13] N B C R := by
  unfold readB
  refine wp_to [a0, some (iN s, 0), a2, a3, a4, some (itE it, 0), some (kE (kd it), 0), x7, x8, x9, x10, x11, x12, x13] (wp_asg0 (d := kE (kd it)) (it0 (k := 0) rfl (by decide)) rfl) ?_
  exact wp_seq h1
theorem rd_end {s' : Nat} (h3 : kd it = 3 → s' = s) (h4 : kd it ≠ 3 → s' = s + 2) (h : N [a0, some (iN s', 0), a2, a3, a4, some (itE it, 0), some (kE (kd it), 0), x7, x8, x9, x10, x11, x12, x13]) : WP (seqX (ifX (trX (eqX false (vX 6) (kX (PyData.str (Str.ofString "cat"))))) (seqX (asgX 1 [] (addX (vX 1) (kX (PyData.int 2)))) skipX) skipX) skipX) [a0, some (iN s, 0), a2, a3, a4, some (itE it, 0), some (kE (kd it), 0), x7, x8, x9, x10, x11, x12, x13] N B C R := by
  refine wp_seq (wp_if (tr_b (eq_f enc_k (by decide) (a := kd it) (b := 3) rfl rfl)) (fun hb => ?_) (fun hb => ?_))
  · refine wp_seq (wp_asg0 (d := iN s') ?_ (wp_skip (wp_skip h)))
    rw [h4 fun e => by rw [decide_eq_true e] at hb; cases hb]
    exact ad_n (a := s) (b := 2) (k := 0) (k' := 0) rfl rfl
  · rw [h3 (by simpa using hb)] at h
    exact wp_skip (wp_skip h)
theorem rd_leaf (hi : kd it = 0 ∨ kd it = 1) (h1 : kd it = 1 → c = 4) (h2 : kd it ≠ 1 → sg it = c) (hq : ls.length = q) (hq' : q < 1000) (hL : L.length < 1000) (hf : fol.length < 1000)
    (h : N [a0, some (iN s, 0), some (lE trE (ls ++ [(s, c, s + 1)]), 1), some (lE (lE iN) (fol ++ [[]]), 1), some (lE enE (L ++ [(false, [q], [q])]), 1), some (itE it, 0), some (kE (kd it), 0), some (lbE c, 0), x8, x9, x10, x11, x12, x13]) : WP readM [a0, some (iN s, 0), some (lE trE (ls), 1), some (lE (lE iN) fol, 1), some (lE enE (L), 1), some (itE it, 0), some (kE (kd it), 0), x7, x8, x9, x10, x11, x12, x13] N B C R := by
  unfold readM
  refine wp_if (or_t (tr_b (eq_t enc_k (by decide) (a := kd it) (b := 0) rfl rfl)) fun _ => tr_b (eq_t enc_k (by decide) (a := kd it) (b := 1) rfl rfl)) (fun _ => ?_) (fun hb => absurd hi fun hi => by rw [Bool.or_eq_false_iff] at hb; exact hi.elim (of_decide_eq_false hb.1) (of_decide_eq_false hb.2))
  refine wp_to [a0, some (iN s, 0), some (lE trE (ls), 1), some (lE (lE iN) fol, 1), some (lE enE (L), 1), some (itE it, 0), some (kE (kd it), 0), some (lbE (sg it), 0), x8, x9, x10, x11, x12, x13] (wp_asg0 (d := lbE (sg it)) (it1 (k := 0) rfl (by decide)) rfl) ?_
  refine wp_to [a0, some (iN s, 0), some (lE trE (ls), 1), some (lE (lE iN) fol, 1), some (lE enE (L), 1), some (itE it, 0), some (kE (kd it), 0), some (lbE c, 0), x8, x9, x10, x11, x12, x13] (wp_if (tr_b (eq_t enc_k (by decide) (a := kd it) (b := 1) rfl rfl)) (fun hb => wp_seq (wp_asg0 (d := lbE 4) rfl (wp_skip (by rw [h1 (of_decide_eq_true hb)]; rfl)))) (fun hb => wp_skip (by rw [h2 (of_decide_eq_false hb)]))) ?_
  have hone : lstX [lenX (vX 2)] [a0, some (iN s, 0), some (lE trE (ls), 1), some (lE (lE iN) fol, 1), some (lE enE (L), 1), some (itE it, 0), some (kE (kd it), 0), some (lbE c, 0), x8, x9, x10, x11, x12, x13] = some (lE iN [q], 3) := one_x (k := 0) (by rw [← hq]; exact len_e (en := trE) rfl) rfl
  refine wp_to [a0, some (iN s, 0), some (lE trE (ls), 1), some (lE (lE iN) fol, 1), some (lE enE (L ++ [(false, [q], [q])]), 1), some (itE it, 0), some (kE (kd it), 0), some (lbE c, 0), x8, x9, x10, x11, x12, x13] (wp_appE (en := enE) (a := (false, [q], [q])) (k := 0) rfl (en_x (k := 0) rfl rfl hone rfl hone rfl) rfl (Nat.lt_of_lt_of_le hL (by decide)) rfl) ?_
  refine wp_to [a0, some (iN s, 0), some (lE trE (ls ++ [(s, c, s + 1)]), 1), some (lE (lE iN) fol, 1), some (lE enE (L ++ [(false, [q], [q])]), 1), some (itE it, 0), some (kE (kd it), 0), some (lbE c, 0), x8, x9, x10, x11, x12, x13] (wp_appE (en := trE) (a := (s, c, s + 1)) (k := 0) rfl (tr_x (k := 0) (k' := 0) rfl rfl rfl rfl (ad_n (a := s) (b := 1) (k := 0) (k' := 0) rfl rfl) rfl) rfl (by rw [hq]; exact Nat.lt_of_lt_of_le hq' (by decide)) rfl) ?_
  exact wp_seq (wp_appE (en := lE iN) (a := []) (k := 3) rfl rfl rfl (Nat.lt_of_lt_of_le hf (by decide)) (wp_skip h))
theorem rd_eps (hL : L.length < 1000) (h : N [a0, a1, a2, a3, some (lE enE (L ++ [(true, [], [])]), 1), some (itE .eps, 0), some (kE 2, 0), x7, x8, x9, x10, x11, x12, x13]) : WP readM [a0, a1, a2, a3, some (lE enE (L), 1), some (itE .eps, 0), some (kE 2, 0), x7, x8, x9, x10, x11, x12, x13] N B C R := by
  unfold readM
  refine wp_ifF (or_t (tr_b (eq_t enc_k (by decide) (a := 2) (b := 0) rfl rfl)) fun _ => (tr_b (eq_t enc_k (by decide) (a := 2) (b := 1) rfl rfl))) ?_
  refine wp_seq (wp_ifT (tr_b (eq_t enc_k (by decide) (a := 2) (b := 2) rfl rfl)) ?_)
  exact wp_seq (wp_appE (en := enE) (a := (true, [], [])) (k := 0) rfl (en_x (k := 0) (k' := 3) (k'' := 3) rfl rfl rfl rfl rfl rfl) rfl (Nat.lt_of_lt_of_le hL (by decide)) (wp_skip (wp_skip h)))
theorem rd_alt (hL : L.length < 1000) (hF : el.2.1.length + er.2.1.length ≤ 100) (hF' : el.2.2.length + er.2.2.length ≤ 100) (h : N [a0, a1, a2, a3, some (lE enE (L ++ [(el.1 || er.1, el.2.1 ++ er.2.1, el.2.2 ++ er.2.2)]), 1), some (itE .alt, 0), some (kE 4, 0), x7, some (enE er, 0), some (enE el, 0), x10, x11, x12, x13]) : WP readM [a0, a1, a2, a3, some (lE enE (L ++ [el] ++ [er]), 1), some (itE .alt, 0), some (kE 4, 0), x7, x8, x9, x10, x11, x12, x13] N B C R := by
  unfold readM
  refine wp_ifF (or_t (tr_b (eq_t enc_k (by decide) (a := 4) (b := 0) rfl rfl)) fun _ => (tr_b (eq_t enc_k (by decide) (a := 4) (b := 1) rfl rfl))) ?_
  refine wp_seq (wp_ifF (tr_b (eq_t enc_k (by decide) (a := 4) (b := 2) rfl rfl)) ?_)
  refine wp_seq (wp_ifT (tr_b (eq_t enc_k (by decide) (a := 4) (b := 4) rfl rfl)) ?_)
  refine wp_to [a0, a1, a2, a3, some (lE enE (L ++ [el]), 1), some (itE .alt, 0), some (kE 4, 0), x7, some (enE er, 0), x9, x10, x11, x12, x13] (wp_pop (en := enE) (l := L ++ [el]) rfl rfl) ?_
  refine wp_to [a0, a1, a2, a3, some (lE enE (L), 1), some (itE .alt, 0), some (kE 4, 0), x7, some (enE er, 0), some (enE el, 0), x10, x11, x12, x13] (wp_pop (en := enE) (l := L) rfl rfl) ?_
  exact wp_seq (wp_appE (en := enE) (a := (el.1 || er.1, el.2.1 ++ er.2.1, el.2.2 ++ er.2.2)) (k := 0) rfl (en_x (k := 0) (k' := 3) (k'' := 3) (bor_b (k := 0) (k' := 0) (en0 (k := 0) rfl (by decide)) fun _ => (en0 (k := 0) rfl (by decide))) rfl (ad_l (en := iN) (k := 0) (k' := 0) (en1 (k := 0) rfl (by decide)) (en1 (k := 0) rfl (by decide)) (by decide) (by decide) (Nat.le_trans hF (by decide))) rfl (ad_l (en := iN) (k := 0) (k' := 0) (en2 (k := 0) rfl (by decide)) (en2 (k := 0) rfl (by decide)) (by decide) (by decide) (Nat.le_trans hF' (by decide))) rfl) rfl (Nat.lt_of_lt_of_le hL (by decide)) (wp_skip (wp_skip (wp_skip h))))
inductive RdL (fol : List (List Nat)) (M F : List Nat) (m : Nat) (a0 a1 a2 a4 x5 x6 x7 x8 x9 x11 x12 x13 : Option (PyData × Nat)) (i : Nat) : St → Prop
  | mk (fol' : List (List Nat)) (x10 : Option (PyData × Nat)) : Gr fol fol' M F i m → RdL fol M F m a0 a1 a2 a4 x5 x6 x7 x8 x9 x11 x12 x13 i [a0, a1, a2, some (lE (lE iN) fol', 1), a4, x5, x6, x7, x8, x9, x10, x11, x12, x13]
theorem rd_loop (hm : m ≤ 5000) (hr : ∀ k, (rowN fol k).length ≤ m) (hM : ∀ k ∈ el.2.2, k < fol.length) (hM' : (el.2.2).length ≤ 15) (hF : (er.2.1).length ≤ 15) (h : ∀ fol' x10, Gr fol fol' el.2.2 er.2.1 (el.2.2).length m → N [a0, a1, a2, some (lE (lE iN) fol', 1), a4, x5, x6, x7, some (enE er, 0), some (enE el, 0), x10, x11, x12, x13]) :
    WP (forX 10 [] (itX (subX (vX 9) (kX (PyData.int 2)))) (seqX (setX 3 [] (addX (subX (vX 3) (vX 10)) (subX (vX 8) (kX (PyData.int 1)))) (vX 10)) skipX)) [a0, a1, a2, some (lE (lE iN) fol, 1), a4, x5, x6, x7, some (enE er, 0), some (enE el, 0), x10, x11, x12, x13] N B C R := by
  refine wp_it (en := iN) (l := el.2.2) (k := 0) (RdL fol el.2.2 er.2.1 m a0 a1 a2 a4 x5 x6 x7 (some (enE er, 0)) (some (enE el, 0)) (x11) (x12) (x13)) (en2 (k := 0) rfl (by decide)) rfl (.mk fol x10 (Gr.nil hr)) ?_ ?_
  · rintro ix σ kx hkk ⟨fol', x10, G⟩
    have hkl := hM kx (List.mem_of_getElem? hkk)
    have hi := (List.getElem?_eq_some_iff.mp hkk).1
    have hr' := G.row kx
    have hl : kx < fol'.length := Nat.lt_of_lt_of_eq hkl G.len.symm
    exact wp_seq (wp_setE (en := lE iN) (a := rowN fol' kx ++ er.2.1) (j := kx) (k := 3) (k' := 0) rfl (ad_l (en := iN) (k := 0) (k' := 0) (sub_e (en := lE iN) (j := kx) (k := 1) (k' := 0) rfl rfl (by decide) (rowN_get hl)) (en1 (k := 0) rfl (by decide)) (by decide) (by decide) (by omega)) rfl rfl hl (wp_skip (.mk _ _ (G.step hkk hkl hF))))
  · rintro σ ⟨fol', x10, G⟩
    exact h fol' x10 G
theorem rd_loop2 (hm : m ≤ 5000) (hr : ∀ k, (rowN fol k).length ≤ m) (hM : ∀ k ∈ e.2.2, k < fol.length) (hM' : (e.2.2).length ≤ 15) (hF : (e.2.1).length ≤ 15) (h : ∀ fol' x10, Gr fol fol' e.2.2 e.2.1 (e.2.2).length m → N [a0, a1, a2, some (lE (lE iN) fol', 1), a4, x5, x6, x7, x8, x9, x10, x11, x12, some (enE e, 0)]) :
    WP (forX 10 [] (itX (subX (vX 13) (kX (PyData.int 2)))) (seqX (setX 3 [] (addX (subX (vX 3) (vX 10)) (subX (vX 13) (kX (PyData.int 1)))) (vX 10)) skipX)) [a0, a1, a2, some (lE (lE iN) fol, 1), a4, x5, x6, x7, x8, x9, x10, x11, x12, some (enE e, 0)] N B C R := by
  refine wp_it (en := iN) (l := e.2.2) (k := 0) (RdL fol e.2.2 e.2.1 m a0 a1 a2 a4 x5 x6 x7 (x8) (x9) (x11) (x12) (some (enE e, 0))) (en2 (k := 0) rfl (by decide)) rfl (.mk fol x10 (Gr.nil hr)) ?_ ?_
  · rintro ix σ kx hkk ⟨fol', x10, G⟩
    have hkl := hM kx (List.mem_of_getElem? hkk)
    have hi := (List.getElem?_eq_some_iff.mp hkk).1
    have hr' := G.row kx
    have hl : kx < fol'.length := Nat.lt_of_lt_of_eq hkl G.len.symm
    exact wp_seq (wp_setE (en := lE iN) (a := rowN fol' kx ++ e.2.1) (j := kx) (k := 3) (k' := 0) rfl (ad_l (en := iN) (k := 0) (k' := 0) (sub_e (en := lE iN) (j := kx) (k := 1) (k' := 0) rfl rfl (by decide) (rowN_get hl)) (en1 (k := 0) rfl (by decide)) (by decide) (by decide) (by omega)) rfl rfl hl (wp_skip (.mk _ _ (G.step hkk hkl hF))))
  · rintro σ ⟨fol', x10, G⟩
    exact h fol' x10 G
inductive RdF (a0 a1 a2 a3 a4 x5 x6 x7 x8 x9 x10 x12 x13 : Option (PyData × Nat)) (F : List Nat) : St → Prop
  | mk (fl : Nat) : RdF a0 a1 a2 a3 a4 x5 x6 x7 x8 x9 x10 x12 x13 F [a0, a1, a2, a3, a4, x5, x6, x7, x8, x9, x10, some (lE iN F, fl), x12, x13]
inductive RdF' (a0 a1 a2 a3 a4 x5 x6 x7 x8 x9 x10 x11 x13 : Option (PyData × Nat)) (F : List Nat) : St → Prop
  | mk (fl : Nat) : RdF' a0 a1 a2 a3 a4 x5 x6 x7 x8 x9 x10 x11 x13 F [a0, a1, a2, a3, a4, x5, x6, x7, x8, x9, x10, x11, some (lE iN F, fl), x13]
theorem rd_cat (hL : L.length < 1000) (hm : m ≤ 5000) (hr : ∀ k, (rowN fol k).length ≤ m) (hM : ∀ k ∈ el.2.2, k < fol.length) (h1 : el.2.1.length ≤ 15) (h2 : el.2.2.length ≤ 15) (h3 : er.2.1.length ≤ 15) (h4 : er.2.2.length ≤ 15)
    (h : ∀ fol' x10, Gr fol fol' el.2.2 er.2.1 el.2.2.length m → N [a0, a1, a2, some (lE (lE iN) fol', 1), some (lE enE (L ++ [(el.1 && er.1, (if el.1 = true then el.2.1 ++ er.2.1 else el.2.1), (if er.1 = true then el.2.2 ++ er.2.2 else er.2.2))]), 1), some (itE .cat, 0), some (kE 3, 0), x7, some (enE er, 0), some (enE el, 0), x10, some (lE iN (if el.1 = true then el.2.1 ++ er.2.1 else el.2.1), 0), some (lE iN (if er.1 = true then el.2.2 ++ er.2.2 else er.2.2), 0), x13]) : WP readM [a0, a1, a2, some (lE (lE iN) fol, 1), some (lE enE (L ++ [el] ++ [er]), 1), some (itE .cat, 0), some (kE 3, 0), x7, x8, x9, x10, x11, x12, x13] N B C R := by
  unfold readM
  refine wp_ifF (or_t (tr_b (eq_t enc_k (by decide) (a := 3) (b := 0) rfl rfl)) fun _ => (tr_b (eq_t enc_k (by decide) (a := 3) (b := 1) rfl rfl))) ?_
  refine wp_seq (wp_ifF (tr_b (eq_t enc_k (by decide) (a := 3) (b := 2) rfl rfl)) ?_)
  refine wp_seq (wp_ifF (tr_b (eq_t enc_k (by decide) (a := 3) (b := 4) rfl rfl)) ?_)
  refine wp_seq (wp_ifT (tr_b (eq_t enc_k (by decide) (a := 3) (b := 3) rfl rfl)) ?_)
  refine wp_to [a0, a1, a2, some (lE (lE iN) fol, 1), some (lE enE (L ++ [el]), 1), some (itE .cat, 0), some (kE 3, 0), x7, some (enE er, 0), x9, x10, x11, x12, x13] (wp_pop (en := enE) (l := L ++ [el]) rfl rfl) ?_
  refine wp_to [a0, a1, a2, some (lE (lE iN) fol, 1), some (lE enE (L), 1), some (itE .cat, 0), some (kE 3, 0), x7, some (enE er, 0), some (enE el, 0), x10, x11, x12, x13] (wp_pop (en := enE) (l := L) rfl rfl) ?_
  refine wp_seq (rd_loop hm hr hM h2 h3 fun fol' x10 G => ?_)
  refine wp_to [a0, a1, a2, some (lE (lE iN) fol', 1), some (lE enE (L), 1), some (itE .cat, 0), some (kE 3, 0), x7, some (enE er, 0), some (enE el, 0), x10, some (lE iN el.2.1, 0), x12, x13] (wp_asg0 (d := lE iN el.2.1) (en1 (k := 0) rfl (by decide)) rfl) ?_
  refine wp_cut (RdF a0 a1 a2 (some (lE (lE iN) fol', 1)) (some (lE enE (L), 1)) (some (itE .cat, 0)) (some (kE 3, 0)) x7 (some (enE er, 0)) (some (enE el, 0)) x10 x12 x13 (if el.1 = true then el.2.1 ++ er.2.1 else el.2.1)) (wp_if (tr_b (k := 0) (en0 (k := 0) rfl (by decide))) (fun hb => wp_seq (wp_asg3 (d := lE iN (el.2.1 ++ er.2.1)) (ad_l (en := iN) (k := 0) (k' := 0) (en1 (k := 0) rfl (by decide)) (en1 (k := 0) rfl (by decide)) (by decide) (by decide) (by omega)) (wp_skip (by rw [if_pos hb]; exact .mk 1)))) (fun hb => wp_skip (by rw [if_neg (by rw [hb]; decide)]; exact .mk 0))) ?_
  rintro σ ⟨fl⟩
  refine wp_to [a0, a1, a2, some (lE (lE iN) fol', 1), some (lE enE (L), 1), some (itE .cat, 0), some (kE 3, 0), x7, some (enE er, 0), some (enE el, 0), x10, some (lE iN (if el.1 = true then el.2.1 ++ er.2.1 else el.2.1), fl), some (lE iN er.2.2, 0), x13] (wp_asg0 (d := lE iN er.2.2) (en2 (k := 0) rfl (by decide)) rfl) ?_
  refine wp_cut (RdF' a0 a1 a2 (some (lE (lE iN) fol', 1)) (some (lE enE (L), 1)) (some (itE .cat, 0)) (some (kE 3, 0)) x7 (some (enE er, 0)) (some (enE el, 0)) x10 (some (lE iN (if el.1 = true then el.2.1 ++ er.2.1 else el.2.1), fl)) x13 (if er.1 = true then el.2.2 ++ er.2.2 else er.2.2)) (wp_if (tr_b (k := 0) (en0 (k := 0) rfl (by decide))) (fun hb => wp_seq (wp_asg3 (d := lE iN (el.2.2 ++ er.2.2)) (ad_l (en := iN) (k := 0) (k' := 0) (en2 (k := 0) rfl (by decide)) (en2 (k := 0) rfl (by decide)) (by decide) (by decide) (by omega)) (wp_skip (by rw [if_pos hb]; exact .mk 1)))) (fun hb => wp_skip (by rw [if_neg (c := er.1 = true) (by rw [hb]; decide)]; exact .mk 0))) ?_
  rintro σ ⟨fl'⟩
  exact wp_seq (wp_appE (en := enE) (a := (el.1 && er.1, (if el.1 = true then el.2.1 ++ er.2.1 else el.2.1), (if er.1 = true then el.2.2 ++ er.2.2 else er.2.2))) (k := 0) rfl (en_x (k := 0) (k' := 0) (k'' := 0) (band_b (k := 0) (k' := 0) (en0 (k := 0) rfl (by decide)) fun _ => (en0 (k := 0) rfl (by decide))) rfl rfl rfl rfl rfl) rfl (Nat.lt_of_lt_of_le hL (by decide)) (wp_skip (wp_skip (wp_skip (wp_skip (h fol' x10 G))))))
theorem kd_rep' : ∀ k : Fin 3, kd (.rep k) ≠ 0 ∧ kd (.rep k) ≠ 1 ∧ kd (.rep k) ≠ 2 ∧ kd (.rep k) ≠ 4 ∧ kd (.rep k) ≠ 3 ∧ (!decide (kd (.rep k) = 6)) = decide (k.val ≠ 1) ∧ (!decide (kd (.rep k) = 7)) = decide (k.val ≠ 2) := by decide
theorem rd_rep {kk : Fin 3} (hL : L.length < 1000) (hm : m ≤ 5000) (hr : ∀ k, (rowN fol k).length ≤ m) (hM : ∀ k ∈ e.2.2, k < fol.length) (h1 : e.2.1.length ≤ 15) (h2 : e.2.2.length ≤ 15)
    (h : ∀ fol' x10, fol'.length = fol.length → (∀ k v, v ∈ rowN fol' k ↔ v ∈ rowN fol k ∨ (kk.val ≠ 2 ∧ k ∈ e.2.2 ∧ v ∈ e.2.1)) → (∀ k, (rowN fol' k).length ≤ m + 225) → N [a0, a1, a2, some (lE (lE iN) fol', 1), some (lE enE (L ++ [(e.1 || decide (kk.val ≠ 1), e.2.1, e.2.2)]), 1), some (itE (.rep kk), 0), some (kE (kd (.rep kk)), 0), x7, x8, x9, x10, x11, x12, some (enE e, 0)]) : WP readM [a0, a1, a2, some (lE (lE iN) fol, 1), some (lE enE (L ++ [e]), 1), some (itE (.rep kk), 0), some (kE (kd (.rep kk)), 0), x7, x8, x9, x10, x11, x12, x13] N B C R := by
  have hk := kd_rep' kk
  unfold readM
  refine wp_if (or_t (tr_b (eq_t enc_k (by decide) (a := kd (.rep kk)) (b := 0) rfl rfl)) fun _ => tr_b (eq_t enc_k (by decide) (a := kd (.rep kk)) (b := 1) rfl rfl)) (fun hb => ?_) (fun _ => ?_)
  · rw [Bool.or_eq_true] at hb
    exact hb.elim (fun h => absurd (of_decide_eq_true h) hk.1) (fun h => absurd (of_decide_eq_true h) hk.2.1)
  refine wp_seq (wp_if (tr_b (eq_t enc_k (by decide) (a := kd (.rep kk)) (b := 2) rfl rfl)) (fun hb => absurd (of_decide_eq_true hb) hk.2.2.1) (fun _ => ?_))
  refine wp_seq (wp_if (tr_b (eq_t enc_k (by decide) (a := kd (.rep kk)) (b := 4) rfl rfl)) (fun hb => absurd (of_decide_eq_true hb) hk.2.2.2.1) (fun _ => ?_))
  refine wp_seq (wp_if (tr_b (eq_t enc_k (by decide) (a := kd (.rep kk)) (b := 3) rfl rfl)) (fun hb => absurd (of_decide_eq_true hb) hk.2.2.2.2.1) (fun _ => ?_))
  refine wp_to [a0, a1, a2, some (lE (lE iN) fol, 1), some (lE enE (L), 1), some (itE (.rep kk), 0), some (kE (kd (.rep kk)), 0), x7, x8, x9, x10, x11, x12, some (enE e, 0)] (wp_pop (en := enE) (l := L) rfl rfl) ?_
  refine wp_seq (wp_if ((tr_b (eq_f enc_k (by decide) (a := kd (.rep kk)) (b := 7) rfl rfl)).trans (congrArg some hk.2.2.2.2.2.2)) (fun hb => ?_) (fun hb => wp_skip ?_))
  · have hb := of_decide_eq_true hb
    refine wp_seq (rd_loop2 hm hr hM h2 h1 fun fol' x10 G => wp_skip ?_)
    exact wp_seq (wp_appE (en := enE) (a := (e.1 || decide (kk.val ≠ 1), e.2.1, e.2.2)) (k := 0) rfl (en_x (k := 0) (k' := 0) (k'' := 0) (bor_b (k := 0) (k' := 0) (en0 (k := 0) rfl (by decide)) fun _ => by rw [← hk.2.2.2.2.2.1]; exact eq_f enc_k (by decide) (a := kd (.rep kk)) (b := 6) rfl rfl) rfl (en1 (k := 0) rfl (by decide)) rfl (en2 (k := 0) rfl (by decide)) rfl) rfl (Nat.lt_of_lt_of_le hL (by decide)) (wp_skip (wp_skip (wp_skip (wp_skip (h fol' x10 G.len (fun k v => by rw [G.mem, List.take_length]; simp only [hb, ne_eq, not_false_eq_true, true_and]) (fun k => Nat.le_trans (G.row k) (Nat.add_le_add_left (Nat.mul_le_mul_left 15 h2) m))))))))
  · have hb := of_decide_eq_false hb
    exact wp_seq (wp_appE (en := enE) (a := (e.1 || decide (kk.val ≠ 1), e.2.1, e.2.2)) (k := 0) rfl (en_x (k := 0) (k' := 0) (k'' := 0) (bor_b (k := 0) (k' := 0) (en0 (k := 0) rfl (by decide)) fun _ => by rw [← hk.2.2.2.2.2.1]; exact eq_f enc_k (by decide) (a := kd (.rep kk)) (b := 6) rfl rfl) rfl (en1 (k := 0) rfl (by decide)) rfl (en2 (k := 0) rfl (by decide)) rfl) rfl (Nat.lt_of_lt_of_le hL (by decide)) (wp_skip (wp_skip (wp_skip (wp_skip (h fol x10 rfl (fun k v => by simp only [hb, false_and, or_false]) (fun k => Nat.le_trans (hr k) (Nat.le_add_right _ _))))))))
end
open Re in
inductive RdI (its : List It) (t : Re) (j : Nat) : St → Prop
  | mk (ts : List Re) (fol : List (List Nat)) (es : List Ent) (x5 x6 x7 x8 x9 x10 x11 x12 x13 : Option (PyData × Nat)) : runI (its.drop j) ts = some [t] → RI ts fol es (300 * j) → nls ts ≤ j → ts.length ≤ j → RdI its t j [some (lE itE its, 0), some (iN (szs ts), 0), some (lE trE (lfs ts), 1), some (lE (lE iN) fol, 1), some (lE enE es.reverse, 1), x5, x6, x7, x8, x9, x10, x11, x12, x13]
open Re in
theorem rd_step {its : List It} {t : Re} (hl : its.length ≤ 15) {B : St → Prop} {R : PyData → Prop} (j : Nat) (σ : St) (it : It) (hit : its[j]? = some it) (h : RdI its t j σ) : WP readB (σ.set 5 (some (itE it, 0))) (RdI its t (j + 1)) B (RdI its t (j + 1)) R := by
  obtain ⟨ts, fol, es, x5, x6, x7, x8, x9, x10, x11, x12, x13, hrun, T, hnl, htl⟩ := h
  obtain ⟨hj, e⟩ := List.getElem?_eq_some_iff.mp hit
  rw [List.drop_eq_getElem_cons hj, e] at hrun
  obtain ⟨ts', hp, hrun'⟩ := runI_step hrun
  have hnl' : nls ts' ≤ j + 1 := Nat.le_trans hp.le.2 (Nat.succ_le_succ hnl)
  have htl' : ts'.length ≤ j + 1 := Nat.le_trans hp.len (Nat.succ_le_succ htl)
  have hn15 : nls ts ≤ 15 := by omega
  have hes := StkR_len T.st
  have hj15 : 300 * j ≤ 5000 := by omega
  clear hit hrun hnl e
  cases hp with
  | @sym c =>
    have hk := kd_sym c
    have hll : (lfs ts).length = nls ts := by unfold lfs; rw [List.length_map, lvsS_len]
    have hf1 : lfs ts ++ [(szs ts, lab c.val, szs ts + 1)] = lfs (Re.sym c.val :: ts) := by unfold lfs; rw [lvsS, List.map_append]; rfl
    refine rd_all (rd_leaf (q := nls ts) (c := lab c.val) (kd_01 c) hk.2.2.1 hk.2.2.2 hll (by omega) (by rw [List.length_reverse]; omega) (by rw [T.len]; omega) ?_)
    rw [hf1, ← List.reverse_cons]
    exact rd_end (fun h => absurd h hk.1) (fun _ => rfl) (.mk (Re.sym c.val :: ts) _ _ _ _ _ _ _ _ _ _ _ hrun' (RI.wk T.sym (Nat.mul_le_mul_left 300 (Nat.le_succ j))) hnl' htl')
  | eps =>
    have hf1 : lfs ts = lfs (Re.eps :: ts) := by unfold lfs; rw [lvsS, lvs, List.append_nil]
    refine rd_all (rd_eps (by rw [List.length_reverse]; omega) ?_)
    rw [hf1, ← List.reverse_cons]
    exact rd_end (it := .eps) (fun h => absurd h (by decide)) (fun _ => rfl) (.mk (Re.eps :: ts) _ _ _ _ _ _ _ _ _ _ _ hrun' (RI.wk T.eps (Nat.mul_le_mul_left 300 (Nat.le_succ j))) hnl' htl')
  | @alt l r ts =>
    obtain ⟨er, el, es, rfl⟩ := StkR_two T.st
    obtain ⟨⟨r1, r2, r3, r4, r5⟩, ⟨l1, l2, l3, l4, l5⟩, hs⟩ := T.st
    simp only [nls] at hn15
    have hel : es.length < 1000 := by simp only [List.length_cons] at hes htl; omega
    have hf1 : lfs (r :: l :: ts) = lfs (Re.alt l r :: ts) := by unfold lfs; simp only [lvsS, lvs, szs, List.append_assoc]
    rw [List.reverse_cons, List.reverse_cons]
    refine rd_all (rd_alt (by rw [List.length_reverse]; exact hel) (by omega) (by omega) ?_)
    rw [hf1, ← List.reverse_cons]
    exact rd_end (it := .alt) (s' := szs (Re.alt l r :: ts)) (fun h => absurd h (by decide)) (fun _ => by simp only [szs, sz]; omega) (.mk (Re.alt l r :: ts) _ _ _ _ _ _ _ _ _ _ _ hrun' (RI.wk T.alt (Nat.mul_le_mul_left 300 (Nat.le_succ j))) hnl' htl')
  | @cat l r ts =>
    obtain ⟨er, el, es, rfl⟩ := StkR_two T.st
    obtain ⟨⟨r1, r2, r3, r4, r5⟩, ⟨l1, l2, l3, l4, l5⟩, hs⟩ := T.st
    have hlen := T.len
    simp only [nls] at hn15 hlen
    have hel : es.length < 1000 := by simp only [List.length_cons] at hes htl; omega
    have hf1 : lfs (r :: l :: ts) = lfs (Re.cat l r :: ts) := by unfold lfs; simp only [lvsS, lvs, szs, List.append_assoc]
    have hM : ∀ k ∈ el.2.2, k < fol.length := fun k hk => by have := La_in ((l3 k).mp hk); omega
    have h2 : el.2.2.length ≤ 15 := by omega
    rw [List.reverse_cons, List.reverse_cons]
    refine rd_all (rd_cat (by rw [List.length_reverse]; exact hel) hj15 T.row hM (by omega) h2 (by omega) (by omega) fun fol' x10 G => ?_)
    rw [hf1, ← List.reverse_cons]
    have T' := T.cat (m' := 300 * (j + 1)) G.len (fun k v => by rw [G.mem, List.take_length]) (fun k => Nat.le_trans (G.row k) (Nat.add_le_add_left (Nat.le_trans (Nat.mul_le_mul_left 15 h2) (by decide)) _))
    exact rd_end (it := .cat) (s' := szs (Re.cat l r :: ts)) (fun _ => by simp only [szs, sz]; omega) (fun h => absurd rfl h) (.mk (Re.cat l r :: ts) _ _ _ _ _ _ _ _ _ _ _ hrun' T' hnl' htl')
  | @rep kk i ts =>
    obtain ⟨e, es, rfl⟩ := StkR_one T.st
    obtain ⟨⟨r1, r2, r3, r4, r5⟩, hs⟩ := T.st
    have hlen := T.len
    simp only [nls] at hn15 hlen
    have hel : es.length < 1000 := by simp only [List.length_cons] at hes htl; omega
    have hM : ∀ k ∈ e.2.2, k < fol.length := fun k hk => by have := La_in ((r3 k).mp hk); omega
    rw [List.reverse_cons]
    refine rd_all (rd_rep (by rw [List.length_reverse]; exact hel) hj15 T.row hM (by omega) (by omega) fun fol' x10 g1 g2 g3 => ?_)
    rw [← List.reverse_cons]
    have T' := T.rep (m' := 300 * (j + 1)) g1 g2 (fun k => Nat.le_trans (g3 k) (Nat.add_le_add_left (by decide) _))
    exact rd_end (it := .rep kk) (s' := szs (Re.rep kk.val i :: ts)) (fun h => absurd h (kd_rep kk).2.1) (fun _ => rfl) (.mk (Re.rep kk.val i :: ts) _ _ _ _ _ _ _ _ _ _ _ hrun' T' hnl' htl')
open Re in
theorem read_ok {its : List It} {t : Re} (hr : runI its [] = some [t]) (hl : its.length ≤ 15) :
    ∃ fol e, readF [lE itE its] = some (.tuple [iN (sz t), lE trE (lfs [t]), lE (lE iN) fol, enE e]) ∧ RI [t] fol [e] 4500 ∧ nl t ≤ 15 := by
  suffices main : ∃ v, readF [lE itE its] = some v ∧ ∃ fol e, v = .tuple [iN (sz t), lE trE (lfs [t]), lE (lE iN) fol, enE e] ∧ RI [t] fol [e] 4500 ∧ nl t ≤ 15 by
    obtain ⟨v, e, fol, en, rfl, h⟩ := main
    exact ⟨fol, en, e, h⟩
  refine fnX_ex rfl ?_
  unfold g2read
  refine wp_seq (wp_asg0 (d := iN 0) rfl ?_)
  refine wp_seq (wp_asg3 (d := lE trE []) rfl ?_)
  refine wp_seq (wp_asg3 (d := lE (lE iN) []) rfl ?_)
  refine wp_to [some (lE itE its, 0), some (iN 0, 0), some (lE trE [], 1), some (lE (lE iN) [], 1), some (lE enE [], 1), none, none, none, none, none, none, none, none, none] (wp_asg3 (d := lE enE []) rfl rfl) ?_
  refine wp_cut (RdI its t its.length) ?_ ?_
  · exact wp_it (en := itE) (l := its) (k := 0) (RdI its t) rfl rfl (.mk [] [] [] none none none none none none none none none hr RI.nil (Nat.le_refl _) (Nat.le_refl _)) (rd_step hl) (fun _ h => h)
  · rintro σ ⟨ts, fol, es, x5, x6, x7, x8, x9, x10, x11, x12, x13, hrun, T, hnl, htl⟩
    rw [List.drop_length] at hrun
    cases hrun
    obtain ⟨e, es, rfl⟩ := StkR_one T.st
    obtain rfl : es = [] := by
      have := T.st.2
      cases es with
      | nil => rfl
      | cons => exact this.elim
    have hz : szs [t] = sz t := Nat.zero_add _
    have hz' : nls [t] = nl t := Nat.zero_add _
    rw [hz]
    exact wp_seq (wp_ret (k := 0) (tup_x (ar_cons (k := 0) rfl rfl (ar_cons (k := 0) rfl rfl (ar_cons (k := 0) rfl rfl (ar_cons (k := 0) (d := enE e) (sub_l (j := 0) (k := 1) (k' := 0) (xs := [enE e]) rfl rfl (by decide) rfl) rfl ar_nil)))) (by show 4 ≤ 1000; decide)) rfl ⟨fol, e, rfl, RI.wk T (by omega), by omega⟩)
end Mine

set_option Elab.async false
set_option linter.unusedVariables false
set_option linter.unusedSectionVars false
set_option autoImplicit false
set_option maxRecDepth 10000
open PySem
namespace Mine
section
open Re
variable {t : Re} {es : Eds}
noncomputable def lfk (t : Re) (k : Nat) : Nat × Fin 5 := (lvs t 0)[k]?.getD (0, 0)
theorem lfs_one : lfs [t] = (lvs t 0).map fun x => (x.1, x.2, x.1 + 1) := by simp [lfs, lvsS, szs]
theorem lfk_get {k : Nat} (h : k < nl t) : (lvs t 0)[k]? = some (lfk t k) := by
  unfold lfk; rw [List.getElem?_eq_getElem (by rw [lvs_len]; exact h)]; rfl
theorem lfs_get {k : Nat} (h : k < nl t) : (lfs [t])[k]? = some ((lfk t k).1, (lfk t k).2, (lfk t k).1 + 1) := by
  rw [lfs_one, List.getElem?_map, lfk_get h]; rfl
theorem lfk_src {k : Nat} (h : k < nl t) : Src t 0 0 k (lfk t k).1 := Src_lvs.mpr ⟨(lfk t k).2, Nat.zero_le _, by rw [Nat.sub_zero, lfk_get h]⟩
theorem lfk_lt {k k' : Nat} (h : k < k') (h' : k' < nl t) : (lfk t k).1 < (lfk t k').1 := by
  have e1 := lfk_get (t := t) (k := k) (by omega)
  have e2 := lfk_get (t := t) (k := k') h'
  obtain ⟨h1, e1⟩ := List.getElem?_eq_some_iff.mp e1
  obtain ⟨h2, e2⟩ := List.getElem?_eq_some_iff.mp e2
  have := List.pairwise_iff_getElem.mp (lvs_sort t 0) k k' h1 h2 h
  rw [e1, e2] at this
  exact this
theorem lfk_mem {x : Nat × Fin 5} : x ∈ lvs t 0 ↔ ∃ k, k < nl t ∧ lfk t k = x := by
  constructor
  · intro h
    obtain ⟨k, hk, e⟩ := List.mem_iff_getElem.mp h
    rw [lvs_len] at hk
    refine ⟨k, hk, ?_⟩
    unfold lfk; rw [List.getElem?_eq_getElem (by rw [lvs_len]; exact hk), ← e]; rfl
  · rintro ⟨k, hk, rfl⟩
    exact List.mem_of_getElem? (lfk_get hk)
theorem any_rng2 {σ : St} {g : XE} {k n : Nat} {is : List Nat} {q : St → Option Bool} {fs : St} (e : g σ = some (iN n, k)) (hn : n ≤ 1000000) (e2 : freeOf is σ = some fs) (h : ∀ i, 1 ≤ i → i < n → q (some (iN i, 0) :: fs) = some false) :
    anyX is (rng2 (kX (PyData.int 1)) g) q σ = some (.bool false, 0) := by
  have e' : g σ = some (.int (n : Int), k) := e
  have e1 : rng2 (kX (PyData.int 1)) g σ = some (upFrom 1 (n - 1), 3) := by
    have : rng2 (kX (PyData.int 1)) g σ = if (-1000000 ≤ (1 : Int) ∧ (1 : Int) ≤ 1000000) ∧ -1000000 ≤ (n : Int) ∧ (n : Int) ≤ 1000000 then some (upFrom 1 ((n : Int) - 1).toNat, 3) else none := by
      unfold rng2; rw [e']; rfl
    rw [this, if_pos (by omega)]
    have : ((n : Int) - 1).toNat = n - 1 := by omega
    rw [this]
  have : ∀ m, m ≤ n - 1 → ∃ bs : List Bool, allQ fs q ((List.range' (n - 1 - m) m).map fun (i : Nat) => PyData.int (1 + i)) = some bs ∧ bs.any id = false := fun m => by
    induction m with
    | zero => intro _; exact ⟨[], rfl, rfl⟩
    | succ m ih =>
      intro hm
      obtain ⟨bs, h1, h2⟩ := ih (by omega)
      refine ⟨false :: bs, ?_, by simpa using h2⟩
      rw [List.range'_succ, List.map_cons]
      unfold allQ
      have h3 := h (1 + (n - 1 - (m + 1))) (by omega) (by omega)
      have h4 : PyData.int (1 + ((n - 1 - (m + 1) : Nat) : Int)) = iN (1 + (n - 1 - (m + 1))) := by unfold iN; congr 1
      rw [h4, h3]
      simp only
      rw [show n - 1 - (m + 1) + 1 = n - 1 - m by omega, h1]; rfl
  obtain ⟨bs, h1, h2⟩ := this (n - 1) (Nat.le_refl _)
  unfold anyX
  rw [e1, e2]
  simp only
  unfold upFrom
  rw [List.range_eq_range']
  rw [Nat.sub_self] at h1
  rw [h1, Option.map_some, h2]
theorem chars_abc : chars (Str.ofString "abc") = [lbE 1, lbE 2, lbE 3] := by rfl
theorem it_abc {σ : St} : itX (kX (PyData.str (Str.ofString "abc"))) σ = some ([lbE 1, lbE 2, lbE 3], 0) := by
  show (if (Str.ofString "abc").cps.all (· < 128) = true ∧ (Str.ofString "abc").length ≤ 1000 then some (chars (Str.ofString "abc"), 0) else none) = _
  rw [if_pos (by decide +kernel), chars_abc]
theorem dueSorted {p : Nat → Bool} : (((List.range (nl t)).filter p).map fun k => (lfk t k).1 + 1).Pairwise (· < ·) := by
  rw [List.pairwise_map]
  have h1 : ((List.range (nl t)).filter p).Pairwise (· < ·) := List.pairwise_lt_range.filter _
  refine h1.imp_of_mem fun {a b} ha hb h => ?_
  have := List.mem_range.mp (List.mem_filter.mp hb).1
  have := lfk_lt h this
  omega
end
end Mine

set_option Elab.async false
set_option linter.unusedVariables false
set_option linter.unusedSectionVars false
set_option autoImplicit false
set_option maxRecDepth 10000
open PySem
namespace Mine
open Re in
inductive SeI (t : Re) (es : Eds) (gs hd rs got tg : List Nat) (b : Bool) (j : Nat) : St → Prop
  | mk (x9 x10 : Option (PyData × Nat)) : SeI t es gs hd rs got tg b j [some (.tuple [iN (st t 0), iN (ac t 0), esE es], 0), some (lE trE (lfs [t]), 0), some (lE iN gs, 0), some (lE iN hd, 0), some (.bool b, 0), some (lE iN rs, 0), some (esE es, 0), some (lE iN got, 0), some (lE iN tg, 1), x9, x10]
open Re in
theorem set_ok {t : Re} {es : Eds} (T : TI [t] es 60) (ht : sz t ≤ 30) (hnl : nl t ≤ 15) {gs hd rs : List Nat} {b : Bool} (hg : ∀ u ∈ gs, u < sz t) (hgl : gs.length ≤ 900) {C : Nat → Prop} (hC : ∀ v, C v ↔ ∃ u ∈ gs, Rch (Ee es) u v)
    (hh : hd.Pairwise (· < ·)) (hhm : ∀ v, v ∈ hd ↔ C v ∧ ∃ x ∈ lvs t 0, v = x.1 + 1) (hb : b = true ↔ C (ac t 0)) (hr : ∀ k, k < nl t → (k ∈ rs ↔ C (lfk t k).1)) :
    setF [.tuple [iN (st t 0), iN (ac t 0), esE es], lE trE (lfs [t]), lE iN gs, lE iN hd, .bool b, lE iN rs] = some (.bool true) := by
  have E := T.ok (by decide) (by omega)
  obtain ⟨got, hgot, hgs, hgm⟩ := clos_ok E hg (by omega)
  have hgm' : ∀ v, v ∈ got ↔ C v := fun v => by rw [hgm, hC]
  have hgn : got.Nodup := hgs.imp fun h => Nat.ne_of_lt h
  have hglt : ∀ v ∈ got, v < sz t := fun v hv => by
    obtain ⟨u, hu, hr⟩ := (hgm v).mp hv
    exact hr.closed (P := fun v => v < sz t) (fun a b _ e => E.tgt a _ e) (hg u hu)
  have hgotl := lt_len hgn hglt
  have hcl2 : closF [esE es, lE iN (got.reverse ++ gs)] = some (lE iN got) := by
    obtain ⟨l, h1, h2, h3⟩ := clos_ok E (gs := got.reverse ++ gs) (fun u hu => (List.mem_append.mp hu).elim (fun h => hglt u (List.mem_reverse.mp h)) (hg u)) (by simp only [List.length_append, List.length_reverse]; omega)
    have : l = got := by
      refine sorted_eq h2 hgs fun v => ?_
      rw [h3, hgm]
      constructor
      · rintro ⟨u, hu, h⟩
        rcases List.mem_append.mp hu with hu | hu
        · obtain ⟨w, hw, h'⟩ := (hgm u).mp (List.mem_reverse.mp hu)
          exact ⟨w, hw, h'.trans h⟩
        · exact ⟨u, hu, h⟩
      · rintro ⟨u, hu, h⟩
        exact ⟨u, List.mem_append_right _ hu, h⟩
    rw [h1, this]
  let due : Fin 5 → List Nat := fun c => ((List.range (nl t)).filter fun k => decide (k ∈ rs) && decide ((lfk t k).2 ∈ [c, (4 : Fin 5)])).map fun k => (lfk t k).1 + 1
  have hst : ∀ c : Fin 5, c ≠ 0 → ∀ ss : List Nat, (∀ v, v ∈ ss ↔ C v) → stepF [esE es, lE iN ss, lbE c] = some (lE iN (due c)) := fun c hc ss hss => by
    obtain ⟨l, h1, h2, h3⟩ := step_ok E (ss := ss) (fun u hu => hglt u ((hgm' u).mpr ((hss u).mp hu))) c
    have : l = due c := by
      refine sorted_eq h2 dueSorted fun v => ?_
      rw [h3]
      constructor
      · rintro ⟨u, hu, ⟨a, w⟩, hx, ha, rfl⟩
        have ha0 : a ≠ 0 := by
          rcases ha with h | h
          · rw [show a = c from h]; exact hc
          · rw [show a = 4 from h]; decide
        obtain ⟨hm, rfl⟩ := (T.lb ha0).mp hx
        obtain ⟨k, hk, e⟩ := lfk_mem.mp hm
        refine List.mem_map.mpr ⟨k, List.mem_filter.mpr ⟨List.mem_range.mpr hk, ?_⟩, by rw [e]⟩
        rw [Bool.and_eq_true, decide_eq_true_iff, decide_eq_true_iff, hr k hk, e]
        exact ⟨(hss u).mp hu, by simpa using ha⟩
      · intro h
        obtain ⟨k, hk, rfl⟩ := List.mem_map.mp h
        obtain ⟨hk1, hk2⟩ := List.mem_filter.mp hk
        have hk1 := List.mem_range.mp hk1
        rw [Bool.and_eq_true, decide_eq_true_iff, decide_eq_true_iff, hr k hk1] at hk2
        have hm : lfk t k ∈ lvs t 0 := lfk_mem.mpr ⟨k, hk1, rfl⟩
        refine ⟨(lfk t k).1, (hss _).mpr hk2.1, ((lfk t k).2, (lfk t k).1 + 1), (T.lb (lvs_in hm).2.2).mpr ⟨hm, rfl⟩, by simpa using hk2.2, rfl⟩
    rw [h1, this]
  generalize htg : (lfs [t]).map (fun x => x.2.2) = tg
  have htgm : ∀ v, v ∈ tg ↔ ∃ x ∈ lvs t 0, v = x.1 + 1 := fun v => by
    rw [← htg, lfs_one, List.map_map, List.mem_map]
    constructor
    · rintro ⟨x, hx, rfl⟩; exact ⟨x, hx, rfl⟩
    · rintro ⟨x, hx, rfl⟩; exact ⟨x, hx, rfl⟩
  have htgl : tg.length ≤ 15 := by rw [← htg, List.length_map, lfs_one, List.length_map, lvs_len]; exact hnl
  refine fnX_of rfl ?_
  unfold g2set
  refine wp_to [some (.tuple [iN (st t 0), iN (ac t 0), esE es], 0), some (lE trE (lfs [t]), 0), some (lE iN gs, 0), some (lE iN hd, 0), some (.bool b, 0), some (lE iN rs, 0), some (esE es, 0), none, none, none, none] (wp_asg0 (d := esE es) (sub_t (j := 2) (k := 0) (k' := 0) rfl rfl (by decide) rfl) rfl) ?_
  refine wp_to [some (.tuple [iN (st t 0), iN (ac t 0), esE es], 0), some (lE trE (lfs [t]), 0), some (lE iN gs, 0), some (lE iN hd, 0), some (.bool b, 0), some (lE iN rs, 0), some (esE es, 0), some (lE iN got, 0), none, none, none] (wp_asg0 (d := lE iN got) (call_x (ar_cons (k := 0) rfl rfl (ar_cons (k := 0) rfl rfl ar_nil)) hgot) rfl) ?_
  refine wp_seq (wp_if (and_t (tr_b (eq_t (enc_l enc_n) (by decide) (a := gs) (b := []) rfl rfl)) fun _ => tr_b (eq_f (enc_l enc_n) (by decide) (a := got) (b := []) rfl rfl)) (fun hq => ?_) (fun _ => wp_skip ?_))
  · exfalso
    rw [Bool.and_eq_true, decide_eq_true_iff] at hq
    have : got = [] := List.eq_nil_iff_forall_not_mem.mpr fun v hv => by
      obtain ⟨u, hu, _⟩ := (hgm v).mp hv
      rw [hq.1] at hu; cases hu
    rw [this] at hq
    exact nomatch hq.2
  refine wp_seq (wp_ifF (tr_b (any_rng2 (n := got.length) (k := 0) (len_e (en := iN) rfl) (by omega) rfl fun i h1 h2 => ?_)) (wp_skip ?_))
  · have hlt : got[i - 1] < got[i] := List.pairwise_iff_getElem.mp hgs (i - 1) i (by omega) h2 (by omega)
    refine (tr_b (c2_n (a := (got[i - 1] : Int)) (b := (got[i] : Int)) (k := 0) (k' := 0) (sub_e (en := iN) (j := i - 1) (k := 0) (k' := 0) rfl (sub_n (a := i) (b := 1) (k := 0) (k' := 0) rfl rfl h1) (by decide) (List.getElem?_eq_getElem (by omega))) (sub_e (en := iN) (j := i) (k := 0) (k' := 0) rfl rfl (by decide) (List.getElem?_eq_getElem h2)))).trans ?_
    rw [decide_eq_false (by omega)]
  refine wp_seq (wp_ifF ((tr_b (eq_f (enc_l enc_n) (by decide) (a := got) (b := got) (k := 0) (k' := 0) (call_x (ar_cons (k := 0) rfl rfl (ar_cons (k := 3) (ad_l (en := iN) (k := 3) (k' := 0) (rev_e (en := iN) (k := 0) rfl (by decide)) rfl (by decide) (by decide) (by rw [List.length_reverse]; omega)) rfl ar_nil)) hcl2) rfl)).trans (by rw [decide_eq_true rfl]; rfl)) (wp_skip ?_))
  refine wp_to [some (.tuple [iN (st t 0), iN (ac t 0), esE es], 0), some (lE trE (lfs [t]), 0), some (lE iN gs, 0), some (lE iN hd, 0), some (.bool b, 0), some (lE iN rs, 0), some (esE es, 0), some (lE iN got, 0), some (lE iN tg, 1), none, none] (wp_asg3 (d := lE iN tg) (by rw [← htg]; exact comp_it (en := trE) (en' := iN) (l := lfs [t]) (k := 0) (fun x => x.2.2) rfl (.inl rfl) rfl fun x hx => ⟨0, tri2 (k := 0) rfl (by decide), rfl⟩) rfl) ?_
  have hfil : compX [8] (itX (vX 7)) (trX (inX true (vX 0) (vX 1))) (vX 0) [some (.tuple [iN (st t 0), iN (ac t 0), esE es], 0), some (lE trE (lfs [t]), 0), some (lE iN gs, 0), some (lE iN hd, 0), some (.bool b, 0), some (lE iN rs, 0), some (esE es, 0), some (lE iN got, 0), some (lE iN tg, 1), none, none] = some (lE iN hd, 3) := by
    have := comp_itF (f := vX 7) (is := [8]) (ft := trX (inX true (vX 0) (vX 1))) (fe := vX 0) (σ := [some (.tuple [iN (st t 0), iN (ac t 0), esE es], 0), some (lE trE (lfs [t]), 0), some (lE iN gs, 0), some (lE iN hd, 0), some (.bool b, 0), some (lE iN rs, 0), some (esE es, 0), some (lE iN got, 0), some (lE iN tg, 1), none, none]) (en := iN) (en' := iN) (l := got) (k := 0) (fun s => decide (s ∈ tg)) (fun s => s) rfl (.inl rfl) rfl fun x hx => ⟨tr_b (in_t enc_n (by decide) (a := x) (l := tg) rfl rfl), fun _ => ⟨0, rfl, rfl⟩⟩
    rw [this, List.map_id']
    congr 3
    refine sorted_eq (hgs.filter _) hh fun v => ?_
    rw [List.mem_filter, decide_eq_true_iff, hgm', htgm, hhm]
  refine wp_seq (wp_ifF ((tr_b (eq_f (enc_l enc_n) (by decide) (a := hd) (b := hd) (k := 3) (k' := 0) hfil rfl)).trans (by rw [decide_eq_true rfl]; rfl)) (wp_skip ?_))
  have hfin : decide (ac t 0 ∈ got) = b := by
    have h1 := hgm' (ac t 0)
    cases b with
    | true => exact decide_eq_true (h1.mpr (hb.mp rfl))
    | false => exact decide_eq_false fun h => nomatch hb.mpr (h1.mp h)
  refine wp_seq (wp_ifF ((tr_b (eq_f enc_b (by decide) (a := decide (ac t 0 ∈ got)) (b := b) (k := 0) (k' := 0) (in_t enc_n (by decide) (a := ac t 0) (l := got) (sub_t (j := 1) (k := 0) (k' := 0) rfl rfl (by decide) rfl) rfl) rfl)).trans (by rw [decide_eq_true hfin]; rfl)) (wp_skip ?_))
  refine wp_cut (SeI t es gs hd rs got tg b 3) ?_ (fun σ h => wp_seq (wp_ret (k := 0) rfl rfl rfl))
  refine wp_for (xs := [lbE 1, lbE 2, lbE 3]) (k := 0) (SeI t es gs hd rs got tg b) it_abc rfl (.mk none none) ?_ (fun σ h => h)
  rintro j σ d hd' ⟨x9, x10⟩
  obtain ⟨c, hc, rfl⟩ : ∃ c : Fin 5, c ≠ 0 ∧ d = lbE c := by
    have := List.mem_of_getElem? hd'
    simp only [List.mem_cons, List.not_mem_nil, or_false] at this
    rcases this with h | h | h
    · exact ⟨1, by decide, h⟩
    · exact ⟨2, by decide, h⟩
    · exact ⟨3, by decide, h⟩
  have hdue : compX [9, 1, 5] (rng1 (lenX (vX 1))) (andT (trX (inX true (vX 0) (vX 3))) (trX (inX true (subX (subX (vX 2) (vX 0)) (kX (PyData.int 1))) (tupX [vX 1, kX (PyData.str (Str.ofString "."))])))) (subX (subX (vX 2) (vX 0)) (kX (PyData.int 2))) [some (.tuple [iN (st t 0), iN (ac t 0), esE es], 0), some (lE trE (lfs [t]), 0), some (lE iN gs, 0), some (lE iN hd, 0), some (.bool b, 0), some (lE iN rs, 0), some (esE es, 0), some (lE iN got, 0), some (lE iN tg, 1), some (lbE c, 0), x10] = some (lE iN (due c), 3) := by
    have hll : (lfs [t]).length = nl t := by rw [lfs_one, List.length_map, lvs_len]
    refine comp_rngF (en' := iN) (n := nl t) (k := 0) (fun k => decide (k ∈ rs) && decide ((lfk t k).2 ∈ [c, (4 : Fin 5)])) (fun k => (lfk t k).1 + 1) (by rw [← hll]; exact len_e (en := trE) rfl) (by omega) rfl fun k hk => ?_
    have hget := lfs_get (t := t) hk
    refine ⟨and_t (tr_b (in_t enc_n (by decide) (a := k) (l := rs) rfl rfl)) fun _ => tr_b (in_tt enc_lb (by decide) (a := (lfk t k).2) (l := [c, 4]) (k := 0) (k' := 0) (tri1 (k := 0) (sub_e (en := trE) (j := k) (k := 0) (k' := 0) rfl rfl (by decide) hget) (by decide)) (tup_x (ar_cons (k := 0) rfl rfl (ar_cons (k := 0) rfl rfl ar_nil)) (by show 2 ≤ 1000; decide))), fun _ => ⟨0, tri2 (k := 0) (sub_e (en := trE) (j := k) (k := 0) (k' := 0) rfl rfl (by decide) hget) (by decide), rfl⟩⟩
  refine wp_to [some (.tuple [iN (st t 0), iN (ac t 0), esE es], 0), some (lE trE (lfs [t]), 0), some (lE iN gs, 0), some (lE iN hd, 0), some (.bool b, 0), some (lE iN rs, 0), some (esE es, 0), some (lE iN got, 0), some (lE iN tg, 1), some (lbE c, 0), some (lE iN (due c), 1)] (wp_asg3 (d := lE iN (due c)) hdue rfl) ?_
  refine wp_seq (wp_ifF ((tr_b (eq_f (enc_l enc_n) (by decide) (a := due c) (b := due c) (k := 0) (k' := 1) (call_x (ar_cons (k := 0) rfl rfl (ar_cons (k := 0) rfl rfl (ar_cons (k := 0) rfl rfl ar_nil))) (hst c hc got hgm')) rfl)).trans (by rw [decide_eq_true rfl]; rfl)) (wp_skip ?_))
  refine wp_seq (wp_ifF ((tr_b (eq_f (enc_l enc_n) (by decide) (a := due c) (b := due c) (k := 0) (k' := 1) (call_x (ar_cons (k := 0) rfl rfl (ar_cons (k := 3) (ad_l (en := iN) (k := 3) (k' := 0) (rev_e (en := iN) (k := 0) rfl (by decide)) rfl (by decide) (by decide) (by rw [List.length_reverse]; omega)) rfl (ar_cons (k := 0) rfl rfl ar_nil))) (hst c hc (got.reverse ++ got) fun v => by rw [List.mem_append, List.mem_reverse, or_self]; exact hgm' v)) rfl)).trans (by rw [decide_eq_true rfl]; rfl)) (wp_skip (wp_skip (.mk _ _))))
end Mine

set_option Elab.async false
set_option linter.unusedVariables false
set_option linter.unusedSectionVars false
set_option autoImplicit false
set_option maxRecDepth 10000
open PySem
namespace Mine
theorem compL_F {α β : Type} {en : α → PyData} {en' : β → PyData} {ft : St → Option Bool} {fe : XE} {fs : St} (p : α → Bool) (h : α → β) : ∀ ys : List α, (∀ x ∈ ys, ft (some (en x, 0) :: fs) = some (p x) ∧ (p x = true → ∃ k, fe (some (en x, 0) :: fs) = some (en' (h x), k) ∧ (k == 0 || k == 3) = true)) → compL fs ft fe (ys.map en) = some (((ys.filter p).map h).map en') := fun ys => by
  induction ys with
  | nil => intro _; rfl
  | cons y ys ih =>
    intro hy
    obtain ⟨h1, hh⟩ := hy y List.mem_cons_self
    have ih' := ih fun x hx => hy x (List.mem_cons_of_mem _ hx)
    rw [List.map_cons]
    unfold compL
    rw [h1]
    cases hp : p y with
    | false => simp only [List.filter_cons, hp]; exact ih'
    | true =>
      obtain ⟨k, h2, h3⟩ := hh hp
      simp only [h2, h3, if_true, ih', List.filter_cons, hp]
      rfl
theorem comp2L_ok {α γ : Type} {en1 : α → PyData} {en' : γ → PyData} {fs : St} {fi : XI} {ft : St → Option Bool} {fe : XE} (F : α → List γ) : ∀ l : List α, (∀ a ∈ l, ∃ ys k, fi (some (en1 a, 0) :: fs) = some (ys, k) ∧ (k == 0 || k == 3) = true ∧ compL (some (en1 a, 0) :: fs) ft fe ys = some ((F a).map en')) → comp2L fs fi ft fe (l.map en1) = some ((l.flatMap F).map en') := fun l => by
  induction l with
  | nil => intro _; rfl
  | cons a l ih =>
    intro h
    obtain ⟨ys, k, h1, h2, h3⟩ := h a List.mem_cons_self
    have ih' := ih fun x hx => h x (List.mem_cons_of_mem _ hx)
    rw [List.map_cons]
    unfold comp2L
    rw [h1]
    simp only [h2, if_true, h3, ih', Option.map_some, List.flatMap_cons, List.map_append]
theorem up_iN (n : Nat) : upFrom 0 n = (List.range n).map iN := by
  unfold upFrom
  refine List.map_congr_left fun x _ => ?_
  rw [Int.zero_add]; rfl
theorem any_n (a : Nat) : ∀ L : List Nat, ((L.map fun (x : Nat) => (x : Int)).any fun x => x == (a : Int)) = decide (a ∈ L)
  | [] => by simp
  | b :: L => by
    rw [List.map_cons, List.any_cons, any_n a L]
    by_cases q : b = a
    · subst q; simp
    · have h1 : ((b : Int) == (a : Int)) = false := by rw [beq_eq_false_iff_ne]; omega
      have h2 : (a ∈ b :: L) = (a ∈ L) := by simp [Ne.symm q]
      rw [h1, Bool.false_or]
      simp only [h2]
theorem inI_n {σ : St} {f g : XE} {k k' a : Nat} {L : List Nat} (e1 : f σ = some (iN a, k)) (e2 : g σ = some (lE iN L, k')) : inI f g σ = some (decide (a ∈ L)) := by
  have e1' : f σ = some (.int (a : Int), k) := e1
  have e2' : g σ = some (.list (L.map iN), k') := e2
  have h : toInts (L.map iN) = some (L.map fun (x : Nat) => (x : Int)) := by
    have := toInts_map (L.map fun (x : Nat) => (x : Int))
    rw [List.map_map] at this; exact this
  unfold inI
  rw [e1', e2']
  simp only [h, Option.map_some]
  rw [any_n]
open Re in
theorem scan_ok {ns : List Int} {its : List It} {t : Re} {es : Eds} {fol : List (List Nat)} {e : Ent} (T : TI [t] es 60) (ht : sz t ≤ 30) (hnl : nl t ≤ 15) :
    comp2X [7] (rng1 (lenX (vX 7))) (itX (subX (vX 1) (vX 0))) (trX (eqX false (subX (vX 0) (kX (PyData.int 0))) (kX (PyData.str (Str.ofString ""))))) (tupX [vX 1, subX (vX 0) (kX (PyData.int 0)), subX (vX 0) (kX (PyData.int 1))]) [some (lE PyData.int ns, 0), some (lE itE its, 0), some (iN (sz t), 0), some (lE trE (lfs [t]), 0), some (lE (lE iN) fol, 0), some (enE e, 0), some (.tuple [iN (st t 0), iN (ac t 0), esE es], 0), some (esE es, 0), none, none, none, none, none, none] = some (lE trE (lfs [t]), 3) := by
  have E := T.ok (by decide) (by omega)
  have e1 : rng1 (lenX (vX 7)) [some (lE PyData.int ns, 0), some (lE itE its, 0), some (iN (sz t), 0), some (lE trE (lfs [t]), 0), some (lE (lE iN) fol, 0), some (enE e, 0), some (.tuple [iN (st t 0), iN (ac t 0), esE es], 0), some (esE es, 0), none, none, none, none, none, none] = some ((List.range (sz t)).map iN, 3) := by
    rw [← up_iN]
    exact rng1_n (n := sz t) (k := 0) (by rw [← E.len]; exact len_e (en := lE edE) rfl) (by omega)
  have e2 : comp2L [some (esE es, 0)] (itX (subX (vX 1) (vX 0))) (trX (eqX false (subX (vX 0) (kX (PyData.int 0))) (kX (PyData.str (Str.ofString ""))))) (tupX [vX 1, subX (vX 0) (kX (PyData.int 0)), subX (vX 0) (kX (PyData.int 1))]) ((List.range (sz t)).map iN) = some ((lfs [t]).map trE) := by
    rw [lfs_one, ← T.flat]
    refine comp2L_ok (en' := trE) _ _ fun s hs => ⟨(rowOf es s).map edE, 0, ?_, rfl, ?_⟩
    · exact it_l (k := 0) (sub_e (en := lE edE) (j := s) (k := 0) (k' := 0) rfl rfl (by decide) (rowOf_get (by rw [E.len]; exact List.mem_range.mp hs))) (.inl rfl)
    · refine compL_F (en := edE) (en' := trE) (fun x => decide (x.1 ≠ 0)) (fun x => (s, x.1, x.2)) _ fun x hx => ⟨?_, fun _ => ⟨0, tr_x (k := 0) (k' := 0) (k'' := 0) rfl rfl (ed0 (k := 0) rfl (by decide)) rfl (ed1 (k := 0) rfl (by decide)) rfl, rfl⟩⟩
      refine (tr_b (eq_f enc_lb (by decide) (a := x.1) (b := 0) (k := 0) (k' := 0) (ed0 (k := 0) rfl (by decide)) rfl)).trans ?_
      by_cases h : x.1 = 0 <;> simp [h]
  have e3 : freeOf [7] [some (lE PyData.int ns, 0), some (lE itE its, 0), some (iN (sz t), 0), some (lE trE (lfs [t]), 0), some (lE (lE iN) fol, 0), some (enE e, 0), some (.tuple [iN (st t 0), iN (ac t 0), esE es], 0), some (esE es, 0), none, none, none, none, none, none] = some [some (esE es, 0)] := rfl
  unfold comp2X
  rw [e1, e3]
  simp only [e2]
  rw [if_pos (by rw [List.length_map, lfs_one, List.length_map, lvs_len]; omega)]
  rfl
open Re in
inductive LaI (ns : List Int) (its : List It) (t : Re) (es : Eds) (fol : List (List Nat)) (e : Ent) (m : Nat) (ch : List Nat) (j : Nat) : St → Prop
  | mk (rs : List Nat) (x11 : Option (PyData × Nat)) : (∀ v, v ∈ rs ↔ ∃ k ∈ ch.take j, v ∈ rowN fol k) → rs.length ≤ 4500 * j → LaI ns its t es fol e m ch j [some (lE PyData.int ns, 0), some (lE itE its, 0), some (iN (sz t), 0), some (lE trE (lfs [t]), 0), some (lE (lE iN) fol, 0), some (enE e, 0), some (.tuple [iN (st t 0), iN (ac t 0), esE es], 0), some (esE es, 0), some (iN m, 0), some (lE iN ch, 0), some (lE iN rs, 1), x11, none, none]
open Re in
theorem plain2 (ns : List Int) : law2F [.list (ns.map .int)] = some (.bool true) := by
  obtain ⟨its, t, hpost, hrun, hlen⟩ := post_ok ns
  obtain ⟨es, hth, T, ht⟩ := thom_ok hrun hlen
  obtain ⟨fol, e, hrd, hR, hnl⟩ := read_ok hrun hlen
  have E := T.ok (by decide) (by omega)
  obtain ⟨⟨he0, he1, he2, he3, he4⟩, _⟩ := hR.st
  have hfl : fol.length = nl t := by rw [hR.len]; simp only [nls]; omega
  have hll : (lfs [t]).length = nl t := by rw [lfs_one, List.length_map, lvs_len]
  have hE : ∀ u v, Rch (Ee es) u v ↔ Rch (Ed t 0) u v := fun u v => ⟨Rch.mono fun a b => (T.ee a b).mp, Rch.mono fun a b => (T.ee a b).mpr⟩
  have set1 : setF [.tuple [iN (st t 0), iN (ac t 0), esE es], lE trE (lfs [t]), lE iN [st t 0], lE iN [], .bool e.1, lE iN e.2.1] = some (.bool true) := by
    refine set_ok T ht hnl (C := RS t 0) (fun u hu => ?_) (by simp) (fun v => ?_) List.Pairwise.nil (fun v => ?_) ?_ (fun k hk => ?_)
    · rw [List.mem_singleton.mp hu]; have := st_in t 0; omega
    · simp only [List.mem_singleton, exists_eq_left]
      rw [hE, reach_st]
    · refine ⟨fun h => (nomatch h), ?_⟩
      rintro ⟨h1, x, hx, rfl⟩
      obtain ⟨k, hk, rfl⟩ := lfk_mem.mp hx
      exact absurd h1 (RS_tgt (lfk_src hk))
    · rw [he0]; exact nu_ok t 0
    · rw [he1]; exact Fi_ok (lfk_src hk)
  show law2F [lE PyData.int ns] = _
  refine fnX_of rfl ?_
  unfold g2law
  refine wp_to [some (lE PyData.int ns, 0), some (lE itE its, 0), none, none, none, none, none, none, none, none, none, none, none, none] (wp_asg0 (d := lE itE its) (call_x (ar_cons (k := 0) rfl rfl ar_nil) hpost) rfl) ?_
  refine wp_to [some (lE PyData.int ns, 0), some (lE itE its, 0), some (iN (sz t), 0), some (lE trE (lfs [t]), 0), some (lE (lE iN) fol, 0), some (enE e, 0), none, none, none, none, none, none, none, none] (wp_unp (call_x (ar_cons (k := 0) rfl rfl ar_nil) hrd) rfl rfl) ?_
  refine wp_to [some (lE PyData.int ns, 0), some (lE itE its, 0), some (iN (sz t), 0), some (lE trE (lfs [t]), 0), some (lE (lE iN) fol, 0), some (enE e, 0), some (.tuple [iN (st t 0), iN (ac t 0), esE es], 0), none, none, none, none, none, none, none] (wp_asg0 (d := .tuple [iN (st t 0), iN (ac t 0), esE es]) (call_x (ar_cons (k := 0) rfl rfl ar_nil) hth) rfl) ?_
  refine wp_to [some (lE PyData.int ns, 0), some (lE itE its, 0), some (iN (sz t), 0), some (lE trE (lfs [t]), 0), some (lE (lE iN) fol, 0), some (enE e, 0), some (.tuple [iN (st t 0), iN (ac t 0), esE es], 0), some (esE es, 0), none, none, none, none, none, none] (wp_asg0 (d := esE es) (sub_t (j := 2) (k := 0) (k' := 0) rfl rfl (by decide) rfl) rfl) ?_
  refine wp_seq (wp_ifF ((tr_b (eq_f enc_n (by decide) (a := es.length) (b := sz t) (len_e (en := lE edE) rfl) rfl)).trans (by rw [decide_eq_true E.len]; rfl)) (wp_skip ?_))
  refine wp_seq (wp_ifF ((tr_b (eq_f (enc_l enc_tr) (by decide) (a := lfs [t]) (b := lfs [t]) (k := 3) (k' := 0) (scan_ok T ht hnl) rfl)).trans (by rw [decide_eq_true rfl]; rfl)) (wp_skip ?_))
  refine wp_to [some (lE PyData.int ns, 0), some (lE itE its, 0), some (iN (sz t), 0), some (lE trE (lfs [t]), 0), some (lE (lE iN) fol, 0), some (enE e, 0), some (.tuple [iN (st t 0), iN (ac t 0), esE es], 0), some (esE es, 0), none, none, none, none, none, none] (wp_frz (wp_ifF (not_t (b := true) (tr_b (call_x (ar_cons (k := 0) rfl rfl (ar_cons (k := 0) rfl rfl (ar_cons (k := 3) (one_x (a := st t 0) (k := 0) (sub_t (j := 0) (k := 0) (k' := 0) rfl rfl (by decide) rfl) rfl) rfl (ar_cons (k := 3) (d := lE iN []) rfl rfl (ar_cons (k := 0) (en0 (k := 0) rfl (by decide)) rfl (ar_cons (k := 0) (en1 (k := 0) rfl (by decide)) rfl ar_nil)))))) set1))) (wp_skip rfl))) ?_
  generalize hm : md (ns[1]?.getD 0) 16 = m
  refine wp_to [some (lE PyData.int ns, 0), some (lE itE its, 0), some (iN (sz t), 0), some (lE trE (lfs [t]), 0), some (lE (lE iN) fol, 0), some (enE e, 0), some (.tuple [iN (st t 0), iN (ac t 0), esE es], 0), some (esE es, 0), some (iN m, 0), none, none, none, none, none] (wp_asg0 (d := iN m) (by rw [← hm]; exact mod_n (m := 16) (cell2 (i := 1) (k := 0) (k' := 0) rfl rfl rfl rfl) (k' := 0) rfl (by decide)) rfl) ?_
  obtain ⟨p, hp⟩ : ∃ p : Nat → Bool, ∀ k : Nat, p k = decide (Builtin.bitAnd ((m : Int).fdiv (2 ^ ((k : Int)).toNat)) 1 = 1) := ⟨fun k => decide (Builtin.bitAnd ((m : Int).fdiv (2 ^ ((k : Int)).toNat)) 1 = 1), fun _ => rfl⟩
  have hchosen : compX [8] (rng1 (lenX (vX 3))) (trX (eqX true (i2X (fun a b => some (Builtin.bitAnd a b)) (i2X (fun a b => if 0 ≤ b then some (a.fdiv (2 ^ b.toNat)) else none) (vX 1) (vX 0)) (kX (PyData.int 1))) (kX (PyData.int 1)))) (vX 0) [some (lE PyData.int ns, 0), some (lE itE its, 0), some (iN (sz t), 0), some (lE trE (lfs [t]), 0), some (lE (lE iN) fol, 0), some (enE e, 0), some (.tuple [iN (st t 0), iN (ac t 0), esE es], 0), some (esE es, 0), some (iN m, 0), none, none, none, none, none] = some (lE iN ((List.range (nl t)).filter p), 3) := by
    have := comp_rngF (f := lenX (vX 3)) (σ := [some (lE PyData.int ns, 0), some (lE itE its, 0), some (iN (sz t), 0), some (lE trE (lfs [t]), 0), some (lE (lE iN) fol, 0), some (enE e, 0), some (.tuple [iN (st t 0), iN (ac t 0), esE es], 0), some (esE es, 0), some (iN m, 0), none, none, none, none, none]) (k := 0) (is := [8]) (ft := trX (eqX true (i2X (fun a b => some (Builtin.bitAnd a b)) (i2X (fun a b => if 0 ≤ b then some (a.fdiv (2 ^ b.toNat)) else none) (vX 1) (vX 0)) (kX (PyData.int 1))) (kX (PyData.int 1)))) (fe := vX 0) (en' := iN) (n := nl t) p (fun k => k) (by rw [← hll]; exact len_e (en := trE) rfl) (by omega) rfl fun k hk => ⟨by rw [hp]; exact tr_b (eq_t enc_i (by decide) (a := Builtin.bitAnd ((m : Int).fdiv (2 ^ ((k : Int)).toNat)) 1) (b := 1) (k := 0) (k' := 0) (i2_n (a := (m : Int).fdiv (2 ^ ((k : Int)).toNat)) (b := 1) (k := 0) (k' := 0) (i2_n (a := (m : Int)) (b := (k : Int)) (k := 0) (k' := 0) rfl rfl (if_pos (Int.natCast_nonneg _))) rfl rfl) rfl), fun _ => ⟨0, rfl, rfl⟩⟩
    rw [this, List.map_id']
  generalize hch : (List.range (nl t)).filter p = ch at hchosen
  have hchl : ∀ k ∈ ch, k < nl t := fun k hk => by rw [← hch] at hk; exact List.mem_range.mp (List.mem_filter.mp hk).1
  have hcl : ch.length ≤ 15 := by
    rw [← hch]
    have := List.length_filter_le p (List.range (nl t))
    rw [List.length_range] at this
    omega
  refine wp_to [some (lE PyData.int ns, 0), some (lE itE its, 0), some (iN (sz t), 0), some (lE trE (lfs [t]), 0), some (lE (lE iN) fol, 0), some (enE e, 0), some (.tuple [iN (st t 0), iN (ac t 0), esE es], 0), some (esE es, 0), some (iN m, 0), some (lE iN ch, 1), none, none, none, none] (wp_asg3 (d := lE iN ch) hchosen rfl) ?_
  refine wp_to [some (lE PyData.int ns, 0), some (lE itE its, 0), some (iN (sz t), 0), some (lE trE (lfs [t]), 0), some (lE (lE iN) fol, 0), some (enE e, 0), some (.tuple [iN (st t 0), iN (ac t 0), esE es], 0), some (esE es, 0), some (iN m, 0), some (lE iN ch, 1), some (lE iN [], 1), none, none, none] (wp_asg3 (d := lE iN []) rfl rfl) ?_
  refine wp_cut (LaI ns its t es fol e m ch ch.length) ?_ ?_
  · refine wp_it (en := iN) (l := ch) (k := 0) (LaI ns its t es fol e m ch) rfl rfl (.mk [] none (by simp) (Nat.le_refl _)) ?_ (fun _ h => h)
    · rintro j σ k hk ⟨rs, x11, h1, h2⟩
      have hkl := hchl k (List.mem_of_getElem? hk)
      have hj : j < ch.length := (List.getElem?_eq_some_iff.mp hk).1
      have hrow := hR.row k
      refine wp_seq (wp_asg3 (d := lE iN (rs ++ rowN fol k)) (ad_l (en := iN) (k := 1) (k' := 0) rfl (sub_e (en := lE iN) (j := k) (k := 0) (k' := 0) rfl rfl (by decide) (rowN_get (by omega))) (by decide) (by decide) (by omega)) (wp_skip (.mk (rs ++ rowN fol k) (some (iN k, 0)) (fun v => ?_) (by rw [List.length_append]; omega))))
      rw [List.mem_append, h1, List.take_add_one, hk]
      constructor
      · rintro (⟨k', hk', h⟩ | h)
        · exact ⟨k', List.mem_append_left _ hk', h⟩
        · exact ⟨k, by simp, h⟩
      · rintro ⟨k', hk', h⟩
        rcases List.mem_append.mp hk' with hk' | hk'
        · exact .inl ⟨k', hk', h⟩
        · simp at hk'; subst hk'; exact .inr h
  rintro σ ⟨rs, x11, hrs, _⟩
  rw [List.take_length] at hrs
  generalize hhd : ch.map (fun k => (lfk t k).1 + 1) = hd
  refine wp_to [some (lE PyData.int ns, 0), some (lE itE its, 0), some (iN (sz t), 0), some (lE trE (lfs [t]), 0), some (lE (lE iN) fol, 0), some (enE e, 0), some (.tuple [iN (st t 0), iN (ac t 0), esE es], 0), some (esE es, 0), some (iN m, 0), some (lE iN ch, 0), some (lE iN rs, 1), x11, some (lE iN hd, 1), none] (wp_asg3 (d := lE iN hd) (by
    rw [← hhd]
    exact comp_it (en := iN) (en' := iN) (l := ch) (k := 0) (fun k => (lfk t k).1 + 1) rfl (.inl rfl) rfl fun k hk => ⟨0, tri2 (k := 0) (sub_e (en := trE) (j := k) (k := 0) (k' := 0) rfl rfl (by decide) (lfs_get (hchl k hk))) (by decide), rfl⟩) rfl) ?_
  generalize hfb : ch.any (fun k => decide (k ∈ e.2.2)) = fb
  refine wp_to [some (lE PyData.int ns, 0), some (lE itE its, 0), some (iN (sz t), 0), some (lE trE (lfs [t]), 0), some (lE (lE iN) fol, 0), some (enE e, 0), some (.tuple [iN (st t 0), iN (ac t 0), esE es], 0), some (esE es, 0), some (iN m, 0), some (lE iN ch, 0), some (lE iN rs, 1), x11, some (lE iN hd, 1), some (.bool fb, 0)] (wp_asg0 (d := .bool fb) (by
    rw [← hfb]
    exact any_it (en := iN) (l := ch) (k := 0) (fun k => decide (k ∈ e.2.2)) rfl (.inl rfl) rfl fun k hk => inI_n (a := k) (L := e.2.2) (k := 0) (k' := 0) rfl (en2 (k := 0) rfl (by decide))) rfl) ?_
  have set2 : setF [.tuple [iN (st t 0), iN (ac t 0), esE es], lE trE (lfs [t]), lE iN hd, lE iN hd, .bool fb, lE iN rs] = some (.bool true) := by
    refine set_ok T ht hnl (C := fun v => ∃ k ∈ ch, RT t 0 0 k v) (fun u hu => ?_) (by rw [← hhd, List.length_map]; omega) (fun v => ?_) ?_ (fun v => ?_) ?_ (fun k hk => ?_)
    · rw [← hhd] at hu
      obtain ⟨k, hk, rfl⟩ := List.mem_map.mp hu
      have := lvs_in (lfk_mem.mpr ⟨k, hchl k hk, rfl⟩)
      omega
    · rw [← hhd]
      constructor
      · rintro ⟨k, hk, h⟩
        exact ⟨(lfk t k).1 + 1, List.mem_map.mpr ⟨k, hk, rfl⟩, (hE _ _).mpr ((reach_tgt (lfk_src (hchl k hk))).mpr h)⟩
      · rintro ⟨u, hu, h⟩
        obtain ⟨k, hk, rfl⟩ := List.mem_map.mp hu
        exact ⟨k, hk, (reach_tgt (lfk_src (hchl k hk))).mp ((hE _ _).mp h)⟩
    · rw [← hhd, ← hch]; exact dueSorted
    · rw [← hhd]
      constructor
      · intro h
        obtain ⟨k, hk, rfl⟩ := List.mem_map.mp h
        exact ⟨⟨k, hk, RT_self (lfk_src (hchl k hk))⟩, lfk t k, lfk_mem.mpr ⟨k, hchl k hk, rfl⟩, rfl⟩
      · rintro ⟨⟨k, hk, h⟩, x, hx, rfl⟩
        obtain ⟨j, hj, rfl⟩ := lfk_mem.mp hx
        have := RT_tgt (lfk_src hj) h
        subst this
        exact List.mem_map.mpr ⟨k, hk, rfl⟩
    · rw [← hfb, List.any_eq_true]
      constructor
      · rintro ⟨k, hk, h⟩
        exact ⟨k, hk, (La_ok (lfk_src (hchl k hk))).mp ((he2 k).mp (of_decide_eq_true h))⟩
      · rintro ⟨k, hk, h⟩
        exact ⟨k, hk, decide_eq_true ((he2 k).mpr ((La_ok (lfk_src (hchl k hk))).mpr h))⟩
    · rw [hrs]
      have hfo : ∀ k', k' ∈ ch → (k ∈ rowN fol k' ↔ RT t 0 0 k' (lfk t k).1) := fun k' hk' => by
        rw [hR.fo, ← Fo_ok (lfk_src (hchl k' hk')) (lfk_src hk)]
        simp only [FoS, nls, false_or]
      constructor
      · rintro ⟨k', hk', h⟩; exact ⟨k', hk', (hfo k' hk').mp h⟩
      · rintro ⟨k', hk', h⟩; exact ⟨k', hk', (hfo k' hk').mpr h⟩
  have z1 : freezeX 6 [some (lE PyData.int ns, 0), some (lE itE its, 0), some (iN (sz t), 0), some (lE trE (lfs [t]), 0), some (lE (lE iN) fol, 0), some (enE e, 0), some (.tuple [iN (st t 0), iN (ac t 0), esE es], 0), some (esE es, 0), some (iN m, 0), some (lE iN ch, 0), some (lE iN rs, 1), x11, some (lE iN hd, 1), some (.bool fb, 0)] = [some (lE PyData.int ns, 0), some (lE itE its, 0), some (iN (sz t), 0), some (lE trE (lfs [t]), 0), some (lE (lE iN) fol, 0), some (enE e, 0), some (.tuple [iN (st t 0), iN (ac t 0), esE es], 0), some (esE es, 0), some (iN m, 0), some (lE iN ch, 0), some (lE iN rs, 1), x11, some (lE iN hd, 1), some (.bool fb, 0)] := rfl
  have z2 : freezeX 3 [some (lE PyData.int ns, 0), some (lE itE its, 0), some (iN (sz t), 0), some (lE trE (lfs [t]), 0), some (lE (lE iN) fol, 0), some (enE e, 0), some (.tuple [iN (st t 0), iN (ac t 0), esE es], 0), some (esE es, 0), some (iN m, 0), some (lE iN ch, 0), some (lE iN rs, 1), x11, some (lE iN hd, 1), some (.bool fb, 0)] = [some (lE PyData.int ns, 0), some (lE itE its, 0), some (iN (sz t), 0), some (lE trE (lfs [t]), 0), some (lE (lE iN) fol, 0), some (enE e, 0), some (.tuple [iN (st t 0), iN (ac t 0), esE es], 0), some (esE es, 0), some (iN m, 0), some (lE iN ch, 0), some (lE iN rs, 1), x11, some (lE iN hd, 1), some (.bool fb, 0)] := rfl
  have z3 : freezeX 12 [some (lE PyData.int ns, 0), some (lE itE its, 0), some (iN (sz t), 0), some (lE trE (lfs [t]), 0), some (lE (lE iN) fol, 0), some (enE e, 0), some (.tuple [iN (st t 0), iN (ac t 0), esE es], 0), some (esE es, 0), some (iN m, 0), some (lE iN ch, 0), some (lE iN rs, 1), x11, some (lE iN hd, 1), some (.bool fb, 0)] = [some (lE PyData.int ns, 0), some (lE itE its, 0), some (iN (sz t), 0), some (lE trE (lfs [t]), 0), some (lE (lE iN) fol, 0), some (enE e, 0), some (.tuple [iN (st t 0), iN (ac t 0), esE es], 0), some (esE es, 0), some (iN m, 0), some (lE iN ch, 0), some (lE iN rs, 1), x11, some (lE iN hd, 0), some (.bool fb, 0)] := rfl
  have z4 : freezeX 12 [some (lE PyData.int ns, 0), some (lE itE its, 0), some (iN (sz t), 0), some (lE trE (lfs [t]), 0), some (lE (lE iN) fol, 0), some (enE e, 0), some (.tuple [iN (st t 0), iN (ac t 0), esE es], 0), some (esE es, 0), some (iN m, 0), some (lE iN ch, 0), some (lE iN rs, 1), x11, some (lE iN hd, 0), some (.bool fb, 0)] = [some (lE PyData.int ns, 0), some (lE itE its, 0), some (iN (sz t), 0), some (lE trE (lfs [t]), 0), some (lE (lE iN) fol, 0), some (enE e, 0), some (.tuple [iN (st t 0), iN (ac t 0), esE es], 0), some (esE es, 0), some (iN m, 0), some (lE iN ch, 0), some (lE iN rs, 1), x11, some (lE iN hd, 0), some (.bool fb, 0)] := rfl
  have z5 : freezeX 13 [some (lE PyData.int ns, 0), some (lE itE its, 0), some (iN (sz t), 0), some (lE trE (lfs [t]), 0), some (lE (lE iN) fol, 0), some (enE e, 0), some (.tuple [iN (st t 0), iN (ac t 0), esE es], 0), some (esE es, 0), some (iN m, 0), some (lE iN ch, 0), some (lE iN rs, 1), x11, some (lE iN hd, 0), some (.bool fb, 0)] = [some (lE PyData.int ns, 0), some (lE itE its, 0), some (iN (sz t), 0), some (lE trE (lfs [t]), 0), some (lE (lE iN) fol, 0), some (enE e, 0), some (.tuple [iN (st t 0), iN (ac t 0), esE es], 0), some (esE es, 0), some (iN m, 0), some (lE iN ch, 0), some (lE iN rs, 1), x11, some (lE iN hd, 0), some (.bool fb, 0)] := rfl
  have z6 : freezeX 10 [some (lE PyData.int ns, 0), some (lE itE its, 0), some (iN (sz t), 0), some (lE trE (lfs [t]), 0), some (lE (lE iN) fol, 0), some (enE e, 0), some (.tuple [iN (st t 0), iN (ac t 0), esE es], 0), some (esE es, 0), some (iN m, 0), some (lE iN ch, 0), some (lE iN rs, 1), x11, some (lE iN hd, 0), some (.bool fb, 0)] = [some (lE PyData.int ns, 0), some (lE itE its, 0), some (iN (sz t), 0), some (lE trE (lfs [t]), 0), some (lE (lE iN) fol, 0), some (enE e, 0), some (.tuple [iN (st t 0), iN (ac t 0), esE es], 0), some (esE es, 0), some (iN m, 0), some (lE iN ch, 0), some (lE iN rs, 0), x11, some (lE iN hd, 0), some (.bool fb, 0)] := rfl
  have z : freezeL [6, 3, 12, 12, 13, 10] [some (lE PyData.int ns, 0), some (lE itE its, 0), some (iN (sz t), 0), some (lE trE (lfs [t]), 0), some (lE (lE iN) fol, 0), some (enE e, 0), some (.tuple [iN (st t 0), iN (ac t 0), esE es], 0), some (esE es, 0), some (iN m, 0), some (lE iN ch, 0), some (lE iN rs, 1), x11, some (lE iN hd, 1), some (.bool fb, 0)] = [some (lE PyData.int ns, 0), some (lE itE its, 0), some (iN (sz t), 0), some (lE trE (lfs [t]), 0), some (lE (lE iN) fol, 0), some (enE e, 0), some (.tuple [iN (st t 0), iN (ac t 0), esE es], 0), some (esE es, 0), some (iN m, 0), some (lE iN ch, 0), some (lE iN rs, 0), x11, some (lE iN hd, 0), some (.bool fb, 0)] := by
    rw [freezeL, z1, freezeL, z2, freezeL, z3, freezeL, z4, freezeL, z5, freezeL, z6, freezeL]
  refine wp_cut (fun σ => True) (wp_frz ?_) (fun σ _ => wp_seq (wp_ret (k := 0) rfl rfl rfl))
  rw [z]
  exact wp_ifF (not_t (b := true) (tr_b (call_x (ar_cons (k := 0) rfl rfl (ar_cons (k := 0) rfl rfl (ar_cons (k := 0) rfl rfl (ar_cons (k := 0) rfl rfl (ar_cons (k := 0) rfl rfl (ar_cons (k := 0) rfl rfl ar_nil)))))) set2))) (wp_skip trivial)
end Mine

open PySem PySem.W PyProof.Rows
set_option Elab.async false
set_option maxRecDepth 100000
set_option maxHeartbeats 8000000
open_top hd for PySem.Challenge.rw_pd_quartet_3_02

open PySem PySem.W PyProof.Rows
set_option Elab.async false
set_option maxRecDepth 100000
set_option maxHeartbeats 4000000
set_option linter.unusedVariables false
namespace Mine
theorem lenS {vs : List Value} {n : Nat} (h : vs.length = n + 1) : ∃ a ws, vs = a :: ws ∧ ws.length = n := by
  cases vs with
  | nil => cases h
  | cons a ws => exact ⟨a, ws, rfl, Nat.succ.inj h⟩
theorem len0 {vs : List Value} (h : vs.length = 0) : vs = [] := List.length_eq_zero_iff.mp h
theorem len1 {vs : List Value} (h : vs.length = 1) : ∃ a, vs = [a] := by
  obtain ⟨a, ws, rfl, h1⟩ := lenS h
  exact ⟨a, by rw [len0 h1]⟩
theorem len2 {vs : List Value} (h : vs.length = 2) : ∃ a b, vs = [a, b] := by
  obtain ⟨a, ws, rfl, h1⟩ := lenS h
  obtain ⟨b, rfl⟩ := len1 h1
  exact ⟨a, b, rfl⟩
theorem len3 {vs : List Value} (h : vs.length = 3) : ∃ a b c, vs = [a, b, c] := by
  obtain ⟨a, ws, rfl, h1⟩ := lenS h
  obtain ⟨b, c, rfl⟩ := len2 h1
  exact ⟨a, b, c, rfl⟩
theorem len6 {vs : List Value} (h : vs.length = 6) : ∃ a b c d e f, vs = [a, b, c, d, e, f] := by
  obtain ⟨a, ws, rfl, h1⟩ := lenS h
  obtain ⟨b, ws, rfl, h2⟩ := lenS h1
  obtain ⟨c, ws, rfl, h3⟩ := lenS h2
  obtain ⟨d, e, f, rfl⟩ := len3 h3
  exact ⟨a, b, c, d, e, f, rfl⟩
theorem fn_law_cell {w : World} {h : Heap} {mg mb : Str → Option Value} (bo : BaseOk ⟨PySem.Challenge.rw_pd_quartet_3_02.row.prog, w, h, mg, mb⟩) (KX : (hd.heap_39 w.params).In h)
   (g1 : mg "len" = none) (b1 : mb "len" = some (.builtin "len")) (g2 : mg "range" = none) (b2 : mb "range" = some (.type "range")) (g3 : mg "sorted" = none) (b3 : mb "sorted" = some (.builtin "sorted")) (g4 : mg "any" = none) (b4 : mb "any" = some (.builtin "any")) {v1 v2 : Value} (q1 : mg "_law_LEAVES" = some v1) (r1 : Rep [] h v1 leavesD) (q2 : mg "_law_KINDS" = some v2) (r2 : Rep [] h v2 kindsD) : Fn ⟨PySem.Challenge.rw_pd_quartet_3_02.row.prog, w, h, mg, mb⟩ false 1 "_law_cell" cell2F := by
  revert KX; k_fill; intro KX
  refine' Fn.imp (fn_of bo ["script", "i"] [] ["script", "i"] ?fd rfl ?nk ?k1 ?k2 ?k3 ?k4 ?body) ?plain
  case fd =>
    refine' ⟨_, _, _, mg_of KX bo.g (by k_is), KX _ _ (by k_is), rfl, codeRec_of KX (by k_is), rfl, rfl, rfl, rfl, rfl, ?_⟩
    intro vs hv
    obtain ⟨a1, a2, rfl⟩ := len2 hv
    rfl
  case k1 => rfl
  case k2 => rfl
  case k3 => rfl
  case k4 => exact dbg_of (by kernel_rfl)
  case nk => exact NsOk.of (by kernel_rfl)
  case body =>
    intro nk
    repeat' first
      | exact ex_nil
      | refine' ex_cons ?_ ?_
      | refine' ex_deep0 (x := "edges") nk ?_
      | refine' ex_deepN (x := "edges") nk ?_ ?_
      | refine' ex_deepA nk ?_ ?_ ?_ ?_ ?_
      | refine' ex_pop nk ?_ ?_ ?_
      | refine' ex_append0 nk ?_ (ev_tup (args_cons ev_bool (args_cons (ev_lst ?_) (args_cons (ev_lst ?_) args_nil)))) ?_
      | refine' ex_assign_compF nk ?_ rfl ?_ ?_ ?_ ?_ ?_ ?_
      | refine' ex_assign_compC nk ?_ rfl ?_ ?_ ?_ ?_ ?_ ?_
      | refine' ex_assign0 nk ?_ (ev_len ?_ ?_)
      | refine' ex_assign0 nk ?_ (ev_sorted ?_ ?_)
      | refine' ex_assign nk ?_ ?_ ?_
      | refine' ex_setitem nk ?_ ?_ ?_ ?_
      | refine' ex_append nk ?_ ?_ ?_ ?_
      | refine' ex_del nk ?_ ?_
      | refine' ex_if nk ?_ ?_ ?_
      | refine' ex_for0 nk ?_ (it_rng1 ?_ ?_) ?_
      | refine' ex_for0 nk ?_ (it_rng2 ?_ ?_ ?_) ?_
      | refine' ex_for nk ?_ ?_ ?_ ?_
      | exact ex_break
      | exact ex_continue
      | refine' ex_unpack nk ?_ ?_ ?_
      | refine' ex_return nk ?_ ?_
      | fail
    all_goals repeat' first
      | with_reducible exact HasIdx.head
      | with_reducible refine' HasIdx.tail ?_
      | exact args_nil
      | refine' args_cons ?_ ?_
      | exact EscIx.nil
      | (refine' EscIx.here ?_ ?_; (· (repeat' first | with_reducible exact HasIdx.head | with_reducible refine' HasIdx.tail ?_)))
      | refine' EscIx.skip ?_
      | (refine' ev_var ?_; (· (repeat' first | with_reducible exact HasIdx.head | with_reducible refine' HasIdx.tail ?_)))
      | with_reducible exact ev_int
      | refine' ev_str ?_
      | refine' ev_rev ?_
      | refine' ev_sub_ ?_ ?_
      | refine' ev_tup ?_
      | refine' ev_add ?_ ?_
      | refine' ev_eq ?_ ?_
      | refine' ev_len ?_ ?_
      | refine' ev_in ?_ ?_
      | refine' ev_call f0 (Nat.le_of_ble_eq_true rfl) (fun h => h) ?_ ?_ ?_
      | refine' ev_call f1 (Nat.le_of_ble_eq_true rfl) (fun h => h) ?_ ?_ ?_
      | refine' ev_call f2 (Nat.le_of_ble_eq_true rfl) (fun h => h) ?_ ?_ ?_
      | refine' ev_call f3 (Nat.le_of_ble_eq_true rfl) (fun h => h) ?_ ?_ ?_
      | with_reducible exact ev_bool
      | refine' ev_neg ?_
      | refine' ev_sub ?_ ?_
      | refine' ev_mod ?_ ?_
      | refine' ev_shr ?_ ?_
      | refine' ev_and ?_ ?_
      | refine' ev_lt ?_ ?_
      | refine' ev_gt ?_ ?_
      | refine' ev_ne ?_ ?_
      | refine' ev_notin ?_ ?_
      | refine' ev_lst ?_
      | refine' ev_sorted ?_ ?_
      | refine' ev_compF ?_ ?_ ?_ ?_ ?_ ?_
      | refine' ev_comp2 ?_ ?_ ?_ ?_ ?_ ?_ ?_ ?_ ?_
      | refine' ev_band ?_ ?_
      | refine' ev_bor ?_ ?_
      | refine' ev_glob ?_ q1 r1 ?_
      | refine' ev_glob ?_ q2 r2 ?_
      | refine' tr_and ?_ ?_
      | refine' tr_or ?_ ?_
      | refine' tr_cmp ?_
      | refine' tr_of ?_
      | refine' it_rng1 ?_ ?_
      | refine' it_rng2 ?_ ?_ ?_
      | refine' it_of ?_
      | exact tests_nil
      | refine' tests_one ?_
      | exact NamesIx.nil
      | refine' NamesIx.cons ?_ ?_
      | with_reducible exact FreeNs.nil
      | with_reducible refine' FreeNs.free ?_
      | with_reducible refine' FreeNs.loc ?_
      | with_reducible refine' FreeNs.glob ?_
      | exact ix_nil
      | refine' ix_cons ?_ ?_
      | kernel_rfl
      | exact ⟨by kernel_rfl, by assumption, by assumption, by kernel_rfl⟩
      | fail
  case plain => exact fun _ _ h => h

theorem fn_thompson {w : World} {h : Heap} {mg mb : Str → Option Value} (bo : BaseOk ⟨PySem.Challenge.rw_pd_quartet_3_02.row.prog, w, h, mg, mb⟩) (KX : (hd.heap_39 w.params).In h)
   (g1 : mg "len" = none) (b1 : mb "len" = some (.builtin "len")) (g2 : mg "range" = none) (b2 : mb "range" = some (.type "range")) (g3 : mg "sorted" = none) (b3 : mb "sorted" = some (.builtin "sorted")) (g4 : mg "any" = none) (b4 : mb "any" = some (.builtin "any")) {v1 v2 : Value} (q1 : mg "_law_LEAVES" = some v1) (r1 : Rep [] h v1 leavesD) (q2 : mg "_law_KINDS" = some v2) (r2 : Rep [] h v2 kindsD) : Fn ⟨PySem.Challenge.rw_pd_quartet_3_02.row.prog, w, h, mg, mb⟩ false 1 "thompson" thomF := by
  revert KX; k_fill; intro KX
  refine' Fn.imp (fn_of bo ["post"] ["edges", "stack", "item", "kind", "left", "right", "s", "a", "label", "inner"] ["post", "edges", "stack", "item", "kind", "left", "right", "s", "a", "label", "inner"] ?fd rfl ?nk ?k1 ?k2 ?k3 ?k4 ?body) ?plain
  case fd =>
    refine' ⟨_, _, _, mg_of KX bo.g (by k_is), KX _ _ (by k_is), rfl, codeRec_of KX (by k_is), rfl, rfl, rfl, rfl, rfl, ?_⟩
    intro vs hv
    obtain ⟨a1, rfl⟩ := len1 hv
    rfl
  case k1 => rfl
  case k2 => rfl
  case k3 => rfl
  case k4 => exact dbg_of (by kernel_rfl)
  case nk => exact NsOk.of (by kernel_rfl)
  case body =>
    intro nk
    repeat' first
      | exact ex_nil
      | refine' ex_cons ?_ ?_
      | refine' ex_deep0 (x := "edges") nk ?_
      | refine' ex_deepN (x := "edges") nk ?_ ?_
      | refine' ex_deepA nk ?_ ?_ ?_ ?_ ?_
      | refine' ex_pop nk ?_ ?_ ?_
      | refine' ex_append0 nk ?_ (ev_tup (args_cons ev_bool (args_cons (ev_lst ?_) (args_cons (ev_lst ?_) args_nil)))) ?_
      | refine' ex_assign_compF nk ?_ rfl ?_ ?_ ?_ ?_ ?_ ?_
      | refine' ex_assign_compC nk ?_ rfl ?_ ?_ ?_ ?_ ?_ ?_
      | refine' ex_assign0 nk ?_ (ev_len ?_ ?_)
      | refine' ex_assign0 nk ?_ (ev_sorted ?_ ?_)
      | refine' ex_assign nk ?_ ?_ ?_
      | refine' ex_setitem nk ?_ ?_ ?_ ?_
      | refine' ex_append nk ?_ ?_ ?_ ?_
      | refine' ex_del nk ?_ ?_
      | refine' ex_if nk ?_ ?_ ?_
      | refine' ex_for0 nk ?_ (it_rng1 ?_ ?_) ?_
      | refine' ex_for0 nk ?_ (it_rng2 ?_ ?_ ?_) ?_
      | refine' ex_for nk ?_ ?_ ?_ ?_
      | exact ex_break
      | exact ex_continue
      | refine' ex_unpack nk ?_ ?_ ?_
      | refine' ex_return nk ?_ ?_
      | fail
    all_goals repeat' first
      | with_reducible exact HasIdx.head
      | with_reducible refine' HasIdx.tail ?_
      | exact args_nil
      | refine' args_cons ?_ ?_
      | exact EscIx.nil
      | (refine' EscIx.here ?_ ?_; (· (repeat' first | with_reducible exact HasIdx.head | with_reducible refine' HasIdx.tail ?_)))
      | refine' EscIx.skip ?_
      | (refine' ev_var ?_; (· (repeat' first | with_reducible exact HasIdx.head | with_reducible refine' HasIdx.tail ?_)))
      | with_reducible exact ev_int
      | refine' ev_str ?_
      | refine' ev_rev ?_
      | refine' ev_sub_ ?_ ?_
      | refine' ev_tup ?_
      | refine' ev_add ?_ ?_
      | refine' ev_eq ?_ ?_
      | refine' ev_len ?_ ?_
      | refine' ev_in ?_ ?_
      | refine' ev_call f0 (Nat.le_of_ble_eq_true rfl) (fun h => h) ?_ ?_ ?_
      | refine' ev_call f1 (Nat.le_of_ble_eq_true rfl) (fun h => h) ?_ ?_ ?_
      | refine' ev_call f2 (Nat.le_of_ble_eq_true rfl) (fun h => h) ?_ ?_ ?_
      | refine' ev_call f3 (Nat.le_of_ble_eq_true rfl) (fun h => h) ?_ ?_ ?_
      | with_reducible exact ev_bool
      | refine' ev_neg ?_
      | refine' ev_sub ?_ ?_
      | refine' ev_mod ?_ ?_
      | refine' ev_shr ?_ ?_
      | refine' ev_and ?_ ?_
      | refine' ev_lt ?_ ?_
      | refine' ev_gt ?_ ?_
      | refine' ev_ne ?_ ?_
      | refine' ev_notin ?_ ?_
      | refine' ev_lst ?_
      | refine' ev_sorted ?_ ?_
      | refine' ev_compF ?_ ?_ ?_ ?_ ?_ ?_
      | refine' ev_comp2 ?_ ?_ ?_ ?_ ?_ ?_ ?_ ?_ ?_
      | refine' ev_band ?_ ?_
      | refine' ev_bor ?_ ?_
      | refine' ev_glob ?_ q1 r1 ?_
      | refine' ev_glob ?_ q2 r2 ?_
      | refine' tr_and ?_ ?_
      | refine' tr_or ?_ ?_
      | refine' tr_cmp ?_
      | refine' tr_of ?_
      | refine' it_rng1 ?_ ?_
      | refine' it_rng2 ?_ ?_ ?_
      | refine' it_of ?_
      | exact tests_nil
      | refine' tests_one ?_
      | exact NamesIx.nil
      | refine' NamesIx.cons ?_ ?_
      | with_reducible exact FreeNs.nil
      | with_reducible refine' FreeNs.free ?_
      | with_reducible refine' FreeNs.loc ?_
      | with_reducible refine' FreeNs.glob ?_
      | exact ix_nil
      | refine' ix_cons ?_ ?_
      | kernel_rfl
      | exact ⟨by kernel_rfl, by assumption, by assumption, by kernel_rfl⟩
      | fail
  case plain => exact fun _ _ h => h

theorem fn_closure {w : World} {h : Heap} {mg mb : Str → Option Value} (bo : BaseOk ⟨PySem.Challenge.rw_pd_quartet_3_02.row.prog, w, h, mg, mb⟩) (KX : (hd.heap_39 w.params).In h)
   (g1 : mg "len" = none) (b1 : mb "len" = some (.builtin "len")) (g2 : mg "range" = none) (b2 : mb "range" = some (.type "range")) (g3 : mg "sorted" = none) (b3 : mb "sorted" = some (.builtin "sorted")) (g4 : mg "any" = none) (b4 : mb "any" = some (.builtin "any")) {v1 v2 : Value} (q1 : mg "_law_LEAVES" = some v1) (r1 : Rep [] h v1 leavesD) (q2 : mg "_law_KINDS" = some v2) (r2 : Rep [] h v2 kindsD) : Fn ⟨PySem.Challenge.rw_pd_quartet_3_02.row.prog, w, h, mg, mb⟩ false 1 "closure" closF := by
  revert KX; k_fill; intro KX
  refine' Fn.imp (fn_of bo ["edges", "states"] ["seen", "work", "s", "k", "e"] ["edges", "states", "seen", "work", "s", "k", "e"] ?fd rfl ?nk ?k1 ?k2 ?k3 ?k4 ?body) ?plain
  case fd =>
    refine' ⟨_, _, _, mg_of KX bo.g (by k_is), KX _ _ (by k_is), rfl, codeRec_of KX (by k_is), rfl, rfl, rfl, rfl, rfl, ?_⟩
    intro vs hv
    obtain ⟨a1, a2, rfl⟩ := len2 hv
    rfl
  case k1 => rfl
  case k2 => rfl
  case k3 => rfl
  case k4 => exact dbg_of (by kernel_rfl)
  case nk => exact NsOk.of (by kernel_rfl)
  case body =>
    intro nk
    repeat' first
      | exact ex_nil
      | refine' ex_cons ?_ ?_
      | refine' ex_deep0 (x := "edges") nk ?_
      | refine' ex_deepN (x := "edges") nk ?_ ?_
      | refine' ex_deepA nk ?_ ?_ ?_ ?_ ?_
      | refine' ex_pop nk ?_ ?_ ?_
      | refine' ex_append0 nk ?_ (ev_tup (args_cons ev_bool (args_cons (ev_lst ?_) (args_cons (ev_lst ?_) args_nil)))) ?_
      | refine' ex_assign_compF nk ?_ rfl ?_ ?_ ?_ ?_ ?_ ?_
      | refine' ex_assign_compC nk ?_ rfl ?_ ?_ ?_ ?_ ?_ ?_
      | refine' ex_assign0 nk ?_ (ev_len ?_ ?_)
      | refine' ex_assign0 nk ?_ (ev_sorted ?_ ?_)
      | refine' ex_assign nk ?_ ?_ ?_
      | refine' ex_setitem nk ?_ ?_ ?_ ?_
      | refine' ex_append nk ?_ ?_ ?_ ?_
      | refine' ex_del nk ?_ ?_
      | refine' ex_if nk ?_ ?_ ?_
      | refine' ex_for0 nk ?_ (it_rng1 ?_ ?_) ?_
      | refine' ex_for0 nk ?_ (it_rng2 ?_ ?_ ?_) ?_
      | refine' ex_for nk ?_ ?_ ?_ ?_
      | exact ex_break
      | exact ex_continue
      | refine' ex_unpack nk ?_ ?_ ?_
      | refine' ex_return nk ?_ ?_
      | fail
    all_goals repeat' first
      | with_reducible exact HasIdx.head
      | with_reducible refine' HasIdx.tail ?_
      | exact args_nil
      | refine' args_cons ?_ ?_
      | exact EscIx.nil
      | (refine' EscIx.here ?_ ?_; (· (repeat' first | with_reducible exact HasIdx.head | with_reducible refine' HasIdx.tail ?_)))
      | refine' EscIx.skip ?_
      | (refine' ev_var ?_; (· (repeat' first | with_reducible exact HasIdx.head | with_reducible refine' HasIdx.tail ?_)))
      | with_reducible exact ev_int
      | refine' ev_str ?_
      | refine' ev_rev ?_
      | refine' ev_sub_ ?_ ?_
      | refine' ev_tup ?_
      | refine' ev_add ?_ ?_
      | refine' ev_eq ?_ ?_
      | refine' ev_len ?_ ?_
      | refine' ev_in ?_ ?_
      | refine' ev_call f0 (Nat.le_of_ble_eq_true rfl) (fun h => h) ?_ ?_ ?_
      | refine' ev_call f1 (Nat.le_of_ble_eq_true rfl) (fun h => h) ?_ ?_ ?_
      | refine' ev_call f2 (Nat.le_of_ble_eq_true rfl) (fun h => h) ?_ ?_ ?_
      | refine' ev_call f3 (Nat.le_of_ble_eq_true rfl) (fun h => h) ?_ ?_ ?_
      | with_reducible exact ev_bool
      | refine' ev_neg ?_
      | refine' ev_sub ?_ ?_
      | refine' ev_mod ?_ ?_
      | refine' ev_shr ?_ ?_
      | refine' ev_and ?_ ?_
      | refine' ev_lt ?_ ?_
      | refine' ev_gt ?_ ?_
      | refine' ev_ne ?_ ?_
      | refine' ev_notin ?_ ?_
      | refine' ev_lst ?_
      | refine' ev_sorted ?_ ?_
      | refine' ev_compF ?_ ?_ ?_ ?_ ?_ ?_
      | refine' ev_comp2 ?_ ?_ ?_ ?_ ?_ ?_ ?_ ?_ ?_
      | refine' ev_band ?_ ?_
      | refine' ev_bor ?_ ?_
      | refine' ev_glob ?_ q1 r1 ?_
      | refine' ev_glob ?_ q2 r2 ?_
      | refine' tr_and ?_ ?_
      | refine' tr_or ?_ ?_
      | refine' tr_cmp ?_
      | refine' tr_of ?_
      | refine' it_rng1 ?_ ?_
      | refine' it_rng2 ?_ ?_ ?_
      | refine' it_of ?_
      | exact tests_nil
      | refine' tests_one ?_
      | exact NamesIx.nil
      | refine' NamesIx.cons ?_ ?_
      | with_reducible exact FreeNs.nil
      | with_reducible refine' FreeNs.free ?_
      | with_reducible refine' FreeNs.loc ?_
      | with_reducible refine' FreeNs.glob ?_
      | exact ix_nil
      | refine' ix_cons ?_ ?_
      | kernel_rfl
      | exact ⟨by kernel_rfl, by assumption, by assumption, by kernel_rfl⟩
      | fail
  case plain => exact fun _ _ h => h

theorem fn_step {w : World} {h : Heap} {mg mb : Str → Option Value} (bo : BaseOk ⟨PySem.Challenge.rw_pd_quartet_3_02.row.prog, w, h, mg, mb⟩) (KX : (hd.heap_39 w.params).In h)
   (g1 : mg "len" = none) (b1 : mb "len" = some (.builtin "len")) (g2 : mg "range" = none) (b2 : mb "range" = some (.type "range")) (g3 : mg "sorted" = none) (b3 : mb "sorted" = some (.builtin "sorted")) (g4 : mg "any" = none) (b4 : mb "any" = some (.builtin "any")) {v1 v2 : Value} (q1 : mg "_law_LEAVES" = some v1) (r1 : Rep [] h v1 leavesD) (q2 : mg "_law_KINDS" = some v2) (r2 : Rep [] h v2 kindsD) : Fn ⟨PySem.Challenge.rw_pd_quartet_3_02.row.prog, w, h, mg, mb⟩ false 1 "step" stepF := by
  revert KX; k_fill; intro KX
  refine' Fn.imp (fn_of bo ["edges", "states", "c"] ["targets", "s", "e"] ["edges", "states", "c", "targets", "s", "e"] ?fd rfl ?nk ?k1 ?k2 ?k3 ?k4 ?body) ?plain
  case fd =>
    refine' ⟨_, _, _, mg_of KX bo.g (by k_is), KX _ _ (by k_is), rfl, codeRec_of KX (by k_is), rfl, rfl, rfl, rfl, rfl, ?_⟩
    intro vs hv
    obtain ⟨a1, a2, a3, rfl⟩ := len3 hv
    rfl
  case k1 => rfl
  case k2 => rfl
  case k3 => rfl
  case k4 => exact dbg_of (by kernel_rfl)
  case nk => exact NsOk.of (by kernel_rfl)
  case body =>
    intro nk
    repeat' first
      | exact ex_nil
      | refine' ex_cons ?_ ?_
      | refine' ex_deep0 (x := "edges") nk ?_
      | refine' ex_deepN (x := "edges") nk ?_ ?_
      | refine' ex_deepA nk ?_ ?_ ?_ ?_ ?_
      | refine' ex_pop nk ?_ ?_ ?_
      | refine' ex_append0 nk ?_ (ev_tup (args_cons ev_bool (args_cons (ev_lst ?_) (args_cons (ev_lst ?_) args_nil)))) ?_
      | refine' ex_assign_compF nk ?_ rfl ?_ ?_ ?_ ?_ ?_ ?_
      | refine' ex_assign_compC nk ?_ rfl ?_ ?_ ?_ ?_ ?_ ?_
      | refine' ex_assign0 nk ?_ (ev_len ?_ ?_)
      | refine' ex_assign0 nk ?_ (ev_sorted ?_ ?_)
      | refine' ex_assign nk ?_ ?_ ?_
      | refine' ex_setitem nk ?_ ?_ ?_ ?_
      | refine' ex_append nk ?_ ?_ ?_ ?_
      | refine' ex_del nk ?_ ?_
      | refine' ex_if nk ?_ ?_ ?_
      | refine' ex_for0 nk ?_ (it_rng1 ?_ ?_) ?_
      | refine' ex_for0 nk ?_ (it_rng2 ?_ ?_ ?_) ?_
      | refine' ex_for nk ?_ ?_ ?_ ?_
      | exact ex_break
      | exact ex_continue
      | refine' ex_unpack nk ?_ ?_ ?_
      | refine' ex_return nk ?_ ?_
      | fail
    all_goals repeat' first
      | with_reducible exact HasIdx.head
      | with_reducible refine' HasIdx.tail ?_
      | exact args_nil
      | refine' args_cons ?_ ?_
      | exact EscIx.nil
      | (refine' EscIx.here ?_ ?_; (· (repeat' first | with_reducible exact HasIdx.head | with_reducible refine' HasIdx.tail ?_)))
      | refine' EscIx.skip ?_
      | (refine' ev_var ?_; (· (repeat' first | with_reducible exact HasIdx.head | with_reducible refine' HasIdx.tail ?_)))
      | with_reducible exact ev_int
      | refine' ev_str ?_
      | refine' ev_rev ?_
      | refine' ev_sub_ ?_ ?_
      | refine' ev_tup ?_
      | refine' ev_add ?_ ?_
      | refine' ev_eq ?_ ?_
      | refine' ev_len ?_ ?_
      | refine' ev_in ?_ ?_
      | refine' ev_call f0 (Nat.le_of_ble_eq_true rfl) (fun h => h) ?_ ?_ ?_
      | refine' ev_call f1 (Nat.le_of_ble_eq_true rfl) (fun h => h) ?_ ?_ ?_
      | refine' ev_call f2 (Nat.le_of_ble_eq_true rfl) (fun h => h) ?_ ?_ ?_
      | refine' ev_call f3 (Nat.le_of_ble_eq_true rfl) (fun h => h) ?_ ?_ ?_
      | with_reducible exact ev_bool
      | refine' ev_neg ?_
      | refine' ev_sub ?_ ?_
      | refine' ev_mod ?_ ?_
      | refine' ev_shr ?_ ?_
      | refine' ev_and ?_ ?_
      | refine' ev_lt ?_ ?_
      | refine' ev_gt ?_ ?_
      | refine' ev_ne ?_ ?_
      | refine' ev_notin ?_ ?_
      | refine' ev_lst ?_
      | refine' ev_sorted ?_ ?_
      | refine' ev_compF ?_ ?_ ?_ ?_ ?_ ?_
      | refine' ev_comp2 ?_ ?_ ?_ ?_ ?_ ?_ ?_ ?_ ?_
      | refine' ev_band ?_ ?_
      | refine' ev_bor ?_ ?_
      | refine' ev_glob ?_ q1 r1 ?_
      | refine' ev_glob ?_ q2 r2 ?_
      | refine' tr_and ?_ ?_
      | refine' tr_or ?_ ?_
      | refine' tr_cmp ?_
      | refine' tr_of ?_
      | refine' it_rng1 ?_ ?_
      | refine' it_rng2 ?_ ?_ ?_
      | refine' it_of ?_
      | exact tests_nil
      | refine' tests_one ?_
      | exact NamesIx.nil
      | refine' NamesIx.cons ?_ ?_
      | with_reducible exact FreeNs.nil
      | with_reducible refine' FreeNs.free ?_
      | with_reducible refine' FreeNs.loc ?_
      | with_reducible refine' FreeNs.glob ?_
      | exact ix_nil
      | refine' ix_cons ?_ ?_
      | kernel_rfl
      | exact ⟨by kernel_rfl, by assumption, by assumption, by kernel_rfl⟩
      | fail
  case plain => exact fun _ _ h => h

theorem fn_law_post {w : World} {h : Heap} {mg mb : Str → Option Value} (bo : BaseOk ⟨PySem.Challenge.rw_pd_quartet_3_02.row.prog, w, h, mg, mb⟩) (KX : (hd.heap_39 w.params).In h)
   (g1 : mg "len" = none) (b1 : mb "len" = some (.builtin "len")) (g2 : mg "range" = none) (b2 : mb "range" = some (.type "range")) (g3 : mg "sorted" = none) (b3 : mb "sorted" = some (.builtin "sorted")) (g4 : mg "any" = none) (b4 : mb "any" = some (.builtin "any")) {v1 v2 : Value} (q1 : mg "_law_LEAVES" = some v1) (r1 : Rep [] h v1 leavesD) (q2 : mg "_law_KINDS" = some v2) (r2 : Rep [] h v2 kindsD) (f0 : Fn ⟨PySem.Challenge.rw_pd_quartet_3_02.row.prog, w, h, mg, mb⟩ false 1 "_law_cell" cell2F) : Fn ⟨PySem.Challenge.rw_pd_quartet_3_02.row.prog, w, h, mg, mb⟩ false 2 "_law_post" postF := by
  revert KX; k_fill; intro KX
  refine' Fn.imp (fn_of bo ["script"] ["post", "depth", "operands", "i", "k"] ["script", "post", "depth", "operands", "i", "k"] ?fd rfl ?nk ?k1 ?k2 ?k3 ?k4 ?body) ?plain
  case fd =>
    refine' ⟨_, _, _, mg_of KX bo.g (by k_is), KX _ _ (by k_is), rfl, codeRec_of KX (by k_is), rfl, rfl, rfl, rfl, rfl, ?_⟩
    intro vs hv
    obtain ⟨a1, rfl⟩ := len1 hv
    rfl
  case k1 => rfl
  case k2 => rfl
  case k3 => rfl
  case k4 => exact dbg_of (by kernel_rfl)
  case nk => exact NsOk.of (by kernel_rfl)
  case body =>
    intro nk
    repeat' first
      | exact ex_nil
      | refine' ex_cons ?_ ?_
      | refine' ex_deep0 (x := "edges") nk ?_
      | refine' ex_deepN (x := "edges") nk ?_ ?_
      | refine' ex_deepA nk ?_ ?_ ?_ ?_ ?_
      | refine' ex_pop nk ?_ ?_ ?_
      | refine' ex_append0 nk ?_ (ev_tup (args_cons ev_bool (args_cons (ev_lst ?_) (args_cons (ev_lst ?_) args_nil)))) ?_
      | refine' ex_assign_compF nk ?_ rfl ?_ ?_ ?_ ?_ ?_ ?_
      | refine' ex_assign_compC nk ?_ rfl ?_ ?_ ?_ ?_ ?_ ?_
      | refine' ex_assign0 nk ?_ (ev_len ?_ ?_)
      | refine' ex_assign0 nk ?_ (ev_sorted ?_ ?_)
      | refine' ex_assign nk ?_ ?_ ?_
      | refine' ex_setitem nk ?_ ?_ ?_ ?_
      | refine' ex_append nk ?_ ?_ ?_ ?_
      | refine' ex_del nk ?_ ?_
      | refine' ex_if nk ?_ ?_ ?_
      | refine' ex_for0 nk ?_ (it_rng1 ?_ ?_) ?_
      | refine' ex_for0 nk ?_ (it_rng2 ?_ ?_ ?_) ?_
      | refine' ex_for nk ?_ ?_ ?_ ?_
      | exact ex_break
      | exact ex_continue
      | refine' ex_unpack nk ?_ ?_ ?_
      | refine' ex_return nk ?_ ?_
      | fail
    all_goals repeat' first
      | with_reducible exact HasIdx.head
      | with_reducible refine' HasIdx.tail ?_
      | exact args_nil
      | refine' args_cons ?_ ?_
      | exact EscIx.nil
      | (refine' EscIx.here ?_ ?_; (· (repeat' first | with_reducible exact HasIdx.head | with_reducible refine' HasIdx.tail ?_)))
      | refine' EscIx.skip ?_
      | (refine' ev_var ?_; (· (repeat' first | with_reducible exact HasIdx.head | with_reducible refine' HasIdx.tail ?_)))
      | with_reducible exact ev_int
      | refine' ev_str ?_
      | refine' ev_rev ?_
      | refine' ev_sub_ ?_ ?_
      | refine' ev_tup ?_
      | refine' ev_add ?_ ?_
      | refine' ev_eq ?_ ?_
      | refine' ev_len ?_ ?_
      | refine' ev_in ?_ ?_
      | refine' ev_call f0 (Nat.le_of_ble_eq_true rfl) (fun h => h) ?_ ?_ ?_
      | refine' ev_call f1 (Nat.le_of_ble_eq_true rfl) (fun h => h) ?_ ?_ ?_
      | refine' ev_call f2 (Nat.le_of_ble_eq_true rfl) (fun h => h) ?_ ?_ ?_
      | refine' ev_call f3 (Nat.le_of_ble_eq_true rfl) (fun h => h) ?_ ?_ ?_
      | with_reducible exact ev_bool
      | refine' ev_neg ?_
      | refine' ev_sub ?_ ?_
      | refine' ev_mod ?_ ?_
      | refine' ev_shr ?_ ?_
      | refine' ev_and ?_ ?_
      | refine' ev_lt ?_ ?_
      | refine' ev_gt ?_ ?_
      | refine' ev_ne ?_ ?_
      | refine' ev_notin ?_ ?_
      | refine' ev_lst ?_
      | refine' ev_sorted ?_ ?_
      | refine' ev_compF ?_ ?_ ?_ ?_ ?_ ?_
      | refine' ev_comp2 ?_ ?_ ?_ ?_ ?_ ?_ ?_ ?_ ?_
      | refine' ev_band ?_ ?_
      | refine' ev_bor ?_ ?_
      | refine' ev_glob ?_ q1 r1 ?_
      | refine' ev_glob ?_ q2 r2 ?_
      | refine' tr_and ?_ ?_
      | refine' tr_or ?_ ?_
      | refine' tr_cmp ?_
      | refine' tr_of ?_
      | refine' it_rng1 ?_ ?_
      | refine' it_rng2 ?_ ?_ ?_
      | refine' it_of ?_
      | exact tests_nil
      | refine' tests_one ?_
      | exact NamesIx.nil
      | refine' NamesIx.cons ?_ ?_
      | with_reducible exact FreeNs.nil
      | with_reducible refine' FreeNs.free ?_
      | with_reducible refine' FreeNs.loc ?_
      | with_reducible refine' FreeNs.glob ?_
      | exact ix_nil
      | refine' ix_cons ?_ ?_
      | kernel_rfl
      | exact ⟨by kernel_rfl, by assumption, by assumption, by kernel_rfl⟩
      | fail
  case plain => exact fun _ _ h => h

theorem fn_law_reading {w : World} {h : Heap} {mg mb : Str → Option Value} (bo : BaseOk ⟨PySem.Challenge.rw_pd_quartet_3_02.row.prog, w, h, mg, mb⟩) (KX : (hd.heap_39 w.params).In h)
   (g1 : mg "len" = none) (b1 : mb "len" = some (.builtin "len")) (g2 : mg "range" = none) (b2 : mb "range" = some (.type "range")) (g3 : mg "sorted" = none) (b3 : mb "sorted" = some (.builtin "sorted")) (g4 : mg "any" = none) (b4 : mb "any" = some (.builtin "any")) {v1 v2 : Value} (q1 : mg "_law_LEAVES" = some v1) (r1 : Rep [] h v1 leavesD) (q2 : mg "_law_KINDS" = some v2) (r2 : Rep [] h v2 kindsD) : Fn ⟨PySem.Challenge.rw_pd_quartet_3_02.row.prog, w, h, mg, mb⟩ false 1 "_law_reading" readF := by
  revert KX; k_fill; intro KX
  refine' Fn.imp (fn_of bo ["post"] ["made", "leaves", "follow", "stack", "item", "kind", "sign", "right", "left", "k", "first", "last", "inner"] ["post", "made", "leaves", "follow", "stack", "item", "kind", "sign", "right", "left", "k", "first", "last", "inner"] ?fd rfl ?nk ?k1 ?k2 ?k3 ?k4 ?body) ?plain
  case fd =>
    refine' ⟨_, _, _, mg_of KX bo.g (by k_is), KX _ _ (by k_is), rfl, codeRec_of KX (by k_is), rfl, rfl, rfl, rfl, rfl, ?_⟩
    intro vs hv
    obtain ⟨a1, rfl⟩ := len1 hv
    rfl
  case k1 => rfl
  case k2 => rfl
  case k3 => rfl
  case k4 => exact dbg_of (by kernel_rfl)
  case nk => exact NsOk.of (by kernel_rfl)
  case body =>
    intro nk
    repeat' first
      | exact ex_nil
      | refine' ex_cons ?_ ?_
      | refine' ex_deep0 (x := "edges") nk ?_
      | refine' ex_deepN (x := "edges") nk ?_ ?_
      | refine' ex_deepA nk ?_ ?_ ?_ ?_ ?_
      | refine' ex_pop nk ?_ ?_ ?_
      | refine' ex_append0 nk ?_ (ev_tup (args_cons ev_bool (args_cons (ev_lst ?_) (args_cons (ev_lst ?_) args_nil)))) ?_
      | refine' ex_assign_compF nk ?_ rfl ?_ ?_ ?_ ?_ ?_ ?_
      | refine' ex_assign_compC nk ?_ rfl ?_ ?_ ?_ ?_ ?_ ?_
      | refine' ex_assign0 nk ?_ (ev_len ?_ ?_)
      | refine' ex_assign0 nk ?_ (ev_sorted ?_ ?_)
      | refine' ex_assign nk ?_ ?_ ?_
      | refine' ex_setitem nk ?_ ?_ ?_ ?_
      | refine' ex_append nk ?_ ?_ ?_ ?_
      | refine' ex_del nk ?_ ?_
      | refine' ex_if nk ?_ ?_ ?_
      | refine' ex_for0 nk ?_ (it_rng1 ?_ ?_) ?_
      | refine' ex_for0 nk ?_ (it_rng2 ?_ ?_ ?_) ?_
      | refine' ex_for nk ?_ ?_ ?_ ?_
      | exact ex_break
      | exact ex_continue
      | refine' ex_unpack nk ?_ ?_ ?_
      | refine' ex_return nk ?_ ?_
      | fail
    all_goals repeat' first
      | with_reducible exact HasIdx.head
      | with_reducible refine' HasIdx.tail ?_
      | exact args_nil
      | refine' args_cons ?_ ?_
      | exact EscIx.nil
      | (refine' EscIx.here ?_ ?_; (· (repeat' first | with_reducible exact HasIdx.head | with_reducible refine' HasIdx.tail ?_)))
      | refine' EscIx.skip ?_
      | (refine' ev_var ?_; (· (repeat' first | with_reducible exact HasIdx.head | with_reducible refine' HasIdx.tail ?_)))
      | with_reducible exact ev_int
      | refine' ev_str ?_
      | refine' ev_rev ?_
      | refine' ev_sub_ ?_ ?_
      | refine' ev_tup ?_
      | refine' ev_add ?_ ?_
      | refine' ev_eq ?_ ?_
      | refine' ev_len ?_ ?_
      | refine' ev_in ?_ ?_
      | refine' ev_call f0 (Nat.le_of_ble_eq_true rfl) (fun h => h) ?_ ?_ ?_
      | refine' ev_call f1 (Nat.le_of_ble_eq_true rfl) (fun h => h) ?_ ?_ ?_
      | refine' ev_call f2 (Nat.le_of_ble_eq_true rfl) (fun h => h) ?_ ?_ ?_
      | refine' ev_call f3 (Nat.le_of_ble_eq_true rfl) (fun h => h) ?_ ?_ ?_
      | with_reducible exact ev_bool
      | refine' ev_neg ?_
      | refine' ev_sub ?_ ?_
      | refine' ev_mod ?_ ?_
      | refine' ev_shr ?_ ?_
      | refine' ev_and ?_ ?_
      | refine' ev_lt ?_ ?_
      | refine' ev_gt ?_ ?_
      | refine' ev_ne ?_ ?_
      | refine' ev_notin ?_ ?_
      | refine' ev_lst ?_
      | refine' ev_sorted ?_ ?_
      | refine' ev_compF ?_ ?_ ?_ ?_ ?_ ?_
      | refine' ev_comp2 ?_ ?_ ?_ ?_ ?_ ?_ ?_ ?_ ?_
      | refine' ev_band ?_ ?_
      | refine' ev_bor ?_ ?_
      | refine' ev_glob ?_ q1 r1 ?_
      | refine' ev_glob ?_ q2 r2 ?_
      | refine' tr_and ?_ ?_
      | refine' tr_or ?_ ?_
      | refine' tr_cmp ?_
      | refine' tr_of ?_
      | refine' it_rng1 ?_ ?_
      | refine' it_rng2 ?_ ?_ ?_
      | refine' it_of ?_
      | exact tests_nil
      | refine' tests_one ?_
      | exact NamesIx.nil
      | refine' NamesIx.cons ?_ ?_
      | with_reducible exact FreeNs.nil
      | with_reducible refine' FreeNs.free ?_
      | with_reducible refine' FreeNs.loc ?_
      | with_reducible refine' FreeNs.glob ?_
      | exact ix_nil
      | refine' ix_cons ?_ ?_
      | kernel_rfl
      | exact ⟨by kernel_rfl, by assumption, by assumption, by kernel_rfl⟩
      | fail
  case plain => exact fun _ _ h => h

theorem fn_law_set_is_right {w : World} {h : Heap} {mg mb : Str → Option Value} {ts : Tabs} {cc P : Addr} (bo : BaseOk ⟨PySem.Challenge.rw_pd_quartet_3_02.row.prog, w, h, mg, mb⟩) (KX : (hd.heap_39 w.params).In h)
   (g1 : mg "len" = none) (b1 : mb "len" = some (.builtin "len")) (g2 : mg "range" = none) (b2 : mb "range" = some (.type "range")) (g3 : mg "sorted" = none) (b3 : mb "sorted" = some (.builtin "sorted")) (g4 : mg "any" = none) (b4 : mb "any" = some (.builtin "any")) {v1 v2 : Value} (q1 : mg "_law_LEAVES" = some v1) (r1 : Rep [] h v1 leavesD) (q2 : mg "_law_KINDS" = some v2) (r2 : Rep [] h v2 kindsD) (f0 : Fn ⟨PySem.Challenge.rw_pd_quartet_3_02.row.prog, w, h, mg, mb⟩ false 1 "closure" closF) (f1 : Fn ⟨PySem.Challenge.rw_pd_quartet_3_02.row.prog, w, h, mg, mb⟩ false 1 "step" stepF)
   (hm : (cc, P) ∈ ts) (hdist : ∀ t ∈ ts, t.2 = P → t = (cc, P)) (htt : ∀ P ∈ ts.map (·.2), h.get? P = none) (hbm : BmOk ⟨PySem.Challenge.rw_pd_quartet_3_02.row.prog, w, h, mg, mb⟩) (hcc : ∀ a o fd, mg "_law_set_is_right" = some (.ref a) → h.get? a = some o → o.data = .func fd → fd.code = .ref cc) : FnT ⟨PySem.Challenge.rw_pd_quartet_3_02.row.prog, w, h, mg, mb⟩ ts 2 "_law_set_is_right" setF := by
  revert KX; k_fill; intro KX
  refine' FnT.imp (fnT_of bo ["nfa", "leaves", "given", "held", "final", "reach"] ["edges", "got", "targets", "c", "due"] ["nfa", "leaves", "given", "held", "final", "reach", "edges", "got", "targets", "c", "due"] ?fd hcc rfl ?nk ?k1 ?k2 ?k3 ?k4 htt ?body) ?plain
  case fd =>
    refine' ⟨_, _, _, mg_of KX bo.g (by k_is), KX _ _ (by k_is), rfl, codeRec_of KX (by k_is), rfl, rfl, rfl, rfl, rfl, ?_⟩
    intro vs hv
    obtain ⟨a1, a2, a3, a4, a5, a6, rfl⟩ := len6 hv
    rfl
  case k1 => rfl
  case k2 => rfl
  case k3 => rfl
  case k4 => exact dbg_of (by kernel_rfl)
  case nk => exact NsOk.of (by kernel_rfl)
  case body =>
    intro nk
    repeat' first
      | exact ext_nil rfl
      | refine' ext_cons ?_ ?_
      | refine' ext_if rfl nk (trT_of (evT_any rfl hm hdist htt hbm ?_ ?_ ?_ ?_ ?_ ?_)) ?_ ?_
      | refine' ext_ifnotZ nk ?_ (ext_if rfl nk (trT_not (trT_of (evT_call rfl e0 (Nat.le_of_ble_eq_true rfl) ?_ ?_ ?_))) ?_ ?_)
      | refine' ext_assign rfl nk ?_ (evT_any rfl hm hdist htt hbm ?_ ?_ ?_ ?_ ?_ ?_) anyX_bool
      | refine' ext_plain rfl  ?_
      | exact ex_nil
      | refine' ex_cons ?_ ?_
      | refine' ex_deep0 (x := "edges") nk ?_
      | refine' ex_deepN (x := "edges") nk ?_ ?_
      | refine' ex_deepA nk ?_ ?_ ?_ ?_ ?_
      | refine' ex_pop nk ?_ ?_ ?_
      | refine' ex_append0 nk ?_ (ev_tup (args_cons ev_bool (args_cons (ev_lst ?_) (args_cons (ev_lst ?_) args_nil)))) ?_
      | refine' ex_assign_compF nk ?_ rfl ?_ ?_ ?_ ?_ ?_ ?_
      | refine' ex_assign_compC nk ?_ rfl ?_ ?_ ?_ ?_ ?_ ?_
      | refine' ex_assign0 nk ?_ (ev_len ?_ ?_)
      | refine' ex_assign0 nk ?_ (ev_sorted ?_ ?_)
      | refine' ex_assign nk ?_ ?_ ?_
      | refine' ex_setitem nk ?_ ?_ ?_ ?_
      | refine' ex_append nk ?_ ?_ ?_ ?_
      | refine' ex_del nk ?_ ?_
      | refine' ex_if nk ?_ ?_ ?_
      | refine' ex_for0 nk ?_ (it_rng1 ?_ ?_) ?_
      | refine' ex_for0 nk ?_ (it_rng2 ?_ ?_ ?_) ?_
      | refine' ex_for nk ?_ ?_ ?_ ?_
      | exact ex_break
      | exact ex_continue
      | refine' ex_unpack nk ?_ ?_ ?_
      | refine' ex_return nk ?_ ?_
      | fail
    all_goals repeat' first
      | with_reducible exact HasIdx.head
      | with_reducible refine' HasIdx.tail ?_
      | exact args_nil
      | refine' args_cons ?_ ?_
      | exact EscIx.nil
      | (refine' EscIx.here ?_ ?_; (· (repeat' first | with_reducible exact HasIdx.head | with_reducible refine' HasIdx.tail ?_)))
      | refine' EscIx.skip ?_
      | (refine' ev_var ?_; (· (repeat' first | with_reducible exact HasIdx.head | with_reducible refine' HasIdx.tail ?_)))
      | with_reducible exact ev_int
      | refine' ev_str ?_
      | refine' ev_rev ?_
      | refine' ev_sub_ ?_ ?_
      | refine' ev_tup ?_
      | refine' ev_add ?_ ?_
      | refine' ev_eq ?_ ?_
      | refine' ev_len ?_ ?_
      | refine' ev_in ?_ ?_
      | refine' ev_call f0 (Nat.le_of_ble_eq_true rfl) (fun h => h) ?_ ?_ ?_
      | refine' ev_call f1 (Nat.le_of_ble_eq_true rfl) (fun h => h) ?_ ?_ ?_
      | refine' ev_call f2 (Nat.le_of_ble_eq_true rfl) (fun h => h) ?_ ?_ ?_
      | refine' ev_call f3 (Nat.le_of_ble_eq_true rfl) (fun h => h) ?_ ?_ ?_
      | with_reducible exact ev_bool
      | refine' ev_neg ?_
      | refine' ev_sub ?_ ?_
      | refine' ev_mod ?_ ?_
      | refine' ev_shr ?_ ?_
      | refine' ev_and ?_ ?_
      | refine' ev_lt ?_ ?_
      | refine' ev_gt ?_ ?_
      | refine' ev_ne ?_ ?_
      | refine' ev_notin ?_ ?_
      | refine' ev_lst ?_
      | refine' ev_sorted ?_ ?_
      | refine' ev_compF ?_ ?_ ?_ ?_ ?_ ?_
      | refine' ev_comp2 ?_ ?_ ?_ ?_ ?_ ?_ ?_ ?_ ?_
      | refine' ev_band ?_ ?_
      | refine' ev_bor ?_ ?_
      | refine' ev_glob ?_ q1 r1 ?_
      | refine' ev_glob ?_ q2 r2 ?_
      | refine' tr_and ?_ ?_
      | refine' tr_or ?_ ?_
      | refine' tr_cmp ?_
      | refine' tr_of ?_
      | refine' it_rng1 ?_ ?_
      | refine' it_rng2 ?_ ?_ ?_
      | refine' it_of ?_
      | exact tests_nil
      | refine' tests_one ?_
      | exact NamesIx.nil
      | refine' NamesIx.cons ?_ ?_
      | with_reducible exact FreeNs.nil
      | with_reducible refine' FreeNs.free ?_
      | with_reducible refine' FreeNs.loc ?_
      | with_reducible refine' FreeNs.glob ?_
      | exact ix_nil
      | refine' ix_cons ?_ ?_
      | refine' el_ge ?_ ?_
      | refine' el_in ?_ ?_
      | exact gv_int
      | refine' gv_name ?_ ?_ ?_ ?_
      | refine' gv_sub ?_ ?_
      | refine' gv_item ?_ ?_
      | exact GenOk.of (by kernel_rfl)
      | kernel_rfl
      | exact ⟨by kernel_rfl, by assumption, by assumption, by kernel_rfl⟩
      | fail
  case plain => exact fun _ _ h => h

theorem fn_law {w : World} {h : Heap} {mg mb : Str → Option Value} {ts : Tabs} {cc P : Addr} (bo : BaseOk ⟨PySem.Challenge.rw_pd_quartet_3_02.row.prog, w, h, mg, mb⟩) (KX : (hd.heap_39 w.params).In h)
   (g1 : mg "len" = none) (b1 : mb "len" = some (.builtin "len")) (g2 : mg "range" = none) (b2 : mb "range" = some (.type "range")) (g3 : mg "sorted" = none) (b3 : mb "sorted" = some (.builtin "sorted")) (g4 : mg "any" = none) (b4 : mb "any" = some (.builtin "any")) {v1 v2 : Value} (q1 : mg "_law_LEAVES" = some v1) (r1 : Rep [] h v1 leavesD) (q2 : mg "_law_KINDS" = some v2) (r2 : Rep [] h v2 kindsD) (f0 : Fn ⟨PySem.Challenge.rw_pd_quartet_3_02.row.prog, w, h, mg, mb⟩ false 1 "_law_cell" cell2F) (f1 : Fn ⟨PySem.Challenge.rw_pd_quartet_3_02.row.prog, w, h, mg, mb⟩ false 2 "_law_post" postF) (f2 : Fn ⟨PySem.Challenge.rw_pd_quartet_3_02.row.prog, w, h, mg, mb⟩ false 1 "_law_reading" readF) (f3 : Fn ⟨PySem.Challenge.rw_pd_quartet_3_02.row.prog, w, h, mg, mb⟩ false 1 "thompson" thomF) (e0 : FnT ⟨PySem.Challenge.rw_pd_quartet_3_02.row.prog, w, h, mg, mb⟩ ts 2 "_law_set_is_right" setF)
   (hm : (cc, P) ∈ ts) (hdist : ∀ t ∈ ts, t.2 = P → t = (cc, P)) (htt : ∀ P ∈ ts.map (·.2), h.get? P = none) (hbm : BmOk ⟨PySem.Challenge.rw_pd_quartet_3_02.row.prog, w, h, mg, mb⟩) (hcc : ∀ a o fd, mg "law" = some (.ref a) → h.get? a = some o → o.data = .func fd → fd.code = .ref cc) : FnT ⟨PySem.Challenge.rw_pd_quartet_3_02.row.prog, w, h, mg, mb⟩ ts 3 "law" law2F := by
  revert KX; k_fill; intro KX
  refine' FnT.imp (fnT_of bo ["script"] ["post", "made", "leaves", "follow", "whole", "nfa", "edges", "mask", "chosen", "reach", "k", "held", "final"] ["script", "post", "made", "leaves", "follow", "whole", "nfa", "edges", "mask", "chosen", "reach", "k", "held", "final"] ?fd hcc rfl ?nk ?k1 ?k2 ?k3 ?k4 htt ?body) ?plain
  case fd =>
    refine' ⟨_, _, _, mg_of KX bo.g (by k_is), KX _ _ (by k_is), rfl, codeRec_of KX (by k_is), rfl, rfl, rfl, rfl, rfl, ?_⟩
    intro vs hv
    obtain ⟨a1, rfl⟩ := len1 hv
    rfl
  case k1 => rfl
  case k2 => rfl
  case k3 => rfl
  case k4 => exact dbg_of (by kernel_rfl)
  case nk => exact NsOk.of (by kernel_rfl)
  case body =>
    intro nk
    repeat' first
      | exact ext_nil rfl
      | refine' ext_cons ?_ ?_
      | refine' ext_if rfl nk (trT_of (evT_any rfl hm hdist htt hbm ?_ ?_ ?_ ?_ ?_ ?_)) ?_ ?_
      | refine' ext_ifnotZ nk ?_ (ext_if rfl nk (trT_not (trT_of (evT_call rfl e0 (Nat.le_of_ble_eq_true rfl) ?_ ?_ ?_))) ?_ ?_)
      | refine' ext_assign rfl nk ?_ (evT_any rfl hm hdist htt hbm ?_ ?_ ?_ ?_ ?_ ?_) anyX_bool
      | refine' ext_plain rfl  ?_
      | exact ex_nil
      | refine' ex_cons ?_ ?_
      | refine' ex_deep0 (x := "edges") nk ?_
      | refine' ex_deepN (x := "edges") nk ?_ ?_
      | refine' ex_deepA nk ?_ ?_ ?_ ?_ ?_
      | refine' ex_pop nk ?_ ?_ ?_
      | refine' ex_append0 nk ?_ (ev_tup (args_cons ev_bool (args_cons (ev_lst ?_) (args_cons (ev_lst ?_) args_nil)))) ?_
      | refine' ex_assign_compF nk ?_ rfl ?_ ?_ ?_ ?_ ?_ ?_
      | refine' ex_assign_compC nk ?_ rfl ?_ ?_ ?_ ?_ ?_ ?_
      | refine' ex_assign0 nk ?_ (ev_len ?_ ?_)
      | refine' ex_assign0 nk ?_ (ev_sorted ?_ ?_)
      | refine' ex_assign nk ?_ ?_ ?_
      | refine' ex_setitem nk ?_ ?_ ?_ ?_
      | refine' ex_append nk ?_ ?_ ?_ ?_
      | refine' ex_del nk ?_ ?_
      | refine' ex_if nk ?_ ?_ ?_
      | refine' ex_for0 nk ?_ (it_rng1 ?_ ?_) ?_
      | refine' ex_for0 nk ?_ (it_rng2 ?_ ?_ ?_) ?_
      | refine' ex_for nk ?_ ?_ ?_ ?_
      | exact ex_break
      | exact ex_continue
      | refine' ex_unpack nk ?_ ?_ ?_
      | refine' ex_return nk ?_ ?_
      | fail
    all_goals repeat' first
      | with_reducible exact HasIdx.head
      | with_reducible refine' HasIdx.tail ?_
      | exact args_nil
      | refine' args_cons ?_ ?_
      | exact EscIx.nil
      | (refine' EscIx.here ?_ ?_; (· (repeat' first | with_reducible exact HasIdx.head | with_reducible refine' HasIdx.tail ?_)))
      | refine' EscIx.skip ?_
      | (refine' ev_var ?_; (· (repeat' first | with_reducible exact HasIdx.head | with_reducible refine' HasIdx.tail ?_)))
      | with_reducible exact ev_int
      | refine' ev_str ?_
      | refine' ev_rev ?_
      | refine' ev_sub_ ?_ ?_
      | refine' ev_tup ?_
      | refine' ev_add ?_ ?_
      | refine' ev_eq ?_ ?_
      | refine' ev_len ?_ ?_
      | refine' ev_in ?_ ?_
      | refine' ev_call f0 (Nat.le_of_ble_eq_true rfl) (fun h => h) ?_ ?_ ?_
      | refine' ev_call f1 (Nat.le_of_ble_eq_true rfl) (fun h => h) ?_ ?_ ?_
      | refine' ev_call f2 (Nat.le_of_ble_eq_true rfl) (fun h => h) ?_ ?_ ?_
      | refine' ev_call f3 (Nat.le_of_ble_eq_true rfl) (fun h => h) ?_ ?_ ?_
      | with_reducible exact ev_bool
      | refine' ev_neg ?_
      | refine' ev_sub ?_ ?_
      | refine' ev_mod ?_ ?_
      | refine' ev_shr ?_ ?_
      | refine' ev_and ?_ ?_
      | refine' ev_lt ?_ ?_
      | refine' ev_gt ?_ ?_
      | refine' ev_ne ?_ ?_
      | refine' ev_notin ?_ ?_
      | refine' ev_lst ?_
      | refine' ev_sorted ?_ ?_
      | refine' ev_compF ?_ ?_ ?_ ?_ ?_ ?_
      | refine' ev_comp2 ?_ ?_ ?_ ?_ ?_ ?_ ?_ ?_ ?_
      | refine' ev_band ?_ ?_
      | refine' ev_bor ?_ ?_
      | refine' ev_glob ?_ q1 r1 ?_
      | refine' ev_glob ?_ q2 r2 ?_
      | refine' tr_and ?_ ?_
      | refine' tr_or ?_ ?_
      | refine' tr_cmp ?_
      | refine' tr_of ?_
      | refine' it_rng1 ?_ ?_
      | refine' it_rng2 ?_ ?_ ?_
      | refine' it_of ?_
      | exact tests_nil
      | refine' tests_one ?_
      | exact NamesIx.nil
      | refine' NamesIx.cons ?_ ?_
      | with_reducible exact FreeNs.nil
      | with_reducible refine' FreeNs.free ?_
      | with_reducible refine' FreeNs.loc ?_
      | with_reducible refine' FreeNs.glob ?_
      | exact ix_nil
      | refine' ix_cons ?_ ?_
      | refine' el_ge ?_ ?_
      | refine' el_in ?_ ?_
      | exact gv_int
      | refine' gv_name ?_ ?_ ?_ ?_
      | refine' gv_sub ?_ ?_
      | refine' gv_item ?_ ?_
      | exact GenOk.of (by kernel_rfl)
      | kernel_rfl
      | exact ⟨by kernel_rfl, by assumption, by assumption, by kernel_rfl⟩
      | fail
  case plain => exact fun _ _ h => h

theorem globs2 {w : World} {h : Heap} {mg mb : Str → Option Value} (bo : BaseOk ⟨PySem.Challenge.rw_pd_quartet_3_02.row.prog, w, h, mg, mb⟩) (KX : (hd.heap_39 w.params).In h) : (∃ v, mg "_law_LEAVES" = some v ∧ Rep [] h v leavesD) ∧ ∃ v, mg "_law_KINDS" = some v ∧ Rep [] h v kindsD := by
  revert bo KX; k_fill; intro bo KX
  refine ⟨⟨.ref _, mg_of KX bo.g (by k_is), ?_⟩, ⟨.ref _, mg_of KX bo.g (by k_is), ?_⟩⟩
  · exact .tuple (KX _ _ (by k_is)) (fun h => nomatch h) (few (by decide)) (.cons (.tuple (KX _ _ (by k_is)) (fun h => nomatch h) (few (by decide)) (.cons (.str _ _ (by kernel_rfl)) (.cons (.str _ _ (by kernel_rfl)) .nil))) (.cons (.tuple (KX _ _ (by k_is)) (fun h => nomatch h) (few (by decide)) (.cons (.str _ _ (by kernel_rfl)) (.cons (.str _ _ (by kernel_rfl)) .nil))) (.cons (.tuple (KX _ _ (by k_is)) (fun h => nomatch h) (few (by decide)) (.cons (.str _ _ (by kernel_rfl)) (.cons (.str _ _ (by kernel_rfl)) .nil))) (.cons (.tuple (KX _ _ (by k_is)) (fun h => nomatch h) (few (by decide)) (.cons (.str _ _ (by kernel_rfl)) (.cons (.str _ _ (by kernel_rfl)) .nil))) (.cons (.tuple (KX _ _ (by k_is)) (fun h => nomatch h) (few (by decide)) (.cons (.str _ _ (by kernel_rfl)) (.cons (.str _ _ (by kernel_rfl)) .nil))) (.cons (.tuple (KX _ _ (by k_is)) (fun h => nomatch h) (few (by decide)) (.cons (.str _ _ (by kernel_rfl)) (.cons (.str _ _ (by kernel_rfl)) .nil))) .nil))))))
  · exact .tuple (KX _ _ (by k_is)) (fun h => nomatch h) (few (by decide)) (.cons (.str _ _ (by kernel_rfl)) (.cons (.str _ _ (by kernel_rfl)) (.cons (.str _ _ (by kernel_rfl)) (.cons (.str _ _ (by kernel_rfl)) (.cons (.str _ _ (by kernel_rfl)) (.cons (.str _ _ (by kernel_rfl)) .nil))))))
theorem ptab2 {w : World} {h : Heap} {mg mb : Str → Option Value} (bo : BaseOk ⟨PySem.Challenge.rw_pd_quartet_3_02.row.prog, w, h, mg, mb⟩) (KX : (hd.heap_39 w.params).In h) : ∃ (aL : Addr) (oL : Obj) (fL : FuncData) (cL : Addr) (xL : Obj) (vL : Array Value) (PL : Addr) (aS : Addr) (oS : Obj) (fS : FuncData) (cS : Addr) (xS : Obj) (vS : Array Value) (PS : Addr),
    mg "law" = some (.ref aL) ∧ h.get? aL = some oL ∧ oL.data = .func fL ∧ fL.code = .ref cL ∧ h.get? cL = some xL ∧ xL.data = .fields vL ∧ vL[11]? = some (.ref PL) ∧
    mg "_law_set_is_right" = some (.ref aS) ∧ h.get? aS = some oS ∧ oS.data = .func fS ∧ fS.code = .ref cS ∧ h.get? cS = some xS ∧ xS.data = .fields vS ∧ vS[11]? = some (.ref PS) ∧ PL ≠ PS := by
  revert bo KX; k_fill; intro bo KX
  exact ⟨_, _, _, _, _, _, _, _, _, _, _, _, _, _, mg_of KX bo.g (by k_is), KX _ _ (by k_is), rfl, rfl, KX _ _ (by k_is), rfl, rfl, mg_of KX bo.g (by k_is), KX _ _ (by k_is), rfl, rfl, KX _ _ (by k_is), rfl, rfl, by decide⟩

theorem rec_of {p : Program} {n : Str} (h : ((recsOf p).any fun d => d.name == n) = true) : ∃ d ∈ recsOf p, d.name = n := by
  obtain ⟨d, h1, h2⟩ := List.any_eq_true.mp h
  exact ⟨d, h1, by simpa using h2⟩
theorem same_code {h : Heap} {mg : Str → Option Value} {x : Str} {a a' c c' P P' : Addr} {o o' : Obj} {fd fd' : FuncData} {ps : Array Value} (h1 : mg x = some (.ref a)) (h2 : h.get? a = some o) (h3 : o.data = .func fd) (h4 : fd.code = .ref c) (tb : h.TableAt c P ps)
    (k1 : mg x = some (.ref a')) (k2 : h.get? a' = some o') (k3 : o'.data = .func fd') (k4 : fd'.code = .ref c') {x' : Obj} {v' : Array Value} (k5 : h.get? c' = some x') (k6 : x'.data = .fields v') (k7 : v'[11]? = some (.ref P')) : P = P' := by
  rw [h1] at k1; cases k1
  rw [h2] at k2; cases k2
  rw [h3] at k3; cases k3
  rw [h4] at k4; cases k4
  obtain ⟨⟨o2, vs, e1, _, e2, e3⟩, _⟩ := tb
  rw [e1] at k5; cases k5
  rw [e2] at k6; cases k6
  rw [e3] at k7; cases k7
  rfl
theorem end2 {w : World} {s₁ : Shared} {mg mb : Str → Option Value} {fa a : Addr} {ns : List Int} (g : s₁.heap.Ns mainGlobals mg) (b : s₁.heap.Ns builtinsNs mb) (L : s₁.heap.NoLimit) (KX : (hd.heap_39 w.params).In s₁.heap) (hK : kb_classed (hd.heap_39 w.params) = true)
    (tabL : ∃ a o fd c P, mg "law" = some (.ref a) ∧ s₁.heap.get? a = some o ∧ o.data = .func fd ∧ fd.code = .ref c ∧ s₁.heap.IsCode c P #[] ∧ s₁.heap.TableAt c P #[]) (tabS : ∃ a o fd c P, mg "_law_set_is_right" = some (.ref a) ∧ s₁.heap.get? a = some o ∧ o.data = .func fd ∧ fd.code = .ref c ∧ s₁.heap.IsCode c P #[] ∧ s₁.heap.TableAt c P #[])
    (hbm : ∃ bm ob, mg "__builtins__" = some (.ref bm) ∧ bm ≠ builtinsNs ∧ s₁.heap.get? bm = some ob ∧ ob.cls = .type "module" ∧ ob.dict = some builtinsNs ∧ ob.data = .plain)
    (g1 : mg "len" = none) (b1 : mb "len" = some (.builtin "len")) (g2 : mg "range" = none) (b2 : mb "range" = some (.type "range")) (g3 : mg "sorted" = none) (b3 : mb "sorted" = some (.builtin "sorted")) (g4 : mg "any" = none) (b4 : mb "any" = some (.builtin "any"))
    (hmg : mg "law" = some (.ref fa)) (hg : s₁.gens = #[]) (rs : Rep [] s₁.heap (.ref a) (.list (ns.map .int))) :
    codeAny (model PySem.Challenge.rw_pd_quartet_3_02.row.prog w) callerA (.call (.ref fa) ⟨[.ref a], []⟩) (fun r s' => r = .ok (.ret (.bool true)) ∧ OldK s₁.heap s'.heap ∧ s'.os = s₁.os ∧ AllBare s'.gens) s₁ := by
  have bo0 : BaseOk ⟨PySem.Challenge.rw_pd_quartet_3_02.row.prog, w, s₁.heap, mg, mb⟩ := ⟨g, b, L⟩
  obtain ⟨aL, oL, fL, cL, xL, vL, PL, aS, oS, fS, cS, xS, vS, PS, l1, l2, l3, l4, l5, l6, l7, m1, m2, m3, m4, m5, m6, m7, hne⟩ := ptab2 bo0 KX
  obtain ⟨a1, o1, f1, c1, P1, t1, t2, t3, t4, t5, t6⟩ := tabL
  obtain ⟨a2, o2, f2, c2, P2, u1, u2, u3, u4, u5, u6⟩ := tabS
  have e1 : P1 = PL := same_code t1 t2 t3 t4 t6 l1 l2 l3 l4 l5 l6 l7
  have e2 : P2 = PS := same_code u1 u2 u3 u4 u6 m1 m2 m3 m4 m5 m6 m7
  have hP : P1 ≠ P2 := by rw [e1, e2]; exact hne
  clear e1 e2 hne l1 l2 l3 l4 l5 l6 l7 m1 m2 m3 m4 m5 m6 m7
  generalize hts : ([(c1, P1), (c2, P2)] : Tabs) = ts
  have hm1 : (c1, P1) ∈ ts := by rw [← hts]; simp
  have hm2 : (c2, P2) ∈ ts := by rw [← hts]; simp
  have hcase : ∀ t ∈ ts, t = (c1, P1) ∨ t = (c2, P2) := fun t ht => by rw [← hts] at ht; simpa using ht
  have h0 : ∀ t ∈ ts, s₁.heap.TableAt t.1 t.2 #[] := fun t ht => by rcases hcase t ht with rfl | rfl <;> assumption
  have tk : TabsOk ts s₁.heap := fun t ht => ⟨#[], by rcases hcase t ht with rfl | rfl <;> assumption, h0 t ht⟩
  have bo := base_hide (prog := PySem.Challenge.rw_pd_quartet_3_02.row.prog) (w := w) tk g b L
  have KXh := in_hide KX tk g L hK
  have bm := bm_hide (prog := PySem.Challenge.rw_pd_quartet_3_02.row.prog) (w := w) (mb := mb) tk hbm
  have htt : ∀ P ∈ ts.map (·.2), (hide s₁.heap (ts.map (·.2))).get? P = none := fun P hP => hide_in hP
  have ba : AllBare s₁.gens := AllBare.of_eq hg
  obtain ⟨⟨v1, q1, r1⟩, ⟨v2, q2, r2⟩⟩ := globs2 bo KXh
  have f1' := fn_law_cell bo KXh g1 b1 g2 b2 g3 b3 g4 b4 q1 r1 q2 r2
  have f2' := fn_thompson bo KXh g1 b1 g2 b2 g3 b3 g4 b4 q1 r1 q2 r2
  have f3' := fn_closure bo KXh g1 b1 g2 b2 g3 b3 g4 b4 q1 r1 q2 r2
  have f4' := fn_step bo KXh g1 b1 g2 b2 g3 b3 g4 b4 q1 r1 q2 r2
  have f5' := fn_law_post bo KXh g1 b1 g2 b2 g3 b3 g4 b4 q1 r1 q2 r2 f1'
  have f6' := fn_law_reading bo KXh g1 b1 g2 b2 g3 b3 g4 b4 q1 r1 q2 r2
  have f7' := fn_law_set_is_right (ts := ts) (cc := c2) (P := P2) bo KXh g1 b1 g2 b2 g3 b3 g4 b4 q1 r1 q2 r2 f3' f4' hm2 (fun t ht e => by rcases hcase t ht with rfl | rfl; exact absurd e hP; rfl) htt bm (fun a o fd k1 k2 k3 => by
    rw [u1] at k1; cases k1
    have k2' := (hide_some k2).2
    rw [u2] at k2'; cases k2'
    rw [u3] at k3; cases k3
    exact u4)
  have f8' := fn_law (ts := ts) (cc := c1) (P := P1) bo KXh g1 b1 g2 b2 g3 b3 g4 b4 q1 r1 q2 r2 f1' f5' f6' f2' f7' hm1 (fun t ht e => by rcases hcase t ht with rfl | rfl; rfl; exact absurd e.symm hP) htt bm (fun a o fd k1 k2 k3 => by
    rw [t1] at k1; cases k1
    have k2' := (hide_some k2).2
    rw [t2] at k2'; cases k2'
    rw [t3] at k3; cases k3
    exact t4)
  obtain ⟨a', o', fd', hg', ho', hd', con⟩ := f8'
  have e : fa = a' := by
    have h2 : mg "law" = some (.ref a') := hg'
    rw [h2] at hmg
    cases hmg; rfl
  subst e
  refine codeAny_mono (con (A := callerA) (O := []) (s := s₁) (vs := [.ref a]) (ds := [.list (ns.map .int)]) (d := .bool true) ⟨rfl, by decide, by decide⟩ (fun _ _ e => (hide_some e).2) (fun _ h => nomatch h) (fun _ h => nomatch h) (fun _ h => nomatch h) tk ba (.cons rs .nil) (plain2 ns)) fun r s' h => ?_
  obtain ⟨v, rfl, ⟨h, t, gg, rfl, k, tk', ba'⟩, rv⟩ := h
  cases rv
  exact ⟨rfl, oldK_of k tk' h0, rfl, ba'⟩

theorem rep_script {P : Params} {h : Heap} {a : Addr} {ns : List Int} (w1 : Well P h (.ref a) (ofPy (PyData.list (ns.map .int)))) (hn : ns.length ≤ 63) : Rep [] h (.ref a) (.list (ns.map .int)) := by
  have : ofPy (PyData.list (ns.map .int)) = .list (ns.map .int) := by
    simp only [ofPy, ofPys_eq, List.map_map]; rfl
  rw [this] at w1
  cases w1 with
  | @list _ vs xs e ws =>
    have : ∀ (vs : List Value) (ns : List Int), WellAll P h vs (ns.map .int) → RepAll [] h vs (ns.map .int) := fun vs ns => by
      induction ns generalizing vs with
      | nil => intro q; cases q; exact .nil
      | cons n ns ih => intro q; cases q with | cons q1 q2 => cases q1; exact .cons (.int _ _) (ih _ q2)
    have r := this vs ns ws
    have hl := r.length
    rw [List.length_map] at hl
    exact .list e (fun h => nomatch h) (by rw [List.size_toArray, hl]; exact few (by omega)) (by simpa using r)
end Mine
open Mine

theorem PySem.Challenge.cw_pd_quartet_3_02_holds : PySem.Challenge.rw_pd_quartet_3_02.Holds :=
  hd (by
  k_fill
  intro w s₀ s₁ mg mb G Y fa o pm cd doc dV kV ho hd hcd hD hmg hg args vals as hpre hlay hrd hwl hlo
  have KX := kIn_of Y
  have T := G.T
  clear G Y hD hcd hd ho
  wrow_args hpre hlay hrd hwl hlo
  rename_i ns _ _ _ _ _ _ _ a _ _ _ _ w1 _ _ _ hc _
  have hn : ns.length ≤ 63 := by omega
  have tl : ∃ a o fd c P, mg "law" = some (.ref a) ∧ s₁.heap.get? a = some o ∧ o.data = .func fd ∧ fd.code = .ref c ∧ s₁.heap.IsCode c P #[] ∧ s₁.heap.TableAt c P #[] := by
    obtain ⟨d, h1, h2⟩ := rec_of (p := _root_.hd.view_39) (n := "law") (by kernel_rfl)
    have := T.tab d h1
    rw [h2] at this; exact this
  have tS : ∃ a o fd c P, mg "_law_set_is_right" = some (.ref a) ∧ s₁.heap.get? a = some o ∧ o.data = .func fd ∧ fd.code = .ref c ∧ s₁.heap.IsCode c P #[] ∧ s₁.heap.TableAt c P #[] := by
    obtain ⟨d, h1, h2⟩ := rec_of (p := _root_.hd.view_39) (n := "_law_set_is_right") (by kernel_rfl)
    have := T.tab d h1
    rw [h2] at this; exact this
  have key := end2 (w := w) (a := a) (ns := ns) T.g T.b T.nolimit KX (by kernel_rfl) tl tS T.bmain (mg_none_of KX T.g (by k_is)) ((T.builtins "len" (by decide)).trans (by boot_fast)) (mg_none_of KX T.g (by k_is)) ((T.builtins "range" (by decide)).trans (by boot_fast)) (mg_none_of KX T.g (by k_is)) ((T.builtins "sorted" (by decide)).trans (by boot_fast)) (mg_none_of KX T.g (by k_is)) ((T.builtins "any" (by decide)).trans (by boot_fast)) hmg hg (rep_script w1 hn)
  refine wpAny_call (codeAny_mono key fun r s' h => ?_)
  obtain ⟨rfl, hk, hos, hba⟩ := h
  exact ⟨.inl ⟨_, _, _, rfl, raisesW_false (fun ct h => nomatch h), .bool _, postW_of (by wrow_shape) (w_eq_bool (w_res rfl) w_lit) rfl, fun _ => ⟨.nil, fun _ h => nomatch h⟩⟩, hk, hos, hba⟩)
