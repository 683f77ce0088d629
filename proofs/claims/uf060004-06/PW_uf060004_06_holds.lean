import PyProof.Rows.All
import Wide.All
import OpenK.KWalk
import Wide.FinOn
import KE.IntBitsLaws
import OpenK.KDescr
import OpenK.KMore
import PyProof.IsInstance
import PyProof.ExcClass
import PyProof.ExcArgsOwn
import PyProof.ExcAttrAll.ValueError
import PyProof.Comp
import PyProof.CompFree
import PyProof.SliceList
import PyProof.Cells
import PyProof.Seq
import PyProof.RangeIter
import PyProof.Rules3
import PyProof.ListIndex
import PyProof.PlainList
import PyProof.Rows.Globals
import PyProof.NoPylong
import PyProof.SeqI3
import PyProof.P3Statements
import PyProof.StrOps2
import PyProof.ListOps
import PyProof.WalkInts
import PyProof.EqAt
import PyProof.IsiPairs
import PyProof.IsiHeapPairs
import PyProof.Rows.RuleB_mul
import PyProof.Rows.RuleB_mod
import PyProof.Rows.RuleB_floordiv
import PyProof.Rows.RuleB_pow
import PyProof.Rows.RuleC_int
import PyProof.Rows.RuleC_bool
import PyProof.Rows.RuleU_int
import PyProof.Rows.IntRules
import PyProof.Rows.StrRules
import PyProof.IsRules
import PyProof.Rows.StrTemp
import PyProof.Rows.TupSub
import PyProof.Rows.ListMul
import PyProof.Conv_int_bool
import PyProof.Rows.Tup
import PyProof.Rows.Chain
import PyProof.Rows.Nodes
import PyProof.EqKinds
import PyProof.IsiNone
import PyProof.Rows.RuleIs
import PyProof.Rows.EqDataRows
import PyProof.ListCopy
import PyProof.Rows.RuleN_abs
import PyProof.ReprRoads
import PyProof.SeqI
import PyProof.FactsAll.list_0
import PyProof.FactsAll.list_3
import PyProof.CallRoads
import PyProof.Rows.TupMore
import PyProof.Rows.CatchBare
import PyProof.RulesDelMore
import PyProof.RangeFor
import PyProof.WalksMore
import PyProof.CompMap
import PyProof.StationsW
import PyProof.ExcBaseAll.ValueError
import PyProof.CompUse
import PyProof.AssignAttr
import PyProof.Rows.Walk
import PyProof.ReprLen
import PySem.Challenge.RW_uf060004_06
set_option Elab.async false
section
namespace Mine
open PySem PySem.W PySem.Spec PySem.Calls PyProof.Rows Builtin Builtin.ObjectAttr Builtin.Getset_descriptor
set_option maxRecDepth 100000

noncomputable def excIn (K : Frag) (C : Addr) : Bool :=
  findIn K (.ref C) "__getattribute__" == some (some (.builtin "BaseException.__getattribute__")) && (findIn K (.ref C) "__getattr__" == some none && (mroIn K C (.type "object") == some true && (mroIn K C (.type "BaseException") == some true &&
    (findIn K (.ref C) "__class__" == some (some (.builtin "object.__class__")) && (specialIn K (.builtin "object.__class__") "__get__" == some (some (.builtin "getset_descriptor.__get__")) && (takesIn K (.builtin "object.__class__") == some true && (typeIn K (.ref C) == some (.type "type") && (clsIn K C).isSome)))))))
section
variable {prog : Program} {w : World} {A : Around} {E : Value → Shared → Prop} {s : Shared} {K : Frag} {x C D : Addr} {ox : Obj}
theorem isType_of {M : Model} {h : Heap} (X : K.In h) (e : (clsIn K C).isSome = true) : Looks M h (isType (.ref C)) true := by
  unfold clsIn at e
  split at e
  · rename_i c' d' cd' sl' ho
    intro A' Q' E' s' k q
    unfold isType loadHead
    exact wpAny_bind (wpAny_loadPart (k _ _ (X _ _ ho)) (wpAny_pure q))
  · cases e
theorem type_of {M : Model} {h : Heap} (hx : h.get? x = some ox) (hcl : ox.cls = .ref C) : Looks M h (typeOf (.ref x)) (.ref C) := hcl ▸ (Looks.ld hx).andThen .now
theorem find_class {M : Model} {h : Heap} (X : K.In h) {a g : Value} (e5 : findIn K (.ref C) "__class__" = some (some a)) (e6 : specialIn K a "__get__" = some (some g)) (e7 : takesIn K a = some true) : Looks M h (Builtin.ObjectAttr.find (.ref x) (.ref C) "__class__") (.bind g a) :=
  (looks_findIn X e5).andThen ((looks_specialIn X e6).andThen ((show Looks M h (Builtin.ObjectAttr.dataDescriptor? (some a) (some g)) (some (g, a)) from (looks_takesIn (M := M) X e7).andThen .now).andThen (Looks.tag .now)))
theorem class_of {R : Result → Shared → Prop} {tp : Value} (X : K.In s.heap) (hx : s.heap.get? x = some ox) (hcl : ox.cls = .ref C) (hm : mroIn K C (.type "object") = some true) (h : R (.ok (.ret (.ref C))) s) :
    codeAny (model prog w) A (.call (.builtin "getset_descriptor.__get__") ⟨[.builtin "object.__class__", .ref x, tp], []⟩) R s := by
  obtain ⟨hh, g, dr, t, os⟩ := s
  have L0 := type_of (M := model prog w) hx hcl
  have L1 := looks_mroIn (M := model prog w) X hm
  refine codeAny_call_builtin KF.slot_gs.plain KF.entry_gs (KF.slot_gs.check _ _ _ _ _ _ _ _ KF.type_class (KF.args_gs _ _ _) ?_)
  unfold Builtin.«getset_descriptor.__get__» descrGet
  rw [dga_obj]
  refine wpAny_bind (wpAny_pure ?_)
  unfold descrGetter descrCheckInstance descrNameAndClass isInstance
  simp only [KF.owner_class]
  repeat lk
  refine ⟨Code.quiet_builtin _ (by decide +kernel), codeAny_builtin KF.entry_class ?_⟩
  unfold Builtin.«object.__class__» shownTypeOf
  repeat lk
  exact h
theorem wpAny_eq {α : Type} {M : Model} {t u : Sem α} {Q : α → Shared → Prop} (e : t = u) (h : wpAny M A u Q E s) : wpAny M A t Q E s := e ▸ h
theorem exc_class {Q : Option Value → Shared → Prop} (X : K.In s.heap) (hx : s.heap.get? x = some ox) (hcl : ox.cls = .ref C) (e : excIn K C = true) (h : Q (some (.ref C)) { s with toks := s.toks + 1 }) : wpAny (model prog w) A (getAttr? (.ref x) "__class__") Q E s := by
  unfold excIn at e
  simp only [Bool.and_eq_true, beq_iff_eq] at e
  obtain ⟨e1, e2, e3, e4, e5, e6, e7, e8, e9⟩ := e
  obtain ⟨hh, g, d, t, os⟩ := s
  have L0 := type_of (M := model prog w) hx hcl
  have L1 := looks_findIn (M := model prog w) X e1
  have L2 := looks_findIn (M := model prog w) X e2
  have L3 := find_class (M := model prog w) (x := x) X e5 e6 e7
  have L4 := looks_mroIn (M := model prog w) X e4
  have f3 := PySem.F.attrBase_ValueError.ga.bind (.ref x)
  unfold getAttr? getAttrBy? getAttrBy
  refine wpAny_bind (wpAny_mkText (wpAny_bind (wpAny_attempt (wpAny_holding (wpAny_bind (L0.at (wpAny_bind (L1.at ?_))))))))
  dsimp only
  rw [if_neg (show ¬ (onTheHeap (Value.ref C) && Value.builtin "BaseException.__getattribute__" == Value.builtin "object.__getattribute__") = true from by rw [show (Value.builtin "BaseException.__getattribute__" == Value.builtin "object.__getattribute__") = false from by decide +kernel, Bool.and_false]; decide)]
  unfold getAttrByItsOwn hookBefore
  rw [if_pos (show onTheHeap (Value.ref C) = true from rfl)]
  refine wpAny_bind (L2.at (wpAny_bind (wpAny_attempt (wpAny_holding ?_))))
  unfold callGetattribute boundAndCalled
  rw [if_neg (show ¬ (false && onTheHeap (Value.builtin "BaseException.__getattribute__")) = true from by decide)]
  rw [f3]
  refine wpAny_bind (wpAny_pure ?_)
  show wpAny _ _ (call _ _) _ _ _
  refine wpAny_call (codeAny_call_builtin PySem.F.attrBase_ValueError.ga.plain F.entry_bexc_ga ?_)
  have hk : builtinKind "BaseException.__getattribute__" = some .slot := by decide +kernel
  have hsplit : splitId "BaseException.__getattribute__" = some ("BaseException", "__getattribute__") := by decide +kernel
  have ha := F.args_bexc_ga (.ref x) (.str "__class__" t)
  simp only [checkBuiltinCall, hk, hsplit]
  refine wpAny_bind ?_
  unfold isInstance
  refine wpAny_bind (L0.at ?_)
  refine L4.at ?_
  rw [if_neg (by decide)]
  unfold argsOk at ha
  dsimp only [List.cons_append, List.nil_append]
  refine wpAny_eq ha (wpAny_pure ?_)
  unfold Builtin.«object.__getattribute__» slotArgs
  refine wpAny_bind (wpAny_pure ?_)
  refine wpAny_bind (wpAny_pure (wpAny_bind (L0.at (wpAny_bind (L3.at ?_)))))
  show wpAny _ _ (holding [_] (call _ _) >>= ret) _ _ _
  refine wpAny_bind (wpAny_holding (wpAny_call (class_of (s := ⟨hh, g, d, t + 1, os⟩) X hx hcl e3 (wpAny_pure ?_))))
  refine handed_on rfl ?_
  exact wpAny_pure h
theorem exc_nested {c : Value} {b : Bool} {dep : Int} {tk : Tok} {Q : Fin → Shared → Prop} (X : K.In s.heap) (hx : s.heap.get? x = some ox) (hcl : ox.cls = .ref C) (e : excIn K C = true) (hty : Looks (model prog w) s.heap (typeOf c) (.type "type")) (his : Looks (model prog w) s.heap (isType c) true)
    (hsub : mroIn K C c = some b) (hself : (Value.ref C == c) = true → b = true) (h : ∀ t, Q (.done (.ret (.bool b))) { s with toks := t }) :
    wpAny (model prog w) A (Builtin.«isinstance.nested» ⟨[.ref x, c, .int dep tk], []⟩) Q E s := by
  obtain ⟨h0, g, d, tt, os⟩ := s
  have L0 := type_of (M := model prog w) hx hcl
  have L1 := looks_mroIn (M := model prog w) X hsub
  have LI : Looks (model prog w) h0 (isInstance (.ref x) c) b := L0.andThen L1
  unfold Builtin.«isinstance.nested»
  refine wpAny_bind (L0.at ?_)
  by_cases q : (Value.ref C == c) = true
  · rw [if_pos q]
    refine wpAny_bind (wpAny_rule (wpAny_pure ?_))
    rw [hself q] at h
    exact h tt
  · rw [if_neg q]
    refine wpAny_bind (hty.at ?_)
    rw [if_pos (by decide)]
    k_delta "plainIsInstance"
    refine wpAny_bind (wpAny_bind (his.at ?_))
    simp only [Bool.not_true, Bool.false_eq_true, if_false]
    refine wpAny_bind (LI.at ?_)
    cases b with
    | true =>
      simp only [if_true]
      exact wpAny_pure (wpAny_pure (h tt))
    | false =>
      simp only [Bool.false_eq_true, if_false]
      refine wpAny_bind (exc_class X hx hcl e ?_)
      refine wpAny_bind ((isType_of X (by unfold excIn at e; simp only [Bool.and_eq_true] at e; exact e.2.2.2.2.2.2.2.2)).at ?_)
      simp only [Bool.not_true, Bool.false_eq_true, if_false]
      refine wpAny_bind (wpAny_rule ?_)
      refine L1.at ?_
      exact wpAny_pure (h (tt + 1))
theorem exc_isi {c : Value} {b : Bool} {Q : Value → Shared → Prop} (X : K.In s.heap) (hx : s.heap.get? x = some ox) (hcl : ox.cls = .ref C) (e : excIn K C = true) (hty : ∀ (M : Model) h', K.In h' → Looks M h' (typeOf c) (.type "type")) (his : ∀ (M : Model) h', K.In h' → Looks M h' (isType c) true)
    (hsub : mroIn K C c = some b) (hself : (Value.ref C == c) = true → b = true) (h : ∀ t, Q (.bool b) { s with toks := t }) : wpAny (model prog w) A (call (.builtin "isinstance") [.ref x, c]) Q E s :=
  call_isinstance (S := fun _ R s => (K.In s.heap ∧ s.heap.get? x = some ox) ∧ ∀ t, R (.ok (.ret (.bool b))) { s with toks := t })
    (fun _ _ _ _ _ hs => isinstance_outer (exc_nested hs.1.1 hs.1.2 hcl e (hty _ _ hs.1.1) (his _ _ hs.1.1) hsub hself hs.2) (by intro q; cases q)) ⟨⟨X, hx⟩, h⟩
theorem exc_match {b : Bool} {Q : Bool → Shared → Prop} (X : K.In s.heap) (hx : s.heap.get? x = some ox) (hcl : ox.cls = .ref C) (hD : excIn K D = true) (hsub : mroIn K C (.ref D) = some b) (h : Q b s) : wpAny (model prog w) A (excMatches (.ref x) (.ref D)) Q E s := by
  unfold excIn at hD
  simp only [Bool.and_eq_true, beq_iff_eq] at hD
  obtain ⟨e1, e2, e3, e4, e5, e6, e7, e8, e9⟩ := hD
  have L0 := type_of (M := model prog w) hx hcl
  have L1 := looks_mroIn (M := model prog w) X hsub
  have L2 := looks_mroIn (M := model prog w) X e4
  have L3 := looks_typeIn (M := model prog w) X e8
  have L4 : Looks (model prog w) s.heap (isInstance (.ref D) (.type "tuple")) false := L3.andThen (Looks.of_pure tc_notTuple)
  have L5 : Looks (model prog w) s.heap (isExcClass (.ref D)) true := by
    unfold isExcClass
    refine (isType_of X e9).andThen ?_
    rw [if_pos rfl]; exact L2
  unfold excMatches
  refine wpAny_bind (L4.at ?_)
  simp only [Bool.false_eq_true, if_false]
  refine wpAny_bind (wpAny_pure ?_)
  simp only [List.forIn_cons, List.forIn_nil]
  refine wpAny_bind (wpAny_bind (wpAny_bind (L5.at ?_)))
  simp only [Bool.not_true, Bool.false_eq_true, if_false]
  refine wpAny_pure (wpAny_pure (wpAny_bind (L0.at (wpAny_bind (wpAny_bind (wpAny_bind (L1.at ?_)))))))
  cases b with
  | true => exact wpAny_pure (wpAny_pure (wpAny_pure h))
  | false => exact wpAny_pure (wpAny_pure (wpAny_pure h))
end
end Mine
end

section
namespace Mine
open PySem PyProof.Rows

inductive V where
  | unb | none | bool (b : Bool) | int (i : Int) | str (x : Str) | ref (a : Addr) | other | exc (C : Addr)

noncomputable def abs : Value → V
  | .none => .none
  | .bool b => .bool b
  | .int i _ => .int i
  | .str x _ => .str x
  | .ref a => .ref a
  | _ => .other

inductive O where
  | list (vs : List V)
  | tup (vs : List V)
  | inst (C dx : Addr)
  | flds (fs : List (Str × V))
  | exo (C : Addr)

noncomputable def keyS (e : DictEntry) : Option Str := match e.key with
  | .str x _ => some x
  | _ => none

noncomputable def Rep (h : Heap) (a : Addr) : O → Prop
  | .list vs => ∃ items n, h.get? a = some { cls := .type "list", data := .seq items n } ∧ items.toList.map abs = vs
  | .tup vs => ∃ items n, h.get? a = some { cls := .type "tuple", data := .seq items n } ∧ items.toList.map abs = vs
  | .inst C dx => h.get? a = some (PySem.W.instObj C dx)
  | .flds fs => ∃ es n, h.get? a = some (PySem.W.dictOf es n) ∧ es.map (fun e => (keyS e, abs e.val)) = fs.map fun p => (some p.1, p.2)
  | .exo C => ∃ o, h.get? a = some o ∧ o.cls = .ref C

theorem Rep.get {h : Heap} {a : Addr} : ∀ {o : O}, Rep h a o → ∃ ob, h.get? a = some ob
  | .list _, ⟨_, _, e, _⟩ => ⟨_, e⟩
  | .tup _, ⟨_, _, e, _⟩ => ⟨_, e⟩
  | .inst _ _, e => ⟨_, e⟩
  | .flds _, ⟨_, _, e, _⟩ => ⟨_, e⟩
  | .exo _, ⟨o, e, _⟩ => ⟨o, e⟩

theorem Rep.of_eq {h h' : Heap} {a : Addr} (e : h'.get? a = h.get? a) : ∀ {o : O}, Rep h a o → Rep h' a o
  | .list _, ⟨i, n, q, m⟩ => ⟨i, n, e.trans q, m⟩
  | .tup _, ⟨i, n, q, m⟩ => ⟨i, n, e.trans q, m⟩
  | .inst _ _, q => Eq.trans e q
  | .flds _, ⟨i, n, q, m⟩ => ⟨i, n, e.trans q, m⟩
  | .exo _, ⟨o, q, m⟩ => ⟨o, e.trans q, m⟩

theorem Rep.keep {h h' : Heap} {a : Addr} (k : ∀ o, h.get? a = some o → h'.get? a = some o) {o : O} (r : Rep h a o) : Rep h' a o := by
  obtain ⟨ob, e⟩ := r.get
  exact r.of_eq ((k _ e).trans e.symm)

noncomputable abbrev HP := Addr → Option O

noncomputable def upd (H : HP) (a : Addr) (o : O) : HP := fun b => if b = a then some o else H b

theorem upd_same (H : HP) (a : Addr) (o : O) : upd H a o a = some o := by simp [upd]
theorem upd_ne {H : HP} {a b : Addr} (o : O) (h : b ≠ a) : upd H a o b = H b := by simp [upd, h]
theorem upd_upd (H : HP) (a : Addr) (o o' : O) : upd (upd H a o) a o' = upd H a o' := by
  funext b; by_cases h : b = a <;> simp [upd, h]

noncomputable def LE (H H' : HP) : Prop := ∀ a o, H a = some o → H' a = some o
theorem LE.refl (H : HP) : LE H H := fun _ _ e => e
theorem LE.trans {A B C : HP} (x : LE A B) (y : LE B C) : LE A C := fun a o e => y a o (x a o e)
theorem LE.upd {H H' : HP} (x : LE H H') (a : Addr) (o : O) : LE (Mine.upd H a o) (Mine.upd H' a o) := by
  intro b o' e
  by_cases h : b = a
  · subst h; rw [upd_same] at e ⊢; exact e
  · rw [upd_ne _ h] at e ⊢; exact x _ _ e
theorem LE.fresh {H : HP} {a : Addr} (h : H a = Option.none) (o : O) : LE H (Mine.upd H a o) := by
  intro b o' e
  by_cases hb : b = a
  · subst hb; rw [h] at e; cases e
  · rw [upd_ne _ hb]; exact e

structure Cx where
  prog : Program
  w : World
  base : Heap
  Z : Addr → Option (List V)
  gl : Str → Option Value
  exs : List Addr

noncomputable def GlobAt (h : Heap) (x : Str) (v : Value) : Prop :=
  (∃ mg, h.Ns mainGlobals mg ∧ mg x = some v) ∨ ∃ mg mb, h.Ns mainGlobals mg ∧ mg x = none ∧ h.Ns builtinsNs mb ∧ mb x = some v

structure Cx.OK (cx : Cx) : Prop where
  nolimit : cx.base.NoLimit
  seer : cx.base.NoSeer
  tree : cx.prog.given.tree = none
  glob : ∀ x v, cx.gl x = some v → GlobAt cx.base x v
  z : ∀ a vs, cx.Z a = some vs → Rep cx.base a (.list vs)

noncomputable def getL : List V → Nat → V
  | [], _ => .unb
  | a :: _, 0 => a
  | _ :: l, n + 1 => getL l n
noncomputable def setL : List V → Nat → V → List V
  | [], _, _ => []
  | _ :: l, 0, v => v :: l
  | a :: l, n + 1, v => a :: setL l n v

theorem setL_length : ∀ (l : List V) (i : Nat) (v : V), (setL l i v).length = l.length
  | [], _, _ => rfl
  | _ :: _, 0, _ => rfl
  | _ :: l, n + 1, v => by simp [setL, setL_length l n v]
theorem getL_setL_same : ∀ (l : List V) (i : Nat) (v : V), i < l.length → getL (setL l i v) i = v
  | _ :: _, 0, _, _ => rfl
  | _ :: l, n + 1, v, h => getL_setL_same l n v (Nat.lt_of_succ_lt_succ h)
theorem getL_setL_ne : ∀ (l : List V) (i j : Nat) (v : V), i ≠ j → getL (setL l i v) j = getL l j
  | [], _, _, _, _ => rfl
  | _ :: _, 0, 0, _, h => absurd rfl h
  | _ :: _, 0, _ + 1, _, _ => rfl
  | _ :: _, _ + 1, 0, _, _ => rfl
  | _ :: l, n + 1, m + 1, v, h => getL_setL_ne l n m v (fun e => h (by rw [e]))

structure Fm where
  env : Env
  names : List (Option Str)
  l : List Env

noncomputable def SO (o o' : Obj) : Prop := o' = o ∨ ((∃ es ep, o.data = .dict es ep) ∧ ∃ sl, o' = { o with slots := sl })
theorem SO.refl (o : Obj) : SO o o := .inl rfl
theorem SO.data {o o' : Obj} (x : SO o o') : o'.data = o.data := by
  rcases x with rfl | ⟨_, sl, rfl⟩ <;> rfl
theorem SO.trans {o o' o'' : Obj} (x : SO o o') (y : SO o' o'') : SO o o'' := by
  rcases x with rfl | ⟨d, sl, rfl⟩
  · exact y
  · rcases y with rfl | ⟨_, sl', rfl⟩
    · exact .inr ⟨d, sl, rfl⟩
    · exact .inr ⟨d, sl', rfl⟩
theorem SO.same {o o' : Obj} (x : SO o o') (h : ∀ es ep, o.data ≠ .dict es ep) : o' = o := by
  rcases x with rfl | ⟨⟨es, ep, d⟩, _⟩
  · rfl
  · exact absurd d (h es ep)
theorem Ns.so {h h' : Heap} {a : Addr} {m : Str → Option Value} (x : h.Ns a m) (k : ∀ o, h.get? a = some o → ∃ o', h'.get? a = some o' ∧ SO o o') : h'.Ns a m := by
  obtain ⟨o, es, ep, e, hd, r⟩ := x
  obtain ⟨o', e', so⟩ := k o e
  exact ⟨o', es, ep, e', so.data.trans hd, r⟩
noncomputable def FrL (b : Heap) (H : HP) (h : Heap) (l : List Env) : Prop := ∀ e ∈ l, e.scope.kind ≠ .module ∧ ∃ L o es ep, e.frame = some L ∧ b.get? L = none ∧ H L = none ∧ h.get? L = some o ∧ o.data = .dict es ep
noncomputable def Fm.fr (fm : Fm) (a : Addr) : Prop := ∃ e ∈ fm.l, e.frame = some a

noncomputable def Fm.own (fm : Fm) (a : Addr) : Prop := a = fm.env.locals ∨ ∃ x, fm.env.cells.lookup x = some a

noncomputable def VarAt (env : Env) (h : Heap) (x : Str) (v : Option Value) : Prop :=
  (env.kindOf x = some .local ∧ ∃ m, h.Ns env.locals m ∧ m x = v) ∨ (env.kindOf x = some .cell ∧ ∃ c, env.cells.lookup x = some c ∧ h.IsCell c v)

structure Fm.OK (cx : Cx) (A : Around) (fm : Fm) : Prop where
  frames : A.frames = some fm.l
  kind : fm.env.scope.kind = .function
  globals : fm.env.globals = mainGlobals
  builtins : fm.env.builtins = builtinsNs
  cellsNe : ∀ x c, fm.env.cells.lookup x = some c → c ≠ fm.env.locals
  cellsInj : ∀ x y c, fm.env.cells.lookup x = some c → fm.env.cells.lookup y = some c → x = y
  inj : ∀ (i j : Nat) (x : Str), fm.names[i]? = some (some x) → fm.names[j]? = some (some x) → i = j
  above : ∀ a, fm.own a → cx.base.get? a = none
  cellAt : ∀ x, fm.env.kindOf x = some .cell → ∃ c, fm.env.cells.lookup x = some c

structure FR (fm : Fm) (μ : List V) (h : Heap) : Prop where
  len : μ.length = fm.names.length
  live : ∀ a, fm.own a → ∃ o, h.get? a = some o
  ns : ∃ m, h.Ns fm.env.locals m
  var : ∀ (i : Nat) (x : Str), fm.names[i]? = some (some x) → ∃ ov, VarAt fm.env h x ov ∧ (getL μ i = .unb ∨ ∃ v, ov = some v ∧ abs v = getL μ i)

structure HS (cx : Cx) (H : HP) (s : Shared) : Prop where
  hr : ∀ a o, H a = some o → Rep s.heap a o
  ext : ∀ b o, cx.base.get? b = some o → s.heap.get? b = some o
  low : ∀ a o, H a = some o → cx.base.get? a = none

structure SR (cx : Cx) (fm : Fm) (H : HP) (μ : List V) (s : Shared) : Prop extends HS cx H s where
  fr : FR fm μ s.heap
  own : ∀ a o, H a = some o → ¬ fm.own a
  ff : FrL cx.base H s.heap fm.l

structure Kept (ow : Addr → Prop) (s : Shared) (H : HP) (s' : Shared) (H' : HP) : Prop where
  keep : ∀ b o, s.heap.get? b = some o → H b = none → ¬ ow b → ∃ o', s'.heap.get? b = some o' ∧ SO o o'
  dom : ∀ a o, s.heap.get? a = some o → H a = none → ¬ ow a → H' a = none
  os : s'.os = s.os
  gens : s'.gens = s.gens

noncomputable abbrev KE (s : Shared) (H : HP) (s' : Shared) (H' : HP) : Prop := Kept (fun _ => False) s H s' H'

theorem Kept.refl (ow : Addr → Prop) (s : Shared) (H : HP) : Kept ow s H s H := ⟨fun _ o e _ _ => ⟨o, e, .refl o⟩, fun _ _ _ e _ => e, rfl, rfl⟩
theorem Kept.trans {ow : Addr → Prop} {s s₁ s₂ : Shared} {H H₁ H₂ : HP} (x : Kept ow s H s₁ H₁) (y : Kept ow s₁ H₁ s₂ H₂) : Kept ow s H s₂ H₂ :=
  ⟨fun b o e n w => (let ⟨_, e1, s1⟩ := x.keep b o e n w; let ⟨o2, e2, s2⟩ := y.keep b _ e1 (x.dom b o e n w) w; ⟨o2, e2, s1.trans s2⟩),
    fun a o e n w => (let ⟨o1, e1, _⟩ := x.keep a o e n w; y.dom a o1 e1 (x.dom a o e n w) w), y.os.trans x.os, y.gens.trans x.gens⟩
theorem Kept.same {ow : Addr → Prop} {s s' : Shared} {H H' : HP} (x : Kept ow s H s' H') {b : Addr} {o : Obj} (e : s.heap.get? b = some o) (hn : H b = none) (hw : ¬ ow b) (hd : ∀ es ep, o.data ≠ .dict es ep) : s'.heap.get? b = some o := by
  obtain ⟨o', e', so⟩ := x.keep b o e hn hw
  rw [so.same hd] at e'; exact e'
theorem FrL.le {b : Heap} {H H' : HP} {h : Heap} {l : List Env} (x : FrL b H' h l) (le : LE H H') : FrL b H h l := fun e he => by
  obtain ⟨k, L, o, es, ep, h1, h2, h3, r⟩ := x e he
  refine ⟨k, L, o, es, ep, h1, h2, ?_, r⟩
  cases q : H L with
  | none => rfl
  | some o => rw [le L o q] at h3; cases h3
theorem FrL.kept {b : Heap} {ow : Addr → Prop} {s s' : Shared} {H H' : HP} {l : List Env} (x : FrL b H s.heap l) (k : Kept ow s H s' H') (hw : ∀ e ∈ l, ∀ L, e.frame = some L → ¬ ow L) : FrL b H' s'.heap l := fun e he => by
  obtain ⟨kd, L, o, es, ep, h1, h2, h3, h4, h5⟩ := x e he
  obtain ⟨o', e', so⟩ := k.keep L o h4 h3 (hw e he L h1)
  exact ⟨kd, L, o', es, ep, h1, h2, k.dom L o h4 h3 (hw e he L h1), e', so.data.trans h5⟩
theorem FrL.heap {b : Heap} {H : HP} {h h' : Heap} {l : List Env} (x : FrL b H h l) (k : ∀ e ∈ l, ∀ L o, e.frame = some L → h.get? L = some o → h'.get? L = some o) : FrL b H h' l := fun e he => by
  obtain ⟨kd, L, o, es, ep, h1, h2, h3, h4, h5⟩ := x e he
  exact ⟨kd, L, o, es, ep, h1, h2, h3, k e he L o h1 h4, h5⟩
theorem Kept.mono {ow ow' : Addr → Prop} (h : ∀ a, ow a → ow' a) {s s' : Shared} {H H' : HP} (x : Kept ow s H s' H') : Kept ow' s H s' H' :=
  ⟨fun b o e n w => x.keep b o e n (fun q => w (h b q)), fun b o e n w => x.dom b o e n (fun q => w (h b q)), x.os, x.gens⟩
theorem KE.any {s s' : Shared} {H H' : HP} (x : KE s H s' H') (ow : Addr → Prop) : Kept ow s H s' H' := x.mono fun _ q => q.elim

theorem HS.toks {cx : Cx} {H : HP} {s : Shared} (S : HS cx H s) (n : Nat) : HS cx H { s with toks := n } := ⟨S.hr, S.ext, S.low⟩
theorem HS.le {cx : Cx} {H H' : HP} {s : Shared} (S : HS cx H' s) (l : LE H H') : HS cx H s :=
  ⟨fun a o e => S.hr a o (l a o e), S.ext, fun a o e => S.low a o (l a o e)⟩
theorem SR.le {cx : Cx} {fm : Fm} {H H' : HP} {μ : List V} {s : Shared} (S : SR cx fm H' μ s) (l : LE H H') : SR cx fm H μ s :=
  ⟨S.toHS.le l, S.fr, fun a o e => S.own a o (l a o e), S.ff.le l⟩
theorem Kept.le {ow : Addr → Prop} {s s' : Shared} {H H₁ H₂ : HP} (x : Kept ow s H s' H₂) (l : LE H₁ H₂) : Kept ow s H s' H₁ :=
  ⟨x.keep, fun a ob q n w => (by
    cases e : H₁ a with
    | none => rfl
    | some o => exact absurd (l a o e) (by rw [x.dom a ob q n w]; simp)), x.os, x.gens⟩

theorem lookup_mem {α β : Type} [BEq α] [LawfulBEq α] {x : α} {c : β} : ∀ {l : List (α × β)}, l.lookup x = some c → (x, c) ∈ l
  | (y, d) :: l, e => by
    rw [List.lookup_cons] at e
    cases h : x == y with
    | true => rw [h] at e; cases e; rw [eq_of_beq h]; exact List.mem_cons_self
    | false => rw [h] at e; exact List.mem_cons_of_mem _ (lookup_mem e)

theorem VarAt.keep {env : Env} {h h' : Heap} {x : Str} {v : Option Value}
    (k : ∀ b o, (b = env.locals ∨ ∃ y, env.cells.lookup y = some b) → h.get? b = some o → ∃ o', h'.get? b = some o' ∧ SO o o') (w : VarAt env h x v) : VarAt env h' x v := by
  rcases w with ⟨k1, m, hn, hm⟩ | ⟨k1, c, hc, o, e, hd⟩
  · exact .inl ⟨k1, m, Ns.so hn fun o e => k _ _ (.inl rfl) e, hm⟩
  · obtain ⟨o', e', so⟩ := k _ _ (.inr ⟨x, hc⟩) e
    rw [so.same fun es ep q => by rw [hd] at q; cases q] at e'
    exact .inr ⟨k1, c, hc, o, e', hd⟩

theorem FR.keep {fm : Fm} {μ : List V} {h h' : Heap} (F : FR fm μ h) (k : ∀ b o, fm.own b → h.get? b = some o → ∃ o', h'.get? b = some o' ∧ SO o o') : FR fm μ h' :=
  ⟨F.len, fun a q => (let ⟨o, e⟩ := F.live a q; let ⟨o', e', _⟩ := k a o q e; ⟨o', e'⟩), by obtain ⟨m, hm⟩ := F.ns; exact ⟨m, Ns.so hm fun o e => k _ _ (.inl rfl) e⟩, fun i x e => by
    obtain ⟨ov, w, q⟩ := F.var i x e
    exact ⟨ov, w.keep (fun b o => k b o), q⟩⟩

theorem SR.step {cx : Cx} {fm : Fm} {H H' : HP} {μ : List V} {s s' : Shared} (S : SR cx fm H μ s) (S' : HS cx H' s') (k : KE s H s' H') : SR cx fm H' μ s' := by
  have hn : ∀ b, fm.own b → H b = none := fun b q => by
    cases e : H b with
    | none => rfl
    | some o => exact absurd q (S.own b o e)
  refine ⟨S', S.fr.keep (fun b o q e => k.keep b o e (hn b q) id), fun a o e q => ?_, S.ff.kept k fun _ _ _ _ => id⟩
  obtain ⟨ob, l⟩ := S.fr.live a q
  rw [k.dom a ob l (hn a q) id] at e
  cases e

theorem HS.grow {cx : Cx} {H : HP} {s : Shared} (S : HS cx H s) {h' : Heap} (k : ∀ b o, s.heap.get? b = some o → h'.get? b = some o) (n : Nat) :
    HS cx H { s with heap := h', toks := n } :=
  ⟨fun a o e => (S.hr a o e).keep (k a), fun b o e => k b o (S.ext b o e), S.low⟩
theorem KE.grow {s : Shared} {H : HP} {h' : Heap} (k : ∀ b o, s.heap.get? b = some o → h'.get? b = some o) (n : Nat) :
    KE s H { s with heap := h', toks := n } H := ⟨fun b o e _ _ => ⟨o, k b o e, .refl o⟩, fun _ _ _ e _ => e, rfl, rfl⟩
theorem KE.toks (s : Shared) (H : HP) (n : Nat) : KE s H { s with toks := n } H := ⟨fun _ o e _ _ => ⟨o, e, .refl o⟩, fun _ _ _ e _ => e, rfl, rfl⟩

noncomputable def Fresh (cx : Cx) (H : HP) (r : Addr) : Prop := H r = none ∧ cx.base.get? r = none ∧ cx.Z r = none

theorem HS.none_of {cx : Cx} {H : HP} {s : Shared} (S : HS cx H s) {r : Addr} (h : s.heap.get? r = none) : H r = none := by
  cases e : H r with
  | none => rfl
  | some o =>
    obtain ⟨ob, q⟩ := (S.hr r o e).get
    rw [h] at q; cases q
theorem HS.base_none {cx : Cx} {H : HP} {s : Shared} (S : HS cx H s) {r : Addr} (h : s.heap.get? r = none) : cx.base.get? r = none := by
  cases e : cx.base.get? r with
  | none => rfl
  | some o => rw [S.ext r o e] at h; cases h
theorem HS.fresh {cx : Cx} (C : cx.OK) {H : HP} {s : Shared} (S : HS cx H s) {r : Addr} (h : s.heap.get? r = none) : Fresh cx H r :=
  ⟨S.none_of h, S.base_none h, by
    cases e : cx.Z r with
    | none => rfl
    | some vs =>
      obtain ⟨ob, q⟩ := (C.z r vs e).get
      rw [S.base_none h] at q; cases q⟩
theorem get_size (h : Heap) : h.get? h.objs.size = none := by
  cases e : h.get? h.objs.size with
  | none => rfl
  | some o => exact absurd (Heap.lt_size e) (Nat.lt_irrefl _)

theorem HS.alloc {cx : Cx} {H : HP} {s : Shared} (S : HS cx H s) {h' : Heap} {r : Addr} {o : O} (k : ∀ b o, s.heap.get? b = some o → h'.get? b = some o)
    (hr : s.heap.get? r = none) (R : Rep h' r o) (n : Nat) : HS cx (upd H r o) { s with heap := h', toks := n } := by
  have G := S.grow k n
  refine ⟨fun a o' e => ?_, G.ext, fun a o' e => ?_⟩
  · by_cases h : a = r
    · subst h; rw [upd_same] at e; cases e; exact R
    · rw [upd_ne _ h] at e; exact G.hr a o' e
  · by_cases h : a = r
    · subst h; exact S.base_none hr
    · rw [upd_ne _ h] at e; exact G.low a o' e
theorem KE.alloc {s : Shared} {H : HP} {h' : Heap} {r : Addr} {o : O} (k : ∀ b o, s.heap.get? b = some o → h'.get? b = some o)
    (hr : s.heap.get? r = none) (n : Nat) : KE s H { s with heap := h', toks := n } (upd H r o) :=
  ⟨fun b o e _ _ => ⟨o, k b o e, .refl o⟩, fun a ob l e _ => by rw [upd_ne _ (fun q => by subst q; rw [hr] at l; cases l)]; exact e, rfl, rfl⟩

theorem HS.change {cx : Cx} {H : HP} {s : Shared} (S : HS cx H s) {h' : Heap} {a : Addr} {o o' : O} (ha : H a = some o) (sb : ∀ b ob, b ≠ a → s.heap.get? b = some ob → h'.get? b = some ob) (R : Rep h' a o') (n : Nat) :
    HS cx (upd H a o') { s with heap := h', toks := n } := by
  refine ⟨fun b o1 e => ?_, fun b ob e => ?_, fun b o1 e => ?_⟩
  · by_cases h : b = a
    · subst h; rw [upd_same] at e; cases e; exact R
    · rw [upd_ne _ h] at e; exact (S.hr b o1 e).keep (fun ob => sb b ob h)
  · exact sb b ob (fun q => by subst q; rw [S.low _ o ha] at e; cases e) (S.ext b ob e)
  · by_cases h : b = a
    · subst h; exact S.low _ _ ha
    · rw [upd_ne _ h] at e; exact S.low b o1 e
theorem KE.change {s : Shared} {H : HP} {h' : Heap} {a : Addr} {o o' : O} (ha : H a = some o) (sb : ∀ b ob, b ≠ a → s.heap.get? b = some ob → h'.get? b = some ob) (n : Nat) :
    KE s H { s with heap := h', toks := n } (upd H a o') :=
  ⟨fun b ob e hb _ => ⟨ob, sb b ob (fun x => by subst x; rw [ha] at hb; cases hb) e, .refl ob⟩,
    fun b _ _ e _ => by rw [upd_ne _ (fun x => by subst x; rw [ha] at e; cases e)]; exact e, rfl, rfl⟩

theorem SR.aside {cx : Cx} {fm : Fm} {H : HP} {μ : List V} {s : Shared} (S : SR cx fm H μ s) {h' : Heap} {a : Addr} (ha : H a = none) (hw : ¬ fm.own a) (hf : ¬ fm.fr a) (hb : cx.base.get? a = none) (sb : Heap.ExtBut a s.heap h') (n : Nat) :
    SR cx fm H μ { s with heap := h', toks := n } :=
  ⟨⟨fun b o e => (S.hr b o e).keep (fun ob q => sb b ob (fun x => by subst x; rw [ha] at e; cases e) q),
    fun b o e => sb b o (fun q => by subst q; rw [hb] at e; cases e) (S.ext b o e), S.low⟩, S.fr.keep (fun b o q e => ⟨o, sb b o (fun x => hw (x ▸ q)) e, .refl o⟩), S.own, S.ff.heap fun e he L o h1 h2 => sb L o (fun x => hf ⟨e, he, x ▸ h1⟩) h2⟩

section
variable {cx : Cx} {fm : Fm} {H : HP} {μ : List V} {s : Shared} {M : Model} {A : Around} {E : Value → Shared → Prop}

theorem load_loc (W : fm.OK cx A) (S : SR cx fm H μ s) {i : Nat} {x : Str} (hi : fm.names[i]? = some (some x)) (hb : getL μ i ≠ .unb) {Q : Value → Shared → Prop} (h : ∀ v, abs v = getL μ i → Q v s) :
    wpAny M A (loadName fm.env x) Q E s := by
  obtain ⟨ov, w, q⟩ := S.fr.var i x hi
  obtain ⟨v, rfl, hv⟩ := q.resolve_left hb
  rcases w with ⟨k1, m, hn, hm⟩ | ⟨k1, c, hc, hcell⟩
  · exact wpAny_loadName_local W.kind k1 hn hm (h v hv)
  · exact wpAny_loadName_cell W.kind k1 hc hcell (h v hv)

theorem SR.frs (W : fm.OK cx A) (S : SR cx fm H μ s) : ∀ l, A.frames = some l → FrL cx.base H s.heap l := fun l e => by
  rw [W.frames] at e; cases e; exact S.ff
theorem ns_unique {h : Heap} {a : Addr} {m m' : Str → Option Value} (x : h.Ns a m) (y : h.Ns a m') : m = m' := by
  obtain ⟨o, es, ep, e, hd, _, hm⟩ := x
  obtain ⟨o', es', ep', e', hd', _, hm'⟩ := y
  rw [e] at e'; cases e'
  rw [hd] at hd'; cases hd'
  funext n; rw [← hm n, ← hm' n]

theorem store_loc (W : fm.OK cx A) (S : SR cx fm H μ s) {i : Nat} {x : Str} (hi : fm.names[i]? = some (some x)) {v : Value} {Q : Unit → Shared → Prop}
    (h : ∀ s', SR cx fm H (setL μ i (abs v)) s' → Kept fm.own s H s' H → Q () s') : wpAny M A (storeName fm.env x v) Q E s := by
  obtain ⟨ov, w, q⟩ := S.fr.var i x hi
  have hil : i < μ.length := by rw [S.fr.len]; exact (List.getElem?_eq_some_iff.mp hi).1
  -- the rest, for any own address that is changed
  have rest : ∀ (a : Addr) (h' : Heap) (tk : Nat), fm.own a → Heap.SameBut a s.heap h' → (∃ o, h'.get? a = some o) → ((∃ o es ep, h'.get? a = some o ∧ o.data = .dict es ep) ∨ ¬ fm.fr a) → (∃ m, h'.Ns fm.env.locals m) →
      (∀ j y, fm.names[j]? = some (some y) → ∃ ov, VarAt fm.env h' y ov ∧ (getL (setL μ i (abs v)) j = .unb ∨ ∃ v', ov = some v' ∧ abs v' = getL (setL μ i (abs v)) j)) →
      SR cx fm H (setL μ i (abs v)) { s with heap := h', toks := tk } ∧ Kept fm.own s H { s with heap := h', toks := tk } H := by
    intro a h' tk ha sb hla hfa hns hvar
    refine ⟨⟨⟨fun b o e => ?_, fun b o e => ?_, S.low⟩, ⟨by rw [setL_length]; exact S.fr.len, fun b q => ?_, hns, hvar⟩, S.own, fun e he => ?_⟩,
      fun b o e _ hw => ⟨o, (sb.2 b (fun x => hw (x ▸ ha))).trans e, .refl o⟩, fun _ _ _ e _ => e, rfl, rfl⟩
    · exact (S.hr b o e).of_eq (sb.2 b (fun x => S.own b o e (x ▸ ha)))
    · exact (sb.2 b (fun q => by subst q; rw [W.above _ ha] at e; cases e)).trans (S.ext b o e)
    · by_cases h : b = a
      · subst h; exact hla
      · obtain ⟨o, e⟩ := S.fr.live b q
        exact ⟨o, (sb.2 b h).trans e⟩
    · obtain ⟨kd, L, o, es, ep, h1, h2, h3, h4, h5⟩ := S.ff e he
      by_cases h : L = a
      · subst h
        rcases hfa with ⟨o', es', ep', e1, e2⟩ | hfa
        · exact ⟨kd, L, o', es', ep', h1, h2, h3, e1, e2⟩
        · exact absurd ⟨e, he, h1⟩ hfa
      · exact ⟨kd, L, o, es, ep, h1, h2, h3, (sb.2 L h).trans h4, h5⟩
  rcases w with ⟨k1, m, hn, hm⟩ | ⟨k1, c, hc, hcell⟩
  · refine wpAny_storeName_local k1 hn (fun h' hn' sb => ?_) (by rw [W.kind]; rfl)
    obtain ⟨a1, a2⟩ := rest fm.env.locals h' (s.toks + 1) (.inl rfl) sb (let ⟨o, _, _, e, _⟩ := hn'; ⟨o, e⟩) (.inl (let ⟨o, es, ep, e, hd, _⟩ := hn'; ⟨o, es, ep, e, hd⟩)) ⟨_, hn'⟩ (fun j y hj => by
      by_cases hij : i = j
      · subst hij
        rw [hi] at hj; cases hj
        exact ⟨some v, .inl ⟨k1, _, hn', by simp⟩, .inr ⟨v, rfl, (getL_setL_same μ i _ hil).symm⟩⟩
      · obtain ⟨ov', w', q'⟩ := S.fr.var j y hj
        refine ⟨ov', ?_, by rw [getL_setL_ne _ _ _ _ hij]; exact q'⟩
        have hxy : y ≠ x := fun e => hij (W.inj i j x hi (e ▸ hj))
        rcases w' with ⟨k2, m2, hn2, hm2⟩ | ⟨k2, c2, hc2, o, e2, hd2⟩
        · exact .inl ⟨k2, _, hn', by rw [if_neg hxy, ns_unique hn hn2]; exact hm2⟩
        · exact .inr ⟨k2, c2, hc2, o, (sb.2 c2 (W.cellsNe y c2 hc2)).trans e2, hd2⟩)
    exact h _ a1 a2
  · refine wpAny_storeName_cell W.kind k1 hc hcell (fun h' hc' sb => ?_)
    have hcl := W.cellsNe x c hc
    have hnf : ¬ fm.fr c := fun ⟨e, he, hf⟩ => by
      obtain ⟨_, L, o, es, ep, h1, _, _, h4, h5⟩ := S.ff e he
      rw [hf] at h1; cases h1
      obtain ⟨o', h6, h7⟩ := hcell
      rw [h4] at h6; cases h6
      rw [h5] at h7; cases h7
    have ns' : ∀ m, s.heap.Ns fm.env.locals m → h'.Ns fm.env.locals m := fun m ⟨o, es, ep, e, r⟩ => ⟨o, es, ep, (sb.2 _ (Ne.symm hcl)).trans e, r⟩
    obtain ⟨a1, a2⟩ := rest c h' s.toks (.inr ⟨x, hc⟩) sb (let ⟨o, e, _⟩ := hc'; ⟨o, e⟩) (.inr hnf) (by obtain ⟨m, hm⟩ := S.fr.ns; exact ⟨m, ns' m hm⟩) (fun j y hj => by
      by_cases hij : i = j
      · subst hij
        rw [hi] at hj; cases hj
        exact ⟨some v, .inr ⟨k1, c, hc, hc'⟩, .inr ⟨v, rfl, (getL_setL_same μ i _ hil).symm⟩⟩
      · obtain ⟨ov', w', q'⟩ := S.fr.var j y hj
        refine ⟨ov', ?_, by rw [getL_setL_ne _ _ _ _ hij]; exact q'⟩
        have hxy : y ≠ x := fun e => hij (W.inj i j x hi (e ▸ hj))
        rcases w' with ⟨k2, m2, hn2, hm2⟩ | ⟨k2, c2, hc2, o, e2, hd2⟩
        · exact .inl ⟨k2, m2, ns' m2 hn2, hm2⟩
        · exact .inr ⟨k2, c2, hc2, o, (sb.2 c2 (fun e => hxy (W.cellsInj y x c (e ▸ hc2) hc))).trans e2, hd2⟩)
    exact h _ a1 a2
end
end Mine
end

section
namespace Mine
open PySem PyProof.Rows

inductive BF where
  | len | list | int | abs | max | repr
  deriving DecidableEq
mutual
inductive ME where
  | cint (i : Int) | cbool (b : Bool) | cnone | cstr (x : Str)
  | loc (i : Nat)
  | bin (op : Operator) (l r : ME)
  | not (e : ME)
  | cmp (l : ME) (op : CmpOp) (r : ME)
  | bop (op : BoolOp) (es : MEs)
  | callf (f : Addr) (args : MEs)
  | callb (b : BF) (args : MEs)
  | isi (e : ME) (t : String)
  | app (o : ME) (v : ME)
  | sub (o i : ME)
  | slice (o lo hi : ME)
  | list (es : MEs)
  | tup (es : MEs)
  | comp (elt it cond : ME)
  | compR (elt a b cond : ME)
  | neg (e : ME)
  | cmp2 (l : ME) (o1 : CmpOp) (m : ME) (o2 : CmpOp) (r : ME)
  | gint (i : Int)
  | attr (C : Addr) (i : Nat) (x : Str)
  | callm (C : Addr) (x : Str) (f : Addr) (i : Nat) (args : MEs)
  | mk (C f : Addr) (args : MEs)
  | isx (e : ME) (D : Addr) (sup : Bool)
  | callq (f : Addr) (args : MEs)
inductive MEs where
  | nil
  | cons (e : ME) (es : MEs)
end
inductive MHs where
  | nil
  | cons (K : Addr) (i : Nat) (h : ME) (r : MHs)
inductive XK where
  | fn (f : Addr)
  | mt (C : Addr) (x : Str) (f : Addr) (j : Nat)
  | mk (C f : Addr)
mutual
inductive MS where
  | assign (i : Nat) (e : ME)
  | setSub (o i v : ME)
  | expr (e : ME)
  | ite (c : ME) (t e : MSs)
  | for_ (i : Nat) (it : ME) (body : MSs)
  | forR (i : Nat) (a b : ME) (body : MSs)
  | while_ (c : ME) (body : MSs)
  | ret (e : ME)
  | setAttr (C : Addr) (i : Nat) (x : Str) (e : ME)
  | raiseS (C : Addr) (m : ME)
  | xdo (d : Option Nat) (k : XK) (as : MEs)
  | try_ (b : MSs) (hs : MHs)
inductive MSs where
  | nil
  | cons (s : MS) (r : MSs)
end

structure ACall0 (A : Around) (n : Nat) : Prop where
  depth : A.depth + n < 850
  units : A.units + 16 * n < 9000
  frames : ∃ l, A.frames = some l
  guards : A.guards = some []
structure ACall (A : Around) (n : Nat) : Prop extends ACall0 A n where
  handled : A.handled = none
structure AOK0 (A : Around) (n : Nat) : Prop extends ACall0 A n where
  top : ∃ env outer, A.frames = some (env :: outer) ∧ env.scope.isGenerator = false ∧ env.scope.isCoroutine = false ∧ env.builtins = builtinsNs ∧ env.globals = mainGlobals
structure AOK (A : Around) (n : Nat) : Prop extends AOK0 A n where
  handled : A.handled = none
theorem AOK.toACall {A : Around} {n : Nat} (h : AOK A n) : ACall A n := ⟨h.toACall0, h.handled⟩

structure ExcIn (b : Heap) (s : Shared) (H H' : HP) (h : Heap) (e C T : Addr) : Prop where
  e0 : ∀ o, s.heap.get? e = some o → H e = none → False
  t0 : ∀ o, s.heap.get? T = some o → H T = none → False
  e1 : H' e = none
  t1 : H' T = none
  e2 : b.get? e = none
  t2 : b.get? T = none
  at_ : ∃ oe vs a0, h.get? e = some oe ∧ oe.cls = .ref C ∧ oe.data = .fields vs ∧ vs[0]? = some a0 ∧
    ((vs[1]? = some .none ∧ T = e) ∨ ∃ oT ts, vs[1]? = some (.ref T) ∧ T ≠ e ∧ h.get? T = some oT ∧ oT.data = .fields ts ∧ ts[3]? = some .none)

noncomputable def CallY (q : Bool) (cx : Cx) (n : Nat) (f : Addr) (args : List V) (H : HP) (Q : V → HP → Prop) : Prop :=
  ∀ (A : Around) (s : Shared) (vs : List Value), ACall0 A n → (q = false → A.handled = none) → HS cx H s → (∀ l, A.frames = some l → FrL cx.base H s.heap l) → vs.map Mine.abs = args →
    codeAny (model cx.prog cx.w) A (.call (.ref f) ⟨vs, []⟩) (fun r s' => (∃ v H', r = .ok (.ret v) ∧ HS cx H' s' ∧ KE s H s' H' ∧ Q (Mine.abs v) H') ∨
      ∃ e C T H', r = .error (.ref e) ∧ HS cx H' s' ∧ KE s H s' H' ∧ ExcIn cx.base s H H' s'.heap e C T ∧ T ≠ e ∧ Q (.exc C) H') s
noncomputable abbrev nx (Q : V → HP → Prop) : V → HP → Prop := fun v H => match v with
  | .exc _ => False
  | v => Q v H
theorem nx_abs {Q : V → HP → Prop} {v : Value} {H : HP} (h : nx Q (Mine.abs v) H) : Q (Mine.abs v) H := by cases v <;> exact h
noncomputable abbrev CallX : Cx → Nat → Addr → List V → HP → (V → HP → Prop) → Prop := CallY false
noncomputable abbrev CallP (cx : Cx) (n : Nat) (f : Addr) (args : List V) (H : HP) (Q : V → HP → Prop) : Prop := CallY false cx n f args H (nx Q)
noncomputable abbrev CallQ (cx : Cx) (n : Nat) (f : Addr) (args : List V) (H : HP) (Q : V → HP → Prop) : Prop := CallY true cx n f args H (nx Q)
noncomputable def onX (v : V) (k : V → Prop) (x : Addr → Prop) : Prop := match v with
  | .exc C => x C
  | v => k v

noncomputable def lk (cx : Cx) (H : HP) (a : Addr) : Option O :=
  match H a with
  | some o => some o
  | none => (cx.Z a).map O.list
noncomputable def lst (cx : Cx) (H : HP) (a : Addr) : Option (List V) :=
  match lk cx H a with
  | some (.list vs) => some vs
  | _ => none
noncomputable def sq (cx : Cx) (H : HP) (a : Addr) : Option (List V) :=
  match lk cx H a with
  | some (.list vs) => some vs
  | some (.tup vs) => some vs
  | _ => none

noncomputable def onL (v : V) (k : V → Prop) : Prop := match v with
  | .unb => False
  | v => k v
theorem onL_inv {v : V} {k : V → Prop} (h : onL v k) : v ≠ .unb ∧ k v := by
  cases v <;> first | exact ⟨nofun, h⟩ | exact False.elim h
theorem onL_of {v : V} {k : V → Prop} (n : v ≠ .unb) (h : k v) : onL v k := by
  cases v <;> first | exact h | exact (n rfl).elim
noncomputable def ifB (b : Bool) (P Q : Prop) : Prop := match b with
  | true => P
  | false => Q
theorem ifB_of {b : Bool} {P Q : Prop} (h1 : b = true → P) (h2 : b = false → Q) : ifB b P Q := by
  cases b
  · exact h2 rfl
  · exact h1 rfl
theorem ifB_mono {b : Bool} {P Q P' Q' : Prop} (h : ifB b P Q) (h1 : P → P') (h2 : Q → Q') : ifB b P' Q' := by
  cases b
  · exact h2 h
  · exact h1 h
noncomputable def onR (v : V) (k : Addr → Prop) : Prop := match v with
  | .ref a => k a
  | _ => False
noncomputable def onI (v : V) (k : Int → Prop) : Prop := match v with
  | .int i => k i
  | _ => False
noncomputable def onB (v : V) (Q : Bool → Prop) : Prop := match v with
  | .bool b => Q b
  | _ => False
noncomputable def onO {α : Type} (o : Option α) (k : α → Prop) : Prop := match o with
  | some x => k x
  | none => False
noncomputable def onHL (o : Option O) (k : List V → Prop) : Prop := match o with
  | some (.list vs) => k vs
  | _ => False
noncomputable def onSq (o : Option O) (k k' : List V → Prop) : Prop := match o with
  | some (.list vs) => k vs
  | some (.tup vs) => k' vs
  | _ => False
noncomputable def onIn (C : Addr) (o : Option O) (k : Addr → Prop) : Prop := match o with
  | some (.inst C' dx) => C' = C ∧ k dx
  | _ => False
noncomputable def onEx (o : Option O) (k : Addr → Prop) : Prop := match o with
  | some (.exo C) => k C
  | _ => False
noncomputable def onFl (o : Option O) (k : List (Str × V) → Prop) : Prop := match o with
  | some (.flds fs) => k fs
  | _ => False
noncomputable def on1 (l : List V) (k : V → Prop) : Prop := match l with
  | [v] => k v
  | _ => False
noncomputable def on2 (l : List V) (k : V → V → Prop) : Prop := match l with
  | [v, w] => k v w
  | _ => False
theorem onR_inv {v : V} {k : Addr → Prop} (h : onR v k) : ∃ a, v = .ref a ∧ k a := by cases v <;> first | exact ⟨_, rfl, h⟩ | exact False.elim h
theorem onI_inv {v : V} {k : Int → Prop} (h : onI v k) : ∃ a, v = .int a ∧ k a := by cases v <;> first | exact ⟨_, rfl, h⟩ | exact False.elim h
theorem onB_inv {v : V} {k : Bool → Prop} (h : onB v k) : ∃ a, v = .bool a ∧ k a := by cases v <;> first | exact ⟨_, rfl, h⟩ | exact False.elim h
theorem onO_inv {α : Type} {o : Option α} {k : α → Prop} (h : onO o k) : ∃ x, o = some x ∧ k x := by
  cases o with
  | none => exact h.elim
  | some x => exact ⟨x, rfl, h⟩
theorem onHL_inv {o : Option O} {k : List V → Prop} (h : onHL o k) : ∃ vs, o = some (.list vs) ∧ k vs := by
  cases o with
  | none => exact False.elim h
  | some x => cases x <;> first | exact ⟨_, rfl, h⟩ | exact False.elim h
theorem onSq_inv {o : Option O} {k k' : List V → Prop} (h : onSq o k k') : (∃ vs, o = some (.list vs) ∧ k vs) ∨ ∃ vs, o = some (.tup vs) ∧ k' vs := by
  cases o with
  | none => exact False.elim h
  | some x => cases x <;> first | exact .inl ⟨_, rfl, h⟩ | exact .inr ⟨_, rfl, h⟩ | exact False.elim h
theorem onIn_inv {C : Addr} {o : Option O} {k : Addr → Prop} (h : onIn C o k) : ∃ dx, o = some (.inst C dx) ∧ k dx := by
  cases o with
  | none => exact False.elim h
  | some x => cases x <;> first | exact ⟨_, by rw [h.1], h.2⟩ | exact False.elim h
theorem onEx_inv {o : Option O} {k : Addr → Prop} (h : onEx o k) : ∃ C, o = some (.exo C) ∧ k C := by
  cases o with
  | none => exact False.elim h
  | some x => cases x <;> first | exact ⟨_, rfl, h⟩ | exact False.elim h
theorem onFl_inv {o : Option O} {k : List (Str × V) → Prop} (h : onFl o k) : ∃ fs, o = some (.flds fs) ∧ k fs := by
  cases o with
  | none => exact False.elim h
  | some x => cases x <;> first | exact ⟨_, rfl, h⟩ | exact False.elim h
theorem on1_inv {l : List V} {k : V → Prop} (h : on1 l k) : ∃ v, l = [v] ∧ k v := match l, h with
  | [v], h => ⟨v, rfl, h⟩
theorem on2_inv {l : List V} {k : V → V → Prop} (h : on2 l k) : ∃ v w, l = [v, w] ∧ k v w := match l, h with
  | [v, w], h => ⟨v, w, rfl, h⟩
theorem onR_mono {v : V} {k k' : Addr → Prop} (h : onR v k) (q : ∀ a, k a → k' a) : onR v k' := by obtain ⟨a, rfl, h⟩ := onR_inv h; exact q a h
theorem onI_mono {v : V} {k k' : Int → Prop} (h : onI v k) (q : ∀ a, k a → k' a) : onI v k' := by obtain ⟨a, rfl, h⟩ := onI_inv h; exact q a h
theorem onB_mono {v : V} {k k' : Bool → Prop} (h : onB v k) (q : ∀ a, k a → k' a) : onB v k' := by obtain ⟨a, rfl, h⟩ := onB_inv h; exact q a h
theorem onO_mono {α : Type} {o : Option α} {k k' : α → Prop} (h : onO o k) (q : ∀ a, k a → k' a) : onO o k' := by obtain ⟨a, rfl, h⟩ := onO_inv h; exact q a h
theorem onHL_mono {o : Option O} {k k' : List V → Prop} (h : onHL o k) (q : ∀ a, k a → k' a) : onHL o k' := by obtain ⟨a, rfl, h⟩ := onHL_inv h; exact q a h
theorem onSq_mono {o : Option O} {k k' q q' : List V → Prop} (h : onSq o k k') (a : ∀ vs, k vs → q vs) (b : ∀ vs, k' vs → q' vs) : onSq o q q' := by
  rcases onSq_inv h with ⟨vs, rfl, h⟩ | ⟨vs, rfl, h⟩
  · exact a vs h
  · exact b vs h
theorem onIn_mono {C : Addr} {o : Option O} {k k' : Addr → Prop} (h : onIn C o k) (q : ∀ a, k a → k' a) : onIn C o k' := by obtain ⟨a, rfl, h1⟩ := onIn_inv h; exact ⟨rfl, q a h1⟩
theorem onEx_mono {o : Option O} {k k' : Addr → Prop} (h : onEx o k) (q : ∀ a, k a → k' a) : onEx o k' := by obtain ⟨a, rfl, h⟩ := onEx_inv h; exact q a h
theorem onFl_mono {o : Option O} {k k' : List (Str × V) → Prop} (h : onFl o k) (q : ∀ a, k a → k' a) : onFl o k' := by obtain ⟨a, rfl, h⟩ := onFl_inv h; exact q a h
theorem on1_mono {l : List V} {k k' : V → Prop} (h : on1 l k) (q : ∀ a, k a → k' a) : on1 l k' := by obtain ⟨a, rfl, h⟩ := on1_inv h; exact q a h
theorem on2_mono {l : List V} {k k' : V → V → Prop} (h : on2 l k) (q : ∀ a b, k a b → k' a b) : on2 l k' := by obtain ⟨a, b, rfl, h⟩ := on2_inv h; exact q a b h

noncomputable def asInts : List V → Option (List Int)
  | [] => some []
  | .int i :: r => (asInts r).map (i :: ·)
  | _ => none
noncomputable def intsV (l : List Int) : List V := l.map V.int

theorem asInts_ints : ∀ l : List Int, asInts (intsV l) = some l
  | [] => rfl
  | i :: l => by simp [intsV, asInts]; exact asInts_ints l

noncomputable def cutAt (n : Nat) (i : Int) : Option Nat := if 0 ≤ i then some (min i.toNat n) else none
noncomputable def cutLo (n : Nat) (v : V) : Option Nat := match v with
  | .none => some 0
  | .int i => cutAt n i
  | _ => none
noncomputable def cutHi (n : Nat) (v : V) : Option Nat := match v with
  | .none => some n
  | .int i => cutAt n i
  | _ => none
noncomputable def cut (vs : List V) (lo hi : Nat) : List V := (vs.take hi).drop lo

noncomputable def new (cx : Cx) (H : HP) (o : O) (Q : V → HP → Prop) : Prop := ∀ r, Fresh cx H r → Q (.ref r) (upd H r o)

noncomputable def addP (cx : Cx) (a b : V) (H : HP) (Q : V → HP → Prop) : Prop := match a with
  | .int x => onI b fun y => Q (.int (x + y)) H
  | .ref x => onR b fun y => onO (lst cx H x) fun xs => onO (lst cx H y) fun ys => xs.length + ys.length ≤ 16777216 ∧ new cx H (.list (xs ++ ys)) Q
  | _ => False
noncomputable def mulP (cx : Cx) (a b : V) (H : HP) (Q : V → HP → Prop) : Prop := match a with
  | .int x => onI b fun y => IntMulOk x y ∧ Q (.int (x * y)) H
  | .str x => onI b fun n => (n = 0 ∨ n = 1) ∧ Q (.str (if n = 1 then x else Str.empty)) H
  | .ref x => onI b fun n => onO (lst cx H x) fun xs => -16777216 < n ∧ n < 16777216 ∧ xs.length * n.toNat ≤ 16777216 ∧ new cx H (.list (List.replicate n.toNat xs).flatten) Q
  | _ => False
noncomputable def binP (cx : Cx) (op : Operator) (a b : V) (H : HP) (Q : V → HP → Prop) : Prop := match op with
  | .Add => addP cx a b H Q
  | .Sub => onI a fun x => onI b fun y => Q (.int (x - y)) H
  | .Mult => mulP cx a b H Q
  | .FloorDiv => onI a fun x => onI b fun y => y ≠ 0 ∧ Q (.int (x.fdiv y)) H
  | .Mod => onI a fun x => onI b fun y => y ≠ 0 ∧ Q (.int (x.fmod y)) H
  | .Pow => onI a fun x => onI b fun y => 0 ≤ y ∧ (Builtin.Int.intBits x : Int) * y ≤ 2 ^ 27 ∧ Q (.int (x ^ y.toNat)) H
  | _ => False

noncomputable def cmpII (op : CmpOp) (a b : Int) : Option Bool := match op with
  | .Lt => some (decide (a < b))
  | .LtE => some (decide (a ≤ b))
  | .Gt => some (decide (b < a))
  | .Eq => some (a == b)
  | .NotEq => some (a != b)
  | _ => none
noncomputable def rdS (x : Str) : Option PyData := if PyData.strOk x = true then some (.str x) else none
noncomputable def rdA (v : V) : Option PyData := match v with
  | .int i => some (.int i)
  | .str x => rdS x
  | .none => some .none
  | .bool b => some (.bool b)
  | _ => none
noncomputable def rdV (cx : Cx) (H : HP) : Nat → V → Option PyData
  | 0, v => rdA v
  | n + 1, v => match v with
    | .ref a => match lk cx H a with
      | some (.list vs) => (vs.mapM (rdV cx H n)).map .list
      | some (.tup vs) => (vs.mapM (rdV cx H n)).map .tuple
      | _ => none
    | v => rdA v
noncomputable def eqNe (op : CmpOp) (b : Bool) : Option Bool := match op with
  | .Eq => some b
  | .NotEq => some (!b)
  | _ => none
noncomputable def isP (a b : V) : Option Bool := match b with
  | .none => match a with
    | .none => some true
    | .bool _ => some false
    | .int _ => some false
    | .ref _ => some false
    | .str _ => some false
    | _ => none
  | .bool b => match a with
    | .none => some false
    | .bool a => some (a == b)
    | .int _ => some false
    | .ref _ => some false
    | .str _ => some false
    | _ => none
  | _ => none
noncomputable def inP (cx : Cx) (a b : V) (H : HP) : Option Bool := (rdV cx H 1 a).bind fun d => (rdV cx H 1 b).bind fun e => match e with
  | .list xs => some (xs.any fun y => PyData.eqv y d)
  | .tuple xs => some (xs.any fun y => PyData.eqv y d)
  | _ => none
noncomputable def cII (g : Int → Int → Bool) (a b : V) : Option Bool := match a with
  | .int x => match b with
    | .int y => some (g x y)
    | _ => none
  | _ => none
theorem cII_inv {g : Int → Int → Bool} {a b : V} {c : Bool} (h : cII g a b = some c) : ∃ x y, a = .int x ∧ b = .int y ∧ g x y = c := by
  cases a <;> first | cases h | skip
  cases b <;> first | exact ⟨_, _, rfl, rfl, Option.some.inj h⟩ | cases h
noncomputable def eqG (cx : Cx) (a b : V) (H : HP) : Option Bool := (rdV cx H 3 a).bind fun d => (rdV cx H 3 b).map fun e => PyData.eqv d e
noncomputable def eqP (cx : Cx) (a b : V) (H : HP) : Option Bool := match a with
  | .str x => match b with
    | .str y => some (x == y)
    | b => eqG cx (.str x) b H
  | a => eqG cx a b H
theorem eqP_inv {cx : Cx} {a b : V} {H : HP} {c : Bool} (h : eqP cx a b H = some c) : (∃ x y, a = .str x ∧ b = .str y ∧ c = (x == y)) ∨ eqG cx a b H = some c := by
  cases a <;> first | exact .inr h | skip
  cases b <;> first | exact .inr h | skip
  cases h
  exact .inl ⟨_, _, rfl, rfl, rfl⟩
noncomputable def cmpP (cx : Cx) (op : CmpOp) (a b : V) (H : HP) : Option Bool := match op with
  | .Lt => cII (fun x y => decide (x < y)) a b
  | .LtE => cII (fun x y => decide (x ≤ y)) a b
  | .Gt => cII (fun x y => decide (y < x)) a b
  | .Eq => eqP cx a b H
  | .NotEq => (eqP cx a b H).map fun c => !c
  | .Is => isP a b
  | .IsNot => (isP a b).map fun c => !c
  | .In => inP cx a b H
  | .NotIn => (inP cx a b H).map fun c => !c
  | _ => none

noncomputable def isiP (cx : Cx) (H : HP) (v : V) (t : String) : Option Bool := match v with
  | .int _ => if t = "int" then some true else if t = "bool" then some false else none
  | .bool _ => if t = "int" then some true else if t = "bool" then some true else none
  | .str _ => if t = "int" then some false else if t = "tuple" then some false else none
  | .none => if t = "int" then some false else if t = "tuple" then some false else none
  | .ref a => match H a with
    | some (.list _) => if t = "list" then some true else if t = "int" then some false else if t = "tuple" then some false else none
    | some (.tup _) => if t = "tuple" then some true else if t = "int" then some false else none
    | some (.exo C) => if t = "ValueError" ∧ C ∈ cx.exs then some true else none
    | _ => none
  | _ => none

noncomputable def callbP (cx : Cx) (b : BF) (args : List V) (H : HP) (Q : V → HP → Prop) : Prop := match b with
  | .len => on1 args fun v => onR v fun a => onO (sq cx H a) fun vs => vs.length ≤ 16777216 ∧ Q (.int vs.length) H
  | .list => on1 args fun v => onR v fun a => onO (sq cx H a) fun vs => vs.length ≤ 16777216 ∧ new cx H (.list vs) Q
  | .int => on1 args fun v => onB v fun b => Q (.int (if b then 1 else 0)) H
  | .abs => on1 args fun v => onI v fun i => Q (.int (if i < 0 then -i else i)) H
  | .max => on2 args fun v w => onI v fun a => onI w fun b => Q (.int (if a < b then b else a)) H
  | .repr => on1 args fun v => onR v fun a => onO (rdV cx H 4 (.ref a)) fun d => d.shown.length ≤ 16777216 ∧ d.showable = true ∧ Q (.str d.shown) H

noncomputable def appP (o v : V) (H : HP) (Q : V → HP → Prop) : Prop := onR o fun a => onHL (H a) fun vs => vs.length ≤ 16777216 ∧ Q .none (upd H a (.list (vs ++ [v])))

noncomputable def listAt (o : V) (H : HP) : Prop := onR o fun a => onHL (H a) fun _ => True

noncomputable def subP (cx : Cx) (o i : V) (H : HP) (Q : V → HP → Prop) : Prop :=
  onR o fun a => onI i fun i => onO (sq cx H a) fun vs => 0 ≤ i ∧ vs.length ≤ 16777216 ∧ onO vs[i.toNat]? fun v => Q v H

noncomputable def sliceP (cx : Cx) (o lo hi : V) (H : HP) (Q : V → HP → Prop) : Prop :=
  onR o fun a => onSq (lk cx H a) (fun vs => onO (cutLo vs.length lo) fun l => onO (cutHi vs.length hi) fun h => vs.length ≤ 16777216 ∧ new cx H (.list (cut vs l h)) Q)
    fun vs => hi = .none ∧ onI lo fun i => 1 ≤ i ∧ i.toNat ≤ vs.length ∧ vs.length ≤ 16777216 ∧ new cx H (.tup (vs.drop i.toNat)) Q
noncomputable def attrP (C : Addr) (o : V) (x : Str) (H : HP) (Q : V → HP → Prop) : Prop := onR o fun a => onIn C (H a) fun dx => onFl (H dx) fun fs => onO (fs.lookup x) fun v => v ≠ .other ∧ Q v H
noncomputable def instP (C : Addr) (o : V) (x : Str) (H : HP) : Prop := onR o fun a => onIn C (H a) fun dx => onFl (H dx) fun fs => fs.lookup x = none
noncomputable def putF (x : Str) (v : V) : List (Str × V) → List (Str × V)
  | [] => [(x, v)]
  | p :: r => if p.1 == x then (p.1, v) :: r else p :: putF x v r
noncomputable def setAttrP (C : Addr) (o : V) (x : Str) (v : V) (H : HP) (Q : HP → Prop) : Prop := onR o fun a => onIn C (H a) fun dx => onFl (H dx) fun fs => fs.length < 100 ∧ Q (upd H dx (.flds (putF x v fs)))
noncomputable def mkX (cx : Cx) (n : Nat) (C f : Addr) (vs : List V) (H : HP) (Q : V → HP → Prop) : Prop :=
  0 < n ∧ ∀ dx, Fresh cx H dx → ∀ x, Fresh cx (upd H dx (.flds [])) x → CallX cx (n - 1) f (.ref x :: vs) (upd (upd H dx (.flds [])) x (.inst C dx)) fun v H => onX v (fun v => v = .none ∧ Q (.ref x) H) fun D => Q (.exc D) H
noncomputable def setO (μ : List V) (d : Option Nat) (v : V) : List V := match d with
  | some i => setL μ i v
  | none => μ
noncomputable def xpre (k : XK) (μ : List V) (H : HP) : Prop := match k with
  | .mt C x _ j => instP C (getL μ j) x H
  | _ => True
noncomputable def xdoP (cx : Cx) (n : Nat) (k : XK) (μ vs : List V) (H : HP) (Q : V → HP → Prop) : Prop := match k with
  | .fn f => CallX cx n f vs H Q
  | .mt _ _ f j => CallX cx n f (getL μ j :: vs) H Q
  | .mk C f => mkX cx n C f vs H Q

noncomputable def IterP (cx : Cx) (o : V) (H : HP) (Q : List V → (HP → Prop) → HP → Prop) : Prop :=
  onR o fun a => onHL (lk cx H a) fun vs => vs.length ≤ 16777216 ∧ Q vs (fun H' => lk cx H' a = some (.list vs)) H

noncomputable def rangeL (a b : Int) : List Int := (List.range (b - a).toNat).map fun (k : Nat) => a + (k : Int)

noncomputable def RngP (x y : V) (Q : List V → Prop) : Prop :=
  onI x fun x => onI y fun y => (-1152921504606846976 < x ∧ x < 1152921504606846976) ∧ (-1152921504606846976 < y ∧ y < 1152921504606846976) ∧ Q (intsV (rangeL x y))

noncomputable def setSubP (o i v : V) (H : HP) (Q : HP → Prop) : Prop :=
  onR o fun a => onI i fun i => onHL (H a) fun vs => 0 ≤ i ∧ vs.length ≤ 16777216 ∧ i.toNat < vs.length ∧ Q (upd H a (.list (vs.set i.toNat v)))

noncomputable def CompP (cx : Cx) (items : List V) (st : HP → Prop) (H₀ : HP) (turn : V → HP → (Option V → HP → Prop) → Prop) (Q : V → HP → Prop) : Prop :=
  items.length ≤ 16777216 ∧ ∃ I : List V → List V → HP → Prop, I [] [] H₀ ∧ (∀ done acc H₁, I done acc H₁ → st H₁) ∧
    (∀ done x rest acc H₁, items = done ++ x :: rest → I done acc H₁ → turn x H₁ fun ov H₂ => ∃ H₃, LE H₃ H₂ ∧ I (done ++ [x]) (acc ++ ov.toList) H₃) ∧
    (∀ acc H₁, I items acc H₁ → new cx H₁ (.list acc) Q)

mutual
noncomputable def mwpE (cx : Cx) (n : Nat) : ME → List V → HP → (V → HP → Prop) → Prop
  | .cint i, _, H, Q => Q (.int i) H
  | .cbool b, _, H, Q => Q (.bool b) H
  | .cnone, _, H, Q => Q .none H
  | .cstr x, _, H, Q => Q (.str x) H
  | .loc i, μ, H, Q => onL (getL μ i) fun v => Q v H
  | .bin op l r, μ, H, Q => mwpE cx n l μ H fun a H => mwpE cx n r μ H fun b H => binP cx op a b H Q
  | .not e, μ, H, Q => mwpE cx n e μ H fun v H => onB v fun b => Q (.bool (!b)) H
  | .cmp l op r, μ, H, Q => mwpE cx n l μ H fun a H => mwpE cx n r μ H fun b H => onO (cmpP cx op a b H) fun c => Q (.bool c) H
  | .bop op es, μ, H, Q => mwpB cx n op es μ H Q
  | .callf f args, μ, H, Q => mwpEs cx n args μ H fun vs H => CallP cx n f vs H Q
  | .callb b args, μ, H, Q => mwpEs cx n args μ H fun vs H => callbP cx b vs H Q
  | .isi e t, μ, H, Q => mwpE cx n e μ H fun v H => onO (isiP cx H v t) fun b => Q (.bool b) H
  | .app o e, μ, H, Q => mwpE cx n o μ H fun ov H => listAt ov H ∧ mwpE cx n e μ H fun v H => appP ov v H Q
  | .sub o i, μ, H, Q => mwpE cx n o μ H fun ov H => mwpE cx n i μ H fun iv H => subP cx ov iv H Q
  | .slice o lo hi, μ, H, Q => mwpE cx n o μ H fun ov H => mwpE cx n lo μ H fun l H => mwpE cx n hi μ H fun h H => sliceP cx ov l h H Q
  | .list es, μ, H, Q => mwpEs cx n es μ H fun vs H => vs.length ≤ 16777216 ∧ new cx H (.list vs) Q
  | .tup es, μ, H, Q => mwpEs cx n es μ H fun vs H => vs.length ≤ 16777216 ∧ new cx H (.tup vs) Q
  | .comp elt it cond, μ, H, Q => mwpE cx n it μ H fun v H => IterP cx v H fun items st H₀ => CompP cx items st H₀ (fun x H₁ K =>
      mwpE cx n cond (μ ++ [x]) H₁ fun c H₂ => onB c fun b => ifB b (mwpE cx n elt (μ ++ [x]) H₂ fun v H₃ => K (some v) H₃) (K none H₂)) Q
  | .compR elt a b cond, μ, H, Q => mwpE cx n a μ H fun x H => mwpE cx n b μ H fun y H => RngP x y fun items => CompP cx items (fun _ => True) H (fun x H₁ K =>
      mwpE cx n cond (μ ++ [x]) H₁ fun c H₂ => onB c fun b => ifB b (mwpE cx n elt (μ ++ [x]) H₂ fun v H₃ => K (some v) H₃) (K none H₂)) Q
  | .neg e, μ, H, Q => mwpE cx n e μ H fun v H => onI v fun i => Q (.int (-i)) H
  | .cmp2 l o1 m o2 r, μ, H, Q => mwpE cx n l μ H fun a H => mwpE cx n m μ H fun b H => onO (cmpP cx o1 a b H) fun c =>
      ifB c (mwpE cx n r μ H fun d H => onO (cmpP cx o2 b d H) fun e => Q (.bool e) H) (Q (.bool false) H)
  | .gint i, _, H, Q => Q (.int i) H
  | .attr C i x, μ, H, Q => attrP C (getL μ i) x H Q
  | .callm C x f i args, μ, H, Q => instP C (getL μ i) x H ∧ mwpEs cx n args μ H fun vs H => CallP cx n f (getL μ i :: vs) H Q
  | .mk C f args, μ, H, Q => mwpEs cx n args μ H fun vs H => mkX cx n C f vs H (nx Q)
  | .isx e D sup, μ, H, Q => mwpE cx n e μ H fun v H => onR v fun a => onEx (H a) fun C => C ∈ cx.exs ∧ Q (.bool (sup || C == D)) H
  | .callq f args, μ, H, Q => mwpEs cx n args μ H fun vs H => CallQ cx n f vs H Q
noncomputable def mwpEs (cx : Cx) (n : Nat) : MEs → List V → HP → (List V → HP → Prop) → Prop
  | .nil, _, H, Q => Q [] H
  | .cons e es, μ, H, Q => mwpE cx n e μ H fun v H => mwpEs cx n es μ H fun vs H => Q (v :: vs) H
noncomputable def mwpB (cx : Cx) (n : Nat) (op : BoolOp) : MEs → List V → HP → (V → HP → Prop) → Prop
  | .nil, _, _, _ => False
  | .cons e es, μ, H, Q => match es with
    | .nil => mwpE cx n e μ H Q
    | .cons _ _ => mwpE cx n e μ H fun v H => onB v fun b => match op with
      | .And => ifB b (mwpB cx n op es μ H Q) (Q (.bool false) H)
      | .Or => ifB b (Q (.bool true) H) (mwpB cx n op es μ H Q)
end

noncomputable def ForP (items : List V) (st : HP → Prop) (μ₀ : List V) (H₀ : HP) (turn : V → List V → HP → (List V → HP → Prop) → Prop) (N : List V → HP → Prop) : Prop :=
  ∃ I : List V → List V → HP → Prop, I [] μ₀ H₀ ∧ (∀ done μ H, I done μ H → st H) ∧
    (∀ done x rest μ H, items = done ++ x :: rest → I done μ H → turn x μ H fun μ' H' => ∃ H₃, LE H₃ H' ∧ I (done ++ [x]) μ' H₃) ∧
    (∀ μ H, I items μ H → N μ H)
noncomputable def hanP (cx : Cx) (n len : Nat) (H : HP) (R : V → HP → Prop) (C : Addr) : MHs → Prop
  | .nil => False
  | .cons K i h r => (C = K → ∀ e, Fresh cx H e → ∀ μ : List V, μ.length = len → mwpE cx n h (setL μ i (.ref e)) (upd H e (.exo C)) R) ∧ (C ≠ K → hanP cx n len H R C r)

mutual
noncomputable def mwpS (cx : Cx) (n : Nat) : MS → List V → HP → (List V → HP → Prop) → (V → HP → Prop) → Prop
  | .assign i e, μ, H, N, _ => mwpE cx n e μ H fun v H => N (setL μ i v) H
  | .setSub o i v, μ, H, N, _ => mwpE cx n v μ H fun vv H => mwpE cx n o μ H fun ov H => mwpE cx n i μ H fun iv H => setSubP ov iv vv H fun H => N μ H
  | .expr e, μ, H, N, _ => mwpE cx n e μ H fun _ H => N μ H
  | .ite c t e, μ, H, N, R => mwpE cx n c μ H fun v H => onB v fun b => ifB b (mwpSs cx n t μ H N R) (mwpSs cx n e μ H N R)
  | .for_ i it body, μ, H, N, R => mwpE cx n it μ H fun v H => IterP cx v H fun items st H₀ => ForP items st μ H₀ (fun x μ H K => mwpSs cx n body (setL μ i x) H K R) N
  | .forR i a b body, μ, H, N, R => mwpE cx n a μ H fun x H => mwpE cx n b μ H fun y H => RngP x y fun items => ForP items (fun _ => True) μ H (fun x μ H K => mwpSs cx n body (setL μ i x) H K R) N
  | .while_ c body, μ, H, N, R => ∃ I : Nat → List V → HP → Prop, (∃ k, I k μ H) ∧ ∀ k μ H, I k μ H → mwpE cx n c μ H fun v H => onB v fun b =>
      ifB b (mwpSs cx n body μ H (fun μ' H' => ∃ H₃, LE H₃ H' ∧ ∃ m, m < k ∧ I m μ' H₃) R) (N μ H)
  | .ret e, μ, H, _, R => mwpE cx n e μ H R
  | .setAttr C i x e, μ, H, N, _ => mwpE cx n e μ H fun v H => setAttrP C (getL μ i) x v H fun H => N μ H
  | .raiseS C m, μ, H, _, R => mwpE cx n m μ H fun _ H => R (.exc C) H
  | .xdo d k as, μ, H, N, R => xpre k μ H ∧ mwpEs cx n as μ H fun vs H => xdoP cx n k μ vs H fun v H => onX v (fun v => N (setO μ d v) H) fun D => R (.exc D) H
  | .try_ b hs, μ, H, N, R => mwpSs cx n b μ H N fun v H => onX v (fun v => R v H) fun C => hanP cx n μ.length H R C hs
noncomputable def mwpSs (cx : Cx) (n : Nat) : MSs → List V → HP → (List V → HP → Prop) → (V → HP → Prop) → Prop
  | .nil, μ, H, N, _ => N μ H
  | .cons s r, μ, H, N, R => mwpS cx n s μ H (fun μ H => mwpSs cx n r μ H N R) R
end

section
variable {cx : Cx} {n : Nat} {μ : List V} {H : HP} {Q : V → HP → Prop} {N : List V → HP → Prop} {R : V → HP → Prop} {QL : List V → HP → Prop}
theorem e_cint {i : Int} : mwpE cx n (.cint i) μ H Q = (Q (.int i) H) := rfl
theorem e_cbool {b : Bool} : mwpE cx n (.cbool b) μ H Q = (Q (.bool b) H) := rfl
theorem e_cnone  : mwpE cx n .cnone μ H Q = (Q .none H) := rfl
theorem e_cstr {x : Str} : mwpE cx n (.cstr x) μ H Q = (Q (.str x) H) := rfl
theorem e_loc {i : Nat} : mwpE cx n (.loc i) μ H Q = (onL (getL μ i) fun v => Q v H) := rfl
theorem e_bin {op : Operator} {l r : ME} : mwpE cx n (.bin op l r) μ H Q = (mwpE cx n l μ H fun a H => mwpE cx n r μ H fun b H => binP cx op a b H Q) := rfl
theorem e_not {e : ME} : mwpE cx n (.not e) μ H Q = (mwpE cx n e μ H fun v H => onB v fun b => Q (.bool (!b)) H) := rfl
theorem e_cmp {l r : ME} {op : CmpOp} : mwpE cx n (.cmp l op r) μ H Q = (mwpE cx n l μ H fun a H => mwpE cx n r μ H fun b H => onO (cmpP cx op a b H) fun c => Q (.bool c) H) := rfl
theorem e_bop {op : BoolOp} {es : MEs} : mwpE cx n (.bop op es) μ H Q = (mwpB cx n op es μ H Q) := rfl
theorem e_callf {f : Addr} {args : MEs} : mwpE cx n (.callf f args) μ H Q = (mwpEs cx n args μ H fun vs H => CallP cx n f vs H Q) := rfl
theorem e_callb {b : BF} {args : MEs} : mwpE cx n (.callb b args) μ H Q = (mwpEs cx n args μ H fun vs H => callbP cx b vs H Q) := rfl
theorem e_isi {e : ME} {t : String} : mwpE cx n (.isi e t) μ H Q = (mwpE cx n e μ H fun v H => onO (isiP cx H v t) fun b => Q (.bool b) H) := rfl
theorem e_app {o e : ME} : mwpE cx n (.app o e) μ H Q = (mwpE cx n o μ H fun ov H => listAt ov H ∧ mwpE cx n e μ H fun v H => appP ov v H Q) := rfl
theorem e_sub {o i : ME} : mwpE cx n (.sub o i) μ H Q = (mwpE cx n o μ H fun ov H => mwpE cx n i μ H fun iv H => subP cx ov iv H Q) := rfl
theorem e_slice {o lo hi : ME} : mwpE cx n (.slice o lo hi) μ H Q = (mwpE cx n o μ H fun ov H => mwpE cx n lo μ H fun l H => mwpE cx n hi μ H fun h H => sliceP cx ov l h H Q) := rfl
theorem e_list {es : MEs} : mwpE cx n (.list es) μ H Q = (mwpEs cx n es μ H fun vs H => vs.length ≤ 16777216 ∧ new cx H (.list vs) Q) := rfl
theorem e_tup {es : MEs} : mwpE cx n (.tup es) μ H Q = (mwpEs cx n es μ H fun vs H => vs.length ≤ 16777216 ∧ new cx H (.tup vs) Q) := rfl
theorem e_comp {elt it cond : ME} : mwpE cx n (.comp elt it cond) μ H Q = (mwpE cx n it μ H fun v H => IterP cx v H fun items st H₀ => CompP cx items st H₀ (fun x H₁ K =>
      mwpE cx n cond (μ ++ [x]) H₁ fun c H₂ => onB c fun b => ifB b (mwpE cx n elt (μ ++ [x]) H₂ fun v H₃ => K (some v) H₃) (K none H₂)) Q) := rfl
theorem e_compR {elt a b cond : ME} : mwpE cx n (.compR elt a b cond) μ H Q = (mwpE cx n a μ H fun x H => mwpE cx n b μ H fun y H => RngP x y fun items => CompP cx items (fun _ => True) H (fun x H₁ K =>
      mwpE cx n cond (μ ++ [x]) H₁ fun c H₂ => onB c fun b => ifB b (mwpE cx n elt (μ ++ [x]) H₂ fun v H₃ => K (some v) H₃) (K none H₂)) Q) := rfl
theorem e_neg {e : ME} : mwpE cx n (.neg e) μ H Q = (mwpE cx n e μ H fun v H => onI v fun i => Q (.int (-i)) H) := rfl
theorem e_cmp2 {l m r : ME} {o1 o2 : CmpOp} : mwpE cx n (.cmp2 l o1 m o2 r) μ H Q = (mwpE cx n l μ H fun a H => mwpE cx n m μ H fun b H => onO (cmpP cx o1 a b H) fun c =>
      ifB c (mwpE cx n r μ H fun d H => onO (cmpP cx o2 b d H) fun e => Q (.bool e) H) (Q (.bool false) H)) := rfl
theorem e_gint {i : Int} : mwpE cx n (.gint i) μ H Q = (Q (.int i) H) := rfl
theorem e_attr {C : Addr} {i : Nat} {x : Str} : mwpE cx n (.attr C i x) μ H Q = (attrP C (getL μ i) x H Q) := rfl
theorem e_callm {C f : Addr} {i : Nat} {x : Str} {args : MEs} : mwpE cx n (.callm C x f i args) μ H Q = (instP C (getL μ i) x H ∧ mwpEs cx n args μ H fun vs H => CallP cx n f (getL μ i :: vs) H Q) := rfl
theorem e_mk {C f : Addr} {args : MEs} : mwpE cx n (.mk C f args) μ H Q = (mwpEs cx n args μ H fun vs H => mkX cx n C f vs H (nx Q)) := rfl
theorem e_isx {e : ME} {D : Addr} {sup : Bool} : mwpE cx n (.isx e D sup) μ H Q = (mwpE cx n e μ H fun v H => onR v fun a => onEx (H a) fun C => C ∈ cx.exs ∧ Q (.bool (sup || C == D)) H) := rfl
theorem e_callq {f : Addr} {args : MEs} : mwpE cx n (.callq f args) μ H Q = (mwpEs cx n args μ H fun vs H => CallQ cx n f vs H Q) := rfl
theorem s_assign {i : Nat} {e : ME} : mwpS cx n (.assign i e) μ H N R = (mwpE cx n e μ H fun v H => N (setL μ i v) H) := rfl
theorem s_setSub {o i v : ME} : mwpS cx n (.setSub o i v) μ H N R = (mwpE cx n v μ H fun vv H => mwpE cx n o μ H fun ov H => mwpE cx n i μ H fun iv H => setSubP ov iv vv H fun H => N μ H) := rfl
theorem s_expr {e : ME} : mwpS cx n (.expr e) μ H N R = (mwpE cx n e μ H fun _ H => N μ H) := rfl
theorem s_ite {c : ME} {t e : MSs} : mwpS cx n (.ite c t e) μ H N R = (mwpE cx n c μ H fun v H => onB v fun b => ifB b (mwpSs cx n t μ H N R) (mwpSs cx n e μ H N R)) := rfl
theorem s_for {i : Nat} {it : ME} {body : MSs} : mwpS cx n (.for_ i it body) μ H N R = (mwpE cx n it μ H fun v H => IterP cx v H fun items st H₀ => ForP items st μ H₀ (fun x μ H K => mwpSs cx n body (setL μ i x) H K R) N) := rfl
theorem s_forR {i : Nat} {a b : ME} {body : MSs} : mwpS cx n (.forR i a b body) μ H N R = (mwpE cx n a μ H fun x H => mwpE cx n b μ H fun y H => RngP x y fun items => ForP items (fun _ => True) μ H (fun x μ H K => mwpSs cx n body (setL μ i x) H K R) N) := rfl
theorem s_while {c : ME} {body : MSs} : mwpS cx n (.while_ c body) μ H N R = (∃ I : Nat → List V → HP → Prop, (∃ k, I k μ H) ∧ ∀ k μ H, I k μ H → mwpE cx n c μ H fun v H => onB v fun b =>
      ifB b (mwpSs cx n body μ H (fun μ' H' => ∃ H₃, LE H₃ H' ∧ ∃ m, m < k ∧ I m μ' H₃) R) (N μ H)) := rfl
theorem s_ret {e : ME} : mwpS cx n (.ret e) μ H N R = (mwpE cx n e μ H R) := rfl
theorem s_setAttr {C : Addr} {i : Nat} {x : Str} {e : ME} : mwpS cx n (.setAttr C i x e) μ H N R = (mwpE cx n e μ H fun v H => setAttrP C (getL μ i) x v H fun H => N μ H) := rfl
theorem s_raiseS {C : Addr} {m : ME} : mwpS cx n (.raiseS C m) μ H N R = (mwpE cx n m μ H fun _ H => R (.exc C) H) := rfl
theorem s_xdo {d : Option Nat} {k : XK} {as : MEs} : mwpS cx n (.xdo d k as) μ H N R = (xpre k μ H ∧ mwpEs cx n as μ H fun vs H => xdoP cx n k μ vs H fun v H => onX v (fun v => N (setO μ d v) H) fun D => R (.exc D) H) := rfl
theorem s_try {b : MSs} {hs : MHs} : mwpS cx n (.try_ b hs) μ H N R = (mwpSs cx n b μ H N fun v H => onX v (fun v => R v H) fun C => hanP cx n μ.length H R C hs) := rfl
theorem es_nil : mwpEs cx n .nil μ H QL = QL [] H := rfl
theorem es_cons {e : ME} {es : MEs} : mwpEs cx n (.cons e es) μ H QL = mwpE cx n e μ H fun v H => mwpEs cx n es μ H fun vs H => QL (v :: vs) H := rfl
theorem b_one {op : BoolOp} {e : ME} : mwpB cx n op (.cons e .nil) μ H Q = mwpE cx n e μ H Q := rfl
theorem b_and {e e' : ME} {es : MEs} : mwpB cx n .And (.cons e (.cons e' es)) μ H Q = mwpE cx n e μ H fun v H => onB v fun b => ifB b (mwpB cx n .And (.cons e' es) μ H Q) (Q (.bool false) H) := rfl
theorem b_or {e e' : ME} {es : MEs} : mwpB cx n .Or (.cons e (.cons e' es)) μ H Q = mwpE cx n e μ H fun v H => onB v fun b => ifB b (Q (.bool true) H) (mwpB cx n .Or (.cons e' es) μ H Q) := rfl
theorem ss_nil : mwpSs cx n .nil μ H N R = N μ H := rfl
theorem ss_cons {s : MS} {r : MSs} : mwpSs cx n (.cons s r) μ H N R = mwpS cx n s μ H (fun μ H => mwpSs cx n r μ H N R) R := rfl
end
end Mine
end

section
namespace Mine
open PySem PyProof.Rows

noncomputable def EP (cx : Cx) (s : Shared) (H : HP) (Q : V → HP → Prop) : Value → Shared → Prop := fun v s' => ∃ H', HS cx H' s' ∧ KE s H s' H' ∧ Q (abs v) H'

theorem EP.from {cx : Cx} {s s₁ : Shared} {H H₁ : HP} {Q : V → HP → Prop} (k : KE s H s₁ H₁) {v : Value} {s' : Shared} (h : EP cx s₁ H₁ Q v s') : EP cx s H Q v s' := by
  obtain ⟨H', a, b, c⟩ := h
  exact ⟨H', a, k.trans b, c⟩
theorem ep_from {cx : Cx} {s s₁ : Shared} {H H₁ : HP} {Q : V → HP → Prop} {M : Model} {A : Around} {E : Value → Shared → Prop} {t : Sem Value} (k : KE s H s₁ H₁) (h : wpAny M A t (EP cx s₁ H₁ Q) E s₁) : wpAny M A t (EP cx s H Q) E s₁ :=
  wpAny_mono h (fun _ _ x => x.from k) fun _ _ e => e

theorem abs_bool {v : Value} {b : Bool} (h : abs v = .bool b) : v = .bool b := by cases v <;> first | (cases h; rfl) | cases h
theorem abs_int {v : Value} {i : Int} (h : abs v = .int i) : ∃ t, v = .int i t := by cases v <;> first | (cases h; exact ⟨_, rfl⟩) | cases h
theorem abs_ref {v : Value} {a : Addr} (h : abs v = .ref a) : v = .ref a := by cases v <;> first | (cases h; rfl) | cases h

section
variable {cx : Cx} {H : HP} {s : Shared} {A : Around} {E : Value → Shared → Prop} {n : Nat}

theorem lk_rep (C : cx.OK) (S : HS cx H s) {a : Addr} {o : O} (h : lk cx H a = some o) : Rep s.heap a o := by
  unfold lk at h
  split at h
  · rename_i e; cases h; exact S.hr a _ e
  · obtain ⟨vs, e, rfl⟩ := Option.map_eq_some_iff.mp h
    exact (C.z a vs e).keep (S.ext a)
theorem lst_get (C : cx.OK) (S : HS cx H s) {a : Addr} {vs : List V} (h : lst cx H a = some vs) : ∃ items k, IsL s.heap a items k ∧ items.toList.map abs = vs := by
  unfold lst at h
  split at h
  · rename_i e; cases h
    exact lk_rep C S e
  · cases h
theorem sq_get (C : cx.OK) (S : HS cx H s) {a : Addr} {vs : List V} (h : sq cx H a = some vs) :
    ∃ (T : String) (items : Array Value) (k : Nat), s.heap.get? a = some { cls := .type T, data := .seq items k } ∧ (T = "list" ∨ T = "tuple") ∧ items.toList.map abs = vs := by
  unfold sq at h
  split at h
  · rename_i e; cases h
    obtain ⟨i, k, q, m⟩ := lk_rep C S e
    exact ⟨_, i, k, q, .inl rfl, m⟩
  · rename_i e; cases h
    obtain ⟨i, k, q, m⟩ := lk_rep C S e
    exact ⟨_, i, k, q, .inr rfl, m⟩
  · cases h

theorem size_of {items : Array Value} {vs : List V} (h : items.toList.map abs = vs) : items.size = vs.length := by rw [← h]; simp

theorem ep_push (C : cx.OK) (S : HS cx H s) {Q : V → HP → Prop} {o : O} (h : new cx H o Q) {ob : Obj} (R : ∀ h : Heap, h.get? s.heap.objs.size = some ob → Rep h s.heap.objs.size o) (hf : ob.isFreed = false) (tk : Nat) :
    EP cx s H Q (.ref s.heap.objs.size) { s with heap := s.heap.push ob, toks := tk } := by
  have k : ∀ b o', s.heap.get? b = some o' → (s.heap.push ob).get? b = some o' := fun b o' e => Heap.get?_push_of_some _ e
  exact ⟨_, S.alloc k (get_size _) (R _ (Heap.get?_push_size _ hf)) tk, KE.alloc k (get_size _) tk, h _ (S.fresh C (get_size _))⟩
theorem rep_list {h : Heap} {a : Addr} {items : Array Value} {k : Nat} {vs : List V} (e : h.get? a = some { cls := .type "list", data := .seq items k }) (m : items.toList.map abs = vs) : Rep h a (.list vs) := ⟨items, k, e, m⟩
theorem rep_tup {h : Heap} {a : Addr} {items : Array Value} {k : Nat} {vs : List V} (e : h.get? a = some { cls := .type "tuple", data := .seq items k }) (m : items.toList.map abs = vs) : Rep h a (.tup vs) := ⟨items, k, e, m⟩

theorem ep_same {Q : V → HP → Prop} (S : HS cx H s) {v : Value} (tk : Nat) (h : Q (abs v) H) : EP cx s H Q v { s with toks := tk } := ⟨H, S.toks tk, KE.toks s H tk, h⟩
theorem ep_here {Q : V → HP → Prop} (S : HS cx H s) {v : Value} (h : Q (abs v) H) : EP cx s H Q v s := ⟨H, S, Kept.refl _ s H, h⟩
theorem ep_grow {Q : V → HP → Prop} (S : HS cx H s) {v : Value} {h' : Heap} {tk : Nat} (k : ∀ b o, s.heap.get? b = some o → h'.get? b = some o) (h : Q (abs v) H) :
    EP cx s H Q v { s with heap := h', toks := tk } := ⟨H, S.grow k tk, KE.grow k tk, h⟩

theorem replicate_fold (items : Array Value) (m : Nat) : (List.foldl (fun x1 x2 => x1 ++ x2) #[] (List.replicate m items)).toList = (List.replicate m items.toList).flatten := by
  have : ∀ (l : List (Array Value)) (acc : Array Value), (List.foldl (fun x1 x2 => x1 ++ x2) acc l).toList = acc.toList ++ (l.map Array.toList).flatten := by
    intro l
    induction l with
    | nil => intro acc; simp
    | cons x l ih => intro acc; rw [List.foldl_cons, ih]; simp
  rw [this]; simp

theorem pylong_room (C : cx.OK) (hA : AOK0 A n) (S : HS cx H s) : PylongRoom (model cx.prog cx.w) A s := by
  obtain ⟨env, outer, hf, h1, h2, h3, h4⟩ := hA.top
  refine PylongRoom.of (C.nolimit.keeps S.ext) ?_ (SeerAt.of (C.seer.keeps S.ext) C.tree hf h1 h2 h3 h4)
  have := hA.depth
  unfold recursionLimit Builtin.pylongFrames
  first | lia | omega

theorem add_ok (C : cx.OK) (S : HS cx H s) {a b : Value} {Q : V → HP → Prop} (h : addP cx (abs a) (abs b) H Q) : wpAny (model cx.prog cx.w) A (binaryOp .Add a b) (EP cx s H Q) E s := by
  cases a with
  | int x t =>
    obtain ⟨y, hb, h⟩ := onI_inv h
    obtain ⟨u, rfl⟩ := abs_int hb
    exact PyProof.Rows.add_int (ep_same S _ h)
  | ref x =>
    obtain ⟨y, hb, h⟩ := onR_inv h
    have := abs_ref hb; subst this
    obtain ⟨xs, hx, h⟩ := onO_inv h
    obtain ⟨ys, hy, h⟩ := onO_inv h
    obtain ⟨i1, k1, e1, m1⟩ := lst_get C S hx
    obtain ⟨i2, k2, e2, m2⟩ := lst_get C S hy
    refine PySem.P.add_list e1 e2 (ep_push C S h.2 (fun h e => rep_list e (by simp [m1, m2])) rfl _) ?_
    rw [size_of m1, size_of m2, sizeLine_eq]; exact h.1
  | _ => exact False.elim h
theorem mul_ok (C : cx.OK) (S : HS cx H s) {a b : Value} {Q : V → HP → Prop} (h : mulP cx (abs a) (abs b) H Q) : wpAny (model cx.prog cx.w) A (binaryOp .Mult a b) (EP cx s H Q) E s := by
  cases a with
  | int x t =>
    obtain ⟨y, hb, h⟩ := onI_inv h
    obtain ⟨u, rfl⟩ := abs_int hb
    exact PyProof.Rows.mul_int (ep_same S _ h.2) h.1
  | ref a =>
    obtain ⟨x, hb, h⟩ := onI_inv h
    obtain ⟨u, rfl⟩ := abs_int hb
    obtain ⟨xs, hx, hn0, hn, hsz, h⟩ := onO_inv h
    obtain ⟨i1, k1, e1, m1⟩ := lst_get C S hx
    rw [← size_of m1] at hsz
    refine wpAny_binaryOp_repeat_ref (T := "list") (U := "int") (by decide) ⟨_, e1, rfl⟩ (fun s' => typeIs_int s' x u) noFill_list_mul F.fills_int_mul F.slot_int_rmul repeat_list F.slot_int_index.lookup
        (call_meets F.slot_int_rmul (typeIs_int s x u) F.entry_int_rmul (F.args_int_rmul_2 _ _) (int___rmul___int_list x u _ i1 k1)
          ⟨e1, rfl, ⟨_, e1, rfl⟩, call_meets F.slot_list_mul ⟨_, e1, rfl⟩ F.entry_list_mul (F.args_list_mul_2 _ _)
            (AutoListH.list___mul___list_int_3 _ i1 k1 x u (by simp [Builtin.List.listFitsIndex]; omega) (by first | lia | omega) (by simp [Builtin.List.listTooLong, sizeLine]; omega))
            ⟨e1, ?_⟩⟩)
    refine ep_push C S h (fun h e => rep_list e ?_) rfl _
    rw [replicate_fold, ← m1]
    split
    · rename_i he
      have : i1 = #[] := by simpa using he
      subst this; simp
    · simp [List.map_flatten]
  | str x t =>
    obtain ⟨n, hb, hn, h2⟩ := onI_inv h
    obtain ⟨u, rfl⟩ := abs_int hb
    rcases hn with rfl | rfl
    · exact P.mul_str_none (by decide) (by decide) (ep_same S _ h2)
    · exact P.mul_str (by decide) (fun _ q => by simp at q) (fun _ q => by simp at q) (by rw [if_neg (by decide), if_pos (by simp)]; exact ep_here S h2)
  | _ => exact False.elim h
theorem bin_ok (C : cx.OK) (hA : AOK0 A n) (S : HS cx H s) {op : Operator} {a b : Value} {Q : V → HP → Prop} (h : binP cx op (abs a) (abs b) H Q) :
    wpAny (model cx.prog cx.w) A (binaryOp op a b) (EP cx s H Q) E s := by
  have ii : ∀ {k : Int → Int → Prop}, (onI (abs a) fun x => onI (abs b) fun y => k x y) → ∃ x y t u, a = .int x t ∧ b = .int y u ∧ k x y := fun h => by
    obtain ⟨x, e1, h⟩ := onI_inv h
    obtain ⟨y, e2, h⟩ := onI_inv h
    obtain ⟨t, e1⟩ := abs_int e1
    obtain ⟨u, e2⟩ := abs_int e2
    exact ⟨x, y, t, u, e1, e2, h⟩
  cases op with
  | Add => exact add_ok C S h
  | Mult => exact mul_ok C S h
  | Sub =>
    obtain ⟨x, y, t, u, rfl, rfl, h⟩ := ii h
    exact PyProof.Rows.sub_int (ep_same S _ h)
  | FloorDiv =>
    obtain ⟨x, y, t, u, rfl, rfl, h1, h2⟩ := ii h
    exact PyProof.Rows.floordiv_int h1 (ep_same S _ h2) (Or.inr (pylong_room C hA S))
  | Mod =>
    obtain ⟨x, y, t, u, rfl, rfl, h1, h2⟩ := ii h
    exact PyProof.Rows.mod_int' h1 (ep_same S _ h2)
  | Pow =>
    obtain ⟨x, y, t, u, rfl, rfl, h1, h2, h3⟩ := ii h
    exact PyProof.Rows.pow_int h1 h2 (ep_same S _ h3)
  | _ => exact False.elim h
end
end Mine
end

section
namespace Mine
open PySem PyProof.Rows PySem.SeqAt

section
variable {cx : Cx} {H : HP} {s : Shared} {A : Around} {E : Value → Shared → Prop} {n : Nat}

theorem rdS_inv {h : Heap} {x : Str} {t : Tok} {n : Nat} {d : PyData} (e : rdS x = some d) : (∃ as, Reads h (.str x t) d as) ∧ d.canLay0 = true ∧ d.depth ≤ n := by
  unfold rdS at e
  split at e
  · rename_i q; cases e; exact ⟨⟨_, .str _ _⟩, q, Nat.zero_le _⟩
  · cases e
theorem rdA_inv {h : Heap} {v : Value} {n : Nat} {d : PyData} (e : rdA (abs v) = some d) : (∃ as, Reads h v d as) ∧ d.canLay0 = true ∧ d.depth ≤ n := by
  cases v <;> first | (cases e; exact ⟨⟨_, .int _ _⟩, rfl, Nat.zero_le _⟩) | (cases e; exact ⟨⟨_, .none⟩, rfl, Nat.zero_le _⟩) | (cases e; exact ⟨⟨_, .bool _⟩, rfl, Nat.zero_le _⟩) | exact rdS_inv e | cases e
theorem rdV_reads (C : cx.OK) (S : HS cx H s) : ∀ (n : Nat) (v : Value) (d : PyData), rdV cx H n (abs v) = some d → (∃ as, Reads s.heap v d as) ∧ d.canLay0 = true ∧ d.depth ≤ n := by
  intro n
  induction n with
  | zero =>
    intro v d h
    exact rdA_inv h
  | succ n ih =>
    have all : ∀ (vs : List Value) (ds : List PyData), (vs.map abs).mapM (rdV cx H n) = some ds → (∃ as, ReadsAll s.heap vs ds as) ∧ PyData.canLayAll0 ds = true ∧ PyData.depthAll ds ≤ n := by
      intro vs
      induction vs with
      | nil => intro ds h; simp at h; subst h; exact ⟨⟨_, .nil⟩, rfl, Nat.zero_le _⟩
      | cons v vs ihv =>
        intro ds h
        simp only [List.map_cons, List.mapM_cons, Option.pure_def, Option.bind_eq_bind, Option.bind_eq_some_iff] at h
        obtain ⟨d, h1, es, h2, h3⟩ := h
        cases h3
        obtain ⟨⟨as, r⟩, c, dp⟩ := ih v d h1
        obtain ⟨⟨bs, rs⟩, cs, dps⟩ := ihv es h2
        exact ⟨⟨_, .cons r rs⟩, by rw [PyData.canLayAll0, c, cs]; rfl, Nat.max_le.mpr ⟨dp, dps⟩⟩
    intro v d h
    cases v with
    | ref a =>
      have h : (match lk cx H a with
        | some (.list vs) => (vs.mapM (rdV cx H n)).map .list
        | some (.tup vs) => (vs.mapM (rdV cx H n)).map .tuple
        | _ => none) = some d := h
      cases hl : lk cx H a with
      | none => rw [hl] at h; cases h
      | some o =>
        rw [hl] at h
        have R := lk_rep C S hl
        cases o with
        | list vs =>
          obtain ⟨ds, e1, rfl⟩ := Option.map_eq_some_iff.mp h
          obtain ⟨items, k, e, m⟩ := R
          rw [← m] at e1
          obtain ⟨⟨as, r⟩, c, dp⟩ := all _ _ e1
          exact ⟨⟨_, .list e rfl rfl r⟩, c, Nat.succ_le_succ dp⟩
        | tup vs =>
          obtain ⟨ds, e1, rfl⟩ := Option.map_eq_some_iff.mp h
          obtain ⟨items, k, e, m⟩ := R
          rw [← m] at e1
          obtain ⟨⟨as, r⟩, c, dp⟩ := all _ _ e1
          exact ⟨⟨_, .tuple e rfl rfl r⟩, c, Nat.succ_le_succ dp⟩
        | _ => cases h
    | _ => exact rdA_inv h
theorem abs_str {v : Value} {x : Str} (h : abs v = .str x) : ∃ t, v = .str x t := by cases v <;> first | (cases h; exact ⟨_, rfl⟩) | cases h
theorem shp {m : Nat} {d : PyData} (hm : m ≤ 64) (c : d.canLay0 = true) (dp : d.depth ≤ m) : shaped d = true := by unfold shaped; rw [c, decide_eq_true (Nat.le_trans dp hm)]; rfl
theorem eq_ok (C : cx.OK) (hA : ACall0 A n) (S : HS cx H s) {a b : Value} {c : Bool} (h : eqP cx (abs a) (abs b) H = some c) {Q : Value → Shared → Prop} : (Q (.bool c) s → wpAny (model cx.prog cx.w) A (compareOp .Eq a b) Q E s) ∧ (Q (.bool (!c)) s → wpAny (model cx.prog cx.w) A (compareOp .NotEq a b) Q E s) := by
  rcases eqP_inv h with ⟨x, y, ea, eb, rfl⟩ | h
  · obtain ⟨t, rfl⟩ := abs_str ea
    obtain ⟨u, rfl⟩ := abs_str eb
    exact ⟨fun q => PyProof.Rows.eq_str q, fun q => PyProof.Rows.ne_str q⟩
  obtain ⟨d, hd, h⟩ := Option.bind_eq_some_iff.mp h
  obtain ⟨e, he, rfl⟩ := Option.map_eq_some_iff.mp h
  obtain ⟨⟨as, r⟩, c1, dp⟩ := rdV_reads C S 3 a d hd
  obtain ⟨⟨bs, r'⟩, c2, dp'⟩ := rdV_reads C S 3 b e he
  have hu : A.units + 64 < cLine := by have := hA.units; unfold cLine; omega
  exact ⟨fun q => eq_dataH r r' (shp (by decide) c1 dp) (shp (by decide) c2 dp') hu q, fun q => ne_dataH r r' (shp (by decide) c1 dp) (shp (by decide) c2 dp') hu q⟩
theorem is_ok {a b : Value} {c : Bool} (h : isP (abs a) (abs b) = some c) {Q : Value → Shared → Prop} : (Q (.bool c) s → wpAny (model cx.prog cx.w) A (compareOp .Is a b) Q E s) ∧ (Q (.bool (!c)) s → wpAny (model cx.prog cx.w) A (compareOp .IsNot a b) Q E s) := by
  have key : isSame a b = (pure c : Sem Bool) := by
    cases b with
    | none => cases a <;> first | (cases h; rfl) | (cases h; simp [isSame]; done) | cases h
    | bool y => cases a with
      | bool x => cases h; cases x <;> cases y <;> rfl
      | _ => first | (cases h; rfl) | cases h
    | _ => cases h
  refine ⟨fun q => ?_, fun q => ?_⟩
  · show wpAny _ A (do return Value.bool (← isSame a b)) Q E s
    rw [key]; exact wpAny_bind (wpAny_pure (wpAny_pure q))
  · show wpAny _ A (do return Value.bool (!(← isSame a b))) Q E s
    rw [key]; exact wpAny_bind (wpAny_pure (wpAny_pure q))
theorem in_ok (C : cx.OK) (hA : ACall0 A n) (S : HS cx H s) {a b : Value} {c : Bool} (h : inP cx (abs a) (abs b) H = some c) {Q : Value → Shared → Prop} : (Q (.bool c) s → wpAny (model cx.prog cx.w) A (compareOp .In a b) Q E s) ∧ (Q (.bool (!c)) s → wpAny (model cx.prog cx.w) A (compareOp .NotIn a b) Q E s) := by
  obtain ⟨d, hd, h⟩ := Option.bind_eq_some_iff.mp h
  obtain ⟨e, he, h⟩ := Option.bind_eq_some_iff.mp h
  obtain ⟨⟨as, r⟩, c1, dp⟩ := rdV_reads C S 1 a d hd
  obtain ⟨⟨bs, r'⟩, c2, dp'⟩ := rdV_reads C S 1 b e he
  have hu : ∀ m, A.units + 1 + min m d.depth < cLine := fun m => by have := hA.units; unfold cLine; omega
  cases e with
  | list xs => cases h; exact ⟨fun q => in_list_reads r' r c2 c1 (hu _) q, fun q => notIn_list_reads r' r c2 c1 (hu _) q⟩
  | tuple xs => cases h; exact ⟨fun q => in_tuple_reads r' r c2 c1 (hu _) q, fun q => notIn_tuple_reads r' r c2 c1 (hu _) q⟩
  | _ => cases h
theorem ord_ok {op : CmpOp} {a b : Value} {c : Bool} {Q : V → HP → Prop} {g : Int → Int → Bool} (hg : ∀ x t y u, Q (.bool (g x y)) H → wpAny (model cx.prog cx.w) A (compareOp op (.int x t) (.int y u)) (EP cx s H Q) E s)
    (h : cII g (abs a) (abs b) = some c) (hQ : Q (.bool c) H) : wpAny (model cx.prog cx.w) A (compareOp op a b) (EP cx s H Q) E s := by
  obtain ⟨x, y, ea, eb, ec⟩ := cII_inv h
  obtain ⟨t, rfl⟩ := abs_int ea
  obtain ⟨u, rfl⟩ := abs_int eb
  exact hg x t y u (by rw [ec]; exact hQ)
theorem cmp_ok (C : cx.OK) (hA : ACall0 A n) (S : HS cx H s) {op : CmpOp} {a b : Value} {c : Bool} {Q : V → HP → Prop} (h : cmpP cx op (abs a) (abs b) H = some c) (hQ : Q (.bool c) H) :
    wpAny (model cx.prog cx.w) A (compareOp op a b) (EP cx s H Q) E s := by
  cases op with
  | Lt => exact ord_ok (g := fun x y => decide (x < y)) (fun _ _ _ _ q => PyProof.Rows.lt_int (ep_here S q)) h hQ
  | LtE => exact ord_ok (g := fun x y => decide (x ≤ y)) (fun _ _ _ _ q => PyProof.Rows.le_int (ep_here S q)) h hQ
  | Gt => exact ord_ok (g := fun x y => decide (y < x)) (fun _ _ _ _ q => PyProof.Rows.gt_int (ep_here S q)) h hQ
  | Eq => exact (eq_ok C hA S h).1 (ep_here S hQ)
  | NotEq =>
    obtain ⟨c', h1, rfl⟩ := Option.map_eq_some_iff.mp h
    exact (eq_ok C hA S h1).2 (ep_here S hQ)
  | Is => exact (is_ok h).1 (ep_here S hQ)
  | IsNot =>
    obtain ⟨c', h1, rfl⟩ := Option.map_eq_some_iff.mp h
    exact (is_ok h1).2 (ep_here S hQ)
  | In => exact (in_ok C hA S h).1 (ep_here S hQ)
  | NotIn =>
    obtain ⟨c', h1, rfl⟩ := Option.map_eq_some_iff.mp h
    exact (in_ok C hA S h1).2 (ep_here S hQ)
  | _ => cases h
theorem ite2 {p q : Prop} [Decidable p] [Decidable q] {x y b : Bool} (h : (if p then some x else if q then some y else none) = some b) : (p ∧ b = x) ∨ (q ∧ b = y) := by
  by_cases hp : p
  · rw [if_pos hp] at h; cases h; exact .inl ⟨hp, rfl⟩
  · rw [if_neg hp] at h
    by_cases hq : q
    · rw [if_pos hq] at h; cases h; exact .inr ⟨hq, rfl⟩
    · rw [if_neg hq] at h; cases h
theorem isi_ok (hx : ∀ (C : Addr), C ∈ cx.exs → ∀ a o (s : Shared) (Q : Value → Shared → Prop), (∀ b o, cx.base.get? b = some o → s.heap.get? b = some o) → s.heap.get? a = some o → o.cls = .ref C → (∀ t, Q (.bool true) { s with toks := t }) → wpAny (model cx.prog cx.w) A (call (.builtin "isinstance") [.ref a, .type "ValueError"]) Q E s)
    (S : HS cx H s) {v : Value} {t : String} {b : Bool} {Q : V → HP → Prop} (h : isiP cx H (abs v) t = some b) (hQ : Q (.bool b) H) :
    wpAny (model cx.prog cx.w) A (call (.builtin "isinstance") [v, .type t]) (EP cx s H Q) E s := by
  cases v with
  | int x u =>
    rcases ite2 h with ⟨rfl, rfl⟩ | ⟨rfl, rfl⟩
    · exact IsiPair.int_int (ep_here S hQ)
    · exact IsiPair.int_bool (ep_same S _ hQ)
  | bool x =>
    rcases ite2 h with ⟨rfl, rfl⟩ | ⟨rfl, rfl⟩
    · exact IsiPair.bool_int (ep_here S hQ)
    · exact IsiPair.bool_bool (ep_here S hQ)
  | str x u =>
    rcases ite2 h with ⟨rfl, rfl⟩ | ⟨rfl, rfl⟩
    · exact IsiPair.str_int (ep_same S _ hQ)
    · exact IsiPair.str_tuple (ep_same S _ hQ)
  | none =>
    rcases ite2 h with ⟨rfl, rfl⟩ | ⟨rfl, rfl⟩
    · exact IsiPair.NoneType_int (ep_same S _ hQ)
    · exact IsiPair.NoneType_tuple (ep_same S _ hQ)
  | ref a =>
    have h : (match H a with
      | some (.list _) => if t = "list" then some true else if t = "int" then some false else if t = "tuple" then some false else none
      | some (.tup _) => if t = "tuple" then some true else if t = "int" then some false else none
      | some (.exo C) => if t = "ValueError" ∧ C ∈ cx.exs then some true else none
      | _ => none) = some b := h
    cases e : H a with
    | none => rw [e] at h; cases h
    | some o =>
      rw [e] at h
      cases o with
      | list vs =>
        obtain ⟨i, k, q, m⟩ := S.hr _ _ e
        by_cases ht : t = "list"
        · simp only [if_pos ht] at h; cases h; subst ht; exact IsiPair.list_list q rfl (ep_here S hQ)
        · simp only [if_neg ht] at h
          rcases ite2 h with ⟨rfl, rfl⟩ | ⟨rfl, rfl⟩
          · exact IsiPair.list_int q rfl (ep_same S _ hQ)
          · exact IsiPair.list_tuple q rfl (ep_same S _ hQ)
      | tup vs =>
        obtain ⟨i, k, q, m⟩ := S.hr _ _ e
        rcases ite2 h with ⟨rfl, rfl⟩ | ⟨rfl, rfl⟩
        · exact IsiPair.tuple_tuple q rfl (ep_here S hQ)
        · exact IsiPair.tuple_int q rfl (ep_same S _ hQ)
      | exo C =>
        obtain ⟨o, q, m⟩ := S.hr _ _ e
        by_cases ht : t = "ValueError" ∧ C ∈ cx.exs
        · simp only [if_pos ht] at h; cases h; obtain ⟨rfl, hC⟩ := ht
          exact hx C hC a o s _ S.ext q m fun t => ep_same S t hQ
        · simp only [if_neg ht] at h; cases h
      | _ => cases h
  | _ => cases h
end
end Mine
end

section
namespace Mine
open PySem PyProof.Rows PySem.SeqAt

theorem range_pick {α : Type} (xs : List α) : ∀ (c l : Nat), ((List.range c).map fun k => l + k).filterMap (fun i => xs[i]?) = (xs.drop l).take c := by
  intro c
  induction c with
  | zero => intro l; simp
  | succ c ih =>
    intro l
    rw [List.range_succ_eq_map, List.map_cons, List.map_map]
    have e : ((fun k => l + k) ∘ Nat.succ) = fun k => (l + 1) + k := by funext k; simp only [Function.comp]; omega
    rw [e, List.filterMap_cons, ih (l + 1)]
    simp only [Nat.add_zero]
    cases h : xs[l]? with
    | none =>
      have hl : xs.length ≤ l := List.getElem?_eq_none_iff.mp h
      simp [List.drop_eq_nil_of_le hl, List.drop_eq_nil_of_le (Nat.le_succ_of_le hl)]
    | some x =>
      obtain ⟨hl, hx⟩ := List.getElem?_eq_some_iff.mp h
      simp only
      rw [List.drop_eq_getElem_cons hl, List.take_succ_cons, hx]

noncomputable def partOf : V → Option (Option Int)
  | .none => some none
  | .int i => some (some i)
  | _ => none

theorem isPart_of {v : Value} {x : Option Int} (h : partOf (abs v) = some x) : IsPart v x := by
  cases v <;> simp [abs, partOf] at h <;> subst h <;> constructor

theorem min_cast {j : Int} (h : 0 ≤ j) (n : Nat) : min j (n : Int) = ((min j.toNat n : Nat) : Int) := by
  obtain ⟨k, rfl⟩ := Int.eq_ofNat_of_zero_le h
  rw [Int.toNat_natCast]
  omega
theorem bnd_none (n : Nat) (j : Int) (h0 : 0 ≤ j) : sliceBounds none (some j) none n = (0, ((min j.toNat n : Nat) : Int), 1) := by
  simp [sliceBounds, Int.not_lt.mpr h0, min_cast h0]
theorem bnd_some (n : Nat) (i j : Int) (h1 : 0 ≤ i) (h0 : 0 ≤ j) : sliceBounds (some i) (some j) none n = (((min i.toNat n : Nat) : Int), ((min j.toNat n : Nat) : Int), 1) := by
  simp [sliceBounds, Int.not_lt.mpr h0, Int.not_lt.mpr h1, min_cast h0, min_cast h1]
theorem bnd_open (n : Nat) (i : Int) (h1 : 0 ≤ i) : sliceBounds (some i) none none n = (((min i.toNat n : Nat) : Int), (n : Int), 1) := by
  simp [sliceBounds, Int.not_lt.mpr h1, min_cast h1]
theorem bnd_all (n : Nat) : sliceBounds none none none n = (0, (n : Int), 1) := by
  simp [sliceBounds]
theorem rng_cut (l h : Nat) : sliceRange (l : Int) (h : Int) 1 = (List.range (h - l)).map fun k => l + k := by
  unfold sliceRange
  simp only [show (1 : Int) > 0 from by decide, if_true, Int.one_mul]
  have ec : (if (l : Int) < h then ((h : Int) - l + 1 - 1) / 1 else 0).toNat = h - l := by
    split <;> omega
  rw [ec]
  congr 1
theorem cutAt_inv {n l : Nat} {i : Int} (h : cutAt n i = some l) : 0 ≤ i ∧ l = min i.toNat n := by
  unfold cutAt at h
  by_cases q : 0 ≤ i
  · rw [if_pos q] at h; cases h; exact ⟨q, rfl⟩
  · rw [if_neg q] at h; cases h
theorem slice_cut {items : Array Value} {vs : List V} (m : items.toList.map abs = vs) {lo hi : V} {l h : Nat} (hl : cutLo vs.length lo = some l) (hh : cutHi vs.length hi = some h) :
    ∃ pl ph, partOf lo = some pl ∧ partOf hi = some ph ∧ (slicePick items pl ph none).toList.map abs = cut vs l h := by
  have key : ∀ pl ph, sliceBounds pl ph none items.size = ((l : Int), (h : Int), 1) → (slicePick items pl ph none).toList.map abs = cut vs l h := by
    intro pl ph e
    unfold slicePick
    rw [e]
    dsimp only
    rw [rng_cut]
    have := range_pick items.toList (h - l) l
    simp only [Array.getElem?_toList] at this
    show List.map abs (List.filterMap (fun i => items[i]?) _) = _
    rw [this, ← m]
    unfold cut
    rw [List.map_take, List.map_drop, List.drop_take]
  rw [← size_of m] at hl hh
  cases hi with
  | int j =>
    obtain ⟨h0, rfl⟩ := cutAt_inv hh
    cases lo with
    | none => cases hl; exact ⟨none, some j, rfl, rfl, key _ _ (bnd_none _ _ h0)⟩
    | int i =>
      obtain ⟨h1, rfl⟩ := cutAt_inv hl
      exact ⟨some i, some j, rfl, rfl, key _ _ (bnd_some _ _ _ h1 h0)⟩
    | _ => cases hl
  | none =>
    cases hh
    cases lo with
    | none => cases hl; exact ⟨none, none, rfl, rfl, key _ _ (bnd_all _)⟩
    | int i =>
      obtain ⟨h1, rfl⟩ := cutAt_inv hl
      exact ⟨some i, none, rfl, rfl, key _ _ (bnd_open _ _ h1)⟩
    | _ => cases hl
  | _ => cases hh

noncomputable def BF.val : BF → Value
  | .len => .builtin "len"
  | .list => .type "list"
  | .int => .type "int"
  | .abs => .builtin "abs"
  | .max => .builtin "max"
  | .repr => .builtin "repr"
noncomputable def BF.quiet : BF → Bool
  | .max => false
  | _ => true

section
variable {cx : Cx} {H : HP} {s : Shared} {A : Around} {E : Value → Shared → Prop} {n : Nat}

theorem one_arg {vs : List Value} {x : V} (e : vs.map abs = [x]) : ∃ v, vs = [v] ∧ abs v = x := by
  obtain ⟨v, vs', e1, e2, e3⟩ := List.map_eq_cons_iff.mp e
  exact ⟨v, by rw [e1, List.map_eq_nil_iff.mp e3], e2⟩
theorem callb_ok (C : cx.OK) (hA : AOK0 A n) (S : HS cx H s) {b : BF} (hh : b.quiet = false → A.handled = none) {vs : List Value} {Q : V → HP → Prop} (h : callbP cx b (vs.map abs) H Q) :
    wpAny (model cx.prog cx.w) A (call b.val vs) (EP cx s H Q) E s := by
  have ref1 : ∀ {k : Addr → Prop}, (on1 (vs.map abs) fun v => onR v k) → ∃ a, vs = [.ref a] ∧ k a := fun h => by
    obtain ⟨x, e, h1⟩ := on1_inv h
    obtain ⟨a, e1, h2⟩ := onR_inv h1
    obtain ⟨v, e2, e3⟩ := one_arg e
    exact ⟨a, by rw [e2, abs_ref (e3.trans e1)], h2⟩
  cases b with
  | len =>
    obtain ⟨a, rfl, h⟩ := ref1 h
    obtain ⟨xs, hx, h1, h2⟩ := onO_inv h
    obtain ⟨T, items, k, e, hT, m⟩ := sq_get C S hx
    have hsz := size_of m
    have q : EP cx s H Q (.int items.size (s.toks + 1)) { s with toks := s.toks + 1 + 1 } := ep_same S _ (by rw [hsz]; exact h2)
    have hb : (items.size : Int) < 2 ^ 63 := by rw [hsz]; omega
    rcases hT with rfl | rfl
    · exact PyProof.Rows.len_list ⟨_, e, rfl, k, rfl⟩ hb q
    · exact PyProof.Rows.len_tuple ⟨_, e, rfl, k, rfl⟩ hb q
  | list =>
    obtain ⟨a, rfl, h⟩ := ref1 h
    obtain ⟨xs, hx, h1, h2⟩ := onO_inv h
    obtain ⟨T, items, k, e, hT, m⟩ := sq_get C S hx
    refine call_list_seq _ hT e rfl rfl (fun h' c' hk hD => ?_) (by rw [size_of m, sizeLine_eq]; exact h1)
    exact ⟨_, S.alloc hk (get_size _) (rep_list hD m) s.toks, KE.alloc hk (get_size _) s.toks, h2 _ (S.fresh C (get_size _))⟩
  | int =>
    obtain ⟨x, e, h⟩ := on1_inv h
    obtain ⟨b, eb, h⟩ := onB_inv h
    obtain ⟨v, rfl, e1⟩ := one_arg e
    have := abs_bool (e1.trans eb); subst this
    exact call_int_bool (ep_same S _ h)
  | abs =>
    obtain ⟨x, e, h⟩ := on1_inv h
    obtain ⟨i, eb, h⟩ := onI_inv h
    obtain ⟨v, rfl, e1⟩ := one_arg e
    obtain ⟨t, rfl⟩ := abs_int (e1.trans eb)
    exact call_abs_int fun u tk => ep_same S tk h
  | repr =>
    obtain ⟨a, rfl, h⟩ := ref1 h
    obtain ⟨d, hd, h1, h2, h4⟩ := onO_inv h
    obtain ⟨⟨as, r⟩, c, dp⟩ := rdV_reads C S 4 (.ref a) d hd
    refine PySem.repr_of_reads' r h2 (fun q => by rw [PyData.hasDict_of_canLay d c] at q; cases q) hA.guards (by have := hA.units; unfold cLine; omega) (fun _ _ q => q) (fun h' u tk hk => ep_grow S hk h4) (by rw [sizeLine_eq]; exact h1)
  | max =>
    obtain ⟨x, y, e, h⟩ := on2_inv h
    obtain ⟨a, ea, h⟩ := onI_inv h
    obtain ⟨b, eb, hm⟩ := onI_inv h
    clear h
    obtain ⟨v, vs', rfl, e1, e3⟩ := List.map_eq_cons_iff.mp e
    obtain ⟨w, rfl, e2⟩ := one_arg e3
    obtain ⟨t, rfl⟩ := abs_int (e1.trans ea); obtain ⟨u, rfl⟩ := abs_int (e2.trans eb)
    refine max_two_ints (hh rfl) fun h' tk hk => ep_grow S hk ?_
    by_cases c : a < b
    · rw [if_pos c] at hm ⊢; exact hm
    · rw [if_neg c] at hm ⊢; exact hm
end
end Mine
end

section
namespace Mine
open PySem PyProof.Rows PySem.SeqAt

noncomputable def notSlice : Expr → Bool
  | .Slice .. => false
  | _ => true
theorem notSlice_sub {e : Expr} (h : notSlice e = true) (o i : Value) : subscripted e false o i = operate [o, i] (getItem o i) := by
  cases e <;> first | rfl | exact (Bool.false_ne_true h).elim

section
variable {cx : Cx} {H : HP} {s : Shared} {A : Around} {E : Value → Shared → Prop} {n : Nat}

theorem item_of {items : Array Value} {vs : List V} (m : items.toList.map abs = vs) {j : Nat} {v : V} (h : vs[j]? = some v) : ∃ x, items[j]? = some x ∧ abs x = v := by
  rw [← m, List.getElem?_map] at h
  obtain ⟨x, e, q⟩ := Option.map_eq_some_iff.mp h
  exact ⟨x, by simpa using e, q⟩

theorem sub_ok (C : cx.OK) (S : HS cx H s) {value slice : Expr} (hsl : notSlice slice = true) {o i : Value} {Q : V → HP → Prop} (h : subP cx (abs o) (abs i) H Q) :
    wpAny (model cx.prog cx.w) A (subscriptTail value slice o i) (EP cx s H Q) E s := by
  obtain ⟨a, ho, h⟩ := onR_inv h
  obtain ⟨k, hi, h⟩ := onI_inv h
  have := abs_ref ho; subst this
  obtain ⟨u, rfl⟩ := abs_int hi
  obtain ⟨vs, hvs, h0, hlen, h⟩ := onO_inv h
  obtain ⟨v, hv, h⟩ := onO_inv h
  obtain ⟨T, items, kk, e, hT, m⟩ := sq_get C S hvs
  obtain ⟨x, hx, hxa⟩ := item_of m hv
  have hlt : k.toNat < vs.length := (List.getElem?_eq_some_iff.mp hv).1
  have fin : EP cx s H Q x s := ep_here S (by rw [hxa]; exact h)
  have hk : k < 2 ^ 63 := by first | lia | omega
  rcases hT with rfl | rfl
  · have hL : s.heap.IsList a items := ⟨_, e, rfl, kk, rfl⟩
    exact tail_any hL.typeIs slot_list_getitem.lookup (wpAny_getItem_list hL h0 hk hx fin) (notSlice_sub hsl _ _)
  · have hT : IsTup s.heap a items.toList.toArray := ⟨_, e, rfl, kk, rfl⟩
    refine item_tupleT hT (by first | lia | omega) hk (j := k.toNat) ?_ (by simpa using hx) fin (notSlice_sub hsl _ _)
    have hsz : items.toList.length = vs.length := by rw [← m]; simp
    unfold seqIndex?
    rw [hsz]
    simp only [Int.not_lt.mpr h0, if_false]
    rw [if_pos (by simp only [Bool.and_eq_true, decide_eq_true_eq]; omega)]

theorem slice_ok (C : cx.OK) (S : HS cx H s) {value : Expr} {lo hi : Option Expr} {p : Pos} {o l u : Value} {Q : V → HP → Prop} (h : sliceP cx (abs o) (abs l) (abs u) H Q) :
    wpAny (model cx.prog cx.w) A (subscriptTail value (.Slice lo hi none p) o (.ref s.heap.objs.size)) (EP cx s H Q) E
      { s with heap := s.heap.push { cls := .type "slice", data := .fields #[l, u, .none] } } := by
  obtain ⟨a, ho, h⟩ := onR_inv h
  have := abs_ref ho; subst this
  have k1 : ∀ b ob, s.heap.get? b = some ob → (s.heap.push { cls := .type "slice", data := .fields #[l, u, .none] }).get? b = some ob := fun b ob x => Heap.get?_push_of_some _ x
  have S' := S.grow k1 s.toks
  refine ep_from (KE.grow k1 s.toks) ?_
  rcases onSq_inv h with ⟨vs, hvs, h⟩ | ⟨vs, hvs, hu, h⟩
  case inr =>
    obtain ⟨i, hi, h1, h2, h3, h4⟩ := onI_inv h
    obtain ⟨t, rfl⟩ := abs_int hi
    have : u = .none := by cases u <;> first | rfl | cases hu
    subst this
    obtain ⟨items, k, e, m⟩ := lk_rep C S hvs
    obtain ⟨j, rfl⟩ := Int.eq_ofNat_of_zero_le (show 0 ≤ i from by omega)
    rw [Int.toNat_natCast] at h2 h4
    have hT : IsTup (s.heap.push { cls := .type "slice", data := .fields #[.int (j : Int) t, .none, .none] }) a items := ⟨_, k1 _ _ e, rfl, k, rfl⟩
    refine tail_any (s := { s with heap := s.heap.push { cls := .type "slice", data := .fields #[.int (j : Int) t, .none, .none] } }) hT.typeIs slot_tuple_getitem.lookup
      (getItem_tuple_from hT ⟨_, Heap.get?_push_size _ rfl, rfl, rfl⟩ (by omega) (by rw [size_of m]; exact h2) ?_ (by rw [size_of m, sizeLine_eq]; exact h3)) rfl
    exact ep_push C S' h4 (fun h e => rep_tup e (by rw [List.map_drop, m])) rfl _
  obtain ⟨cl, e1, h⟩ := onO_inv h
  obtain ⟨ch, e2, h1, h2⟩ := onO_inv h
  obtain ⟨items, k, e, m⟩ := lk_rep C S hvs
  obtain ⟨pl, ph, q1, q2, q3⟩ := slice_cut m e1 e2
  have hL : (s.heap.push { cls := .type "slice", data := .fields #[l, u, .none] }).IsList a items := ⟨_, k1 _ _ e, rfl, k, rfl⟩
  refine tail_any (s := { s with heap := s.heap.push { cls := .type "slice", data := .fields #[l, u, .none] } }) hL.typeIs slot_list_getitem.lookup
    (wpAny_getItem_list_slice hL ⟨_, Heap.get?_push_size _ rfl, rfl, rfl⟩ (isPart_of q1) (isPart_of q2) .none (by simp) ?_ (by rw [size_of m, sizeLine_eq]; exact h1)) rfl
  exact ep_push C S' h2 (fun h e => rep_list e q3) rfl _

noncomputable def UP (cx : Cx) (s : Shared) (H : HP) (Q : HP → Prop) : Unit → Shared → Prop := fun _ s' => ∃ H', HS cx H' s' ∧ KE s H s' H' ∧ Q H'

theorem setItem_plain {l : Addr} {items : Array Value} {c : Nat} {k : Int} {t : Tok} {v : Value} {Q : Unit → Shared → Prop} (hl : IsL s.heap l items c)
    (h0 : 0 ≤ k) (hfit : k < 2 ^ 63) (hn : k < items.size)
    (hQ : ∀ h', IsL h' l (items.setIfInBounds k.toNat v) c → Heap.SameBut l s.heap h' → Q () { s with heap := h' }) :
    wpAny (model cx.prog cx.w) A (setItem (.ref l) (.int k t) v) Q E s := by
  have hT : s.TypeIs (.ref l) "list" := ⟨_, hl, rfl⟩
  unfold setItem
  refine wpAny_holding (wpAny_bind (wpAny_sequenceKey hT (by decide) ?_))
  refine wpAny_bind (wpAny_callSpecial?_slot (name := Str.ofString "__setitem__") hT slot_list_setitem (wpAny_call_entry slot_list_setitem hT entry_list_setitem ?_ (args_list_setitem _ _ _)))
  show wpAny _ _ (Builtin.List.listSubscript? (.int k t) >>= _) _ _ s
  refine wpAny_bind (wpAny_listSubscript_int (fitsIndex_of h0 hfit) ?_)
  clear hfit
  obtain ⟨j, rfl⟩ := Int.eq_ofNat_of_zero_le h0
  have hj : j < items.size := by first | lia | omega
  have hx' : items[j]? = some items[j] := Array.getElem?_eq_getElem hj
  have hnew : IsL (s.heap.update l (Obj.mapSeq (·.setIfInBounds j v))) l (items.setIfInBounds j v) c := by
    have := hl.update (fun xs => xs.setIfInBounds j v)
    simpa using this
  show wpAny _ _ ((seqItemAt l j >>= fun r => pure (r.map (j, ·))) >>= _) _ _ s
  refine wpAny_bind (wpAny_bind (wpAny_seqItemAt hl rfl (wpAny_pure ?_)))
  rw [hx']
  show wpAny _ _ (setSeqItemAt l j v >>= _) _ _ s
  refine wpAny_bind (wpAny_setSeqItemAt hl rfl ?_)
  have fin : Q () { s with heap := s.heap.update l (Obj.mapSeq (·.setIfInBounds j v)) } := hQ _ hnew (Heap.SameBut.update ..)
  first
    | exact wpAny_pure ⟨.none, rfl, wpAny_pure fin⟩
    | exact wpAny_bind (wpAny_pure (wpAny_pure ⟨.none, rfl, wpAny_pure fin⟩))

theorem setSub_ok (S : HS cx H s) {o i v : Value} {Q : HP → Prop} (h : setSubP (abs o) (abs i) (abs v) H Q) :
    wpAny (model cx.prog cx.w) A (setItem o i v) (UP cx s H Q) E s := by
  obtain ⟨a, ho, h⟩ := onR_inv h
  obtain ⟨k, hi, h⟩ := onI_inv h
  have := abs_ref ho; subst this
  obtain ⟨u, rfl⟩ := abs_int hi
  obtain ⟨vs, hvs, h0, hlen, hlt, h⟩ := onHL_inv h
  obtain ⟨items, c, e, m⟩ := S.hr _ _ hvs
  rw [← size_of m] at hlt hlen
  refine setItem_plain e h0 (by first | lia | omega) (by first | lia | omega) fun h' hL sb => ?_
  exact ⟨_, S.change hvs (fun b ob hb q => (sb.2 b hb).trans q) (rep_list hL (by rw [Array.toList_setIfInBounds, List.map_set, m])) s.toks, KE.change hvs (fun b ob hb q => (sb.2 b hb).trans q) s.toks, h⟩
end
end Mine
end

section
namespace Mine
open PySem PySem.W PyProof.Rows

noncomputable abbrev FE (es : List DictEntry) (fs : List (Str × V)) : Prop := es.map (fun e => (keyS e, abs e.val)) = fs.map fun p => (some p.1, p.2)

theorem keyS_is {e : DictEntry} {x y : Str} (h : keyS e = some x) : e.key.isStr y = (x == y) ∧ e.refKey = false := by
  obtain ⟨hs, k, v⟩ := e
  cases k <;> first | (cases h; exact ⟨rfl, rfl⟩) | cases h
theorem fe_cons {e : DictEntry} {es : List DictEntry} {fs : List (Str × V)} (h : FE (e :: es) fs) : ∃ x r, fs = (x, abs e.val) :: r ∧ keyS e = some x ∧ FE es r := by
  cases fs with
  | nil => cases h
  | cons p r =>
    obtain ⟨x, v⟩ := p
    simp only [FE, List.map_cons, List.cons.injEq, Prod.mk.injEq] at h
    obtain ⟨⟨h1, h2⟩, h3⟩ := h
    exact ⟨x, r, by rw [h2], h1, h3⟩
theorem fe_find (x : Str) : ∀ {es : List DictEntry} {fs : List (Str × V)}, FE es fs → (es.find? (·.key.isStr x)).map (fun e => abs e.val) = fs.lookup x ∧ es.any (·.refKey) = false
  | [], [], _ => ⟨rfl, rfl⟩
  | [], _ :: _, h => by cases h
  | e :: es, fs, h => by
    obtain ⟨y, r, rfl, h1, h2⟩ := fe_cons h
    obtain ⟨a, b⟩ := fe_find x h2
    obtain ⟨c, d⟩ := keyS_is (y := x) h1
    rw [List.find?_cons, List.any_cons, List.lookup_cons, c, d, b, show (x == y) = (y == x) from Bool.beq_comm]
    cases (y == x)
    · exact ⟨a, rfl⟩
    · exact ⟨rfl, rfl⟩
theorem fe_put (x : Str) (hs : Int) (t : Tok) (w : Value) : ∀ {es : List DictEntry} {fs : List (Str × V)}, FE es fs → FE (putL x hs (.str x t) w es) (putF x (abs w) fs)
  | [], [], _ => rfl
  | [], _ :: _, h => by cases h
  | e :: es, fs, h => by
    obtain ⟨y, r, rfl, h1, h2⟩ := fe_cons h
    have ih := fe_put x hs t w h2
    obtain ⟨c, d⟩ := keyS_is (y := x) h1
    unfold putL putF
    rw [c]
    cases q : (y == x)
    · simp only [Bool.false_eq_true, if_false, FE, List.map_cons, h1]
      rw [show List.map (fun e => (keyS e, abs e.val)) (putL x hs (.str x t) w es) = _ from ih]
    · simp only [if_true, FE, List.map_cons]
      rw [show List.map (fun e => (keyS e, abs e.val)) es = _ from h2]
      rw [show keyS ⟨e.hash, e.key, w⟩ = some y from h1]
theorem putL_len (x : Str) (hs : Int) (k w : Value) : ∀ es : List DictEntry, (putL x hs k w es).length ≤ es.length + 1
  | [] => Nat.le_refl _
  | e :: es => by
    unfold putL
    split
    · exact Nat.le_succ _
    · exact Nat.succ_le_succ (putL_len x hs k w es)

noncomputable def attrIn (K : Frag) (C : Addr) (x : Str) : Bool := plainGet K C x && (hasDictIn K C && (findIn K (.ref C) x == some none && (findIn K (.ref C) "__setattr__" == some (some (.builtin "object.__setattr__")) && plainOver K C)))
noncomputable def methIn (K : Frag) (C : Addr) (x : Str) (f : Addr) : Bool := plainGet K C x && (findIn K (.ref C) x == some (some (.ref f)) && (isFn K (.ref f) && keepIn K (.ref f)))
noncomputable def mkIn (K : Frag) (C f : Addr) : Bool := makesIn K C && (findIn K (.ref C) "__init__" == some (some (.ref f)) && (isFn K (.ref f) && keepIn K (.ref C)))
theorem band {a b : Bool} (h : (a && b) = true) : a = true ∧ b = true := by cases a <;> cases b <;> first | exact ⟨rfl, rfl⟩ | cases h

section
variable {cx : Cx} {K : Frag} {H : HP} {s : Shared} {A : Around} {E : Value → Shared → Prop} {n : Nat} {C : Addr} {x : Str}

theorem handed_abs {w : Value} (h : abs w ≠ .other) : handedIn w = true := by
  cases w <;> first | rfl | exact absurd rfl h
theorem inst_at (S : HS cx H s) {a dx : Addr} {fs : List (Str × V)} (h1 : H a = some (.inst C dx)) (h2 : H dx = some (.flds fs)) :
    ∃ es n, s.heap.get? dx = some (dictOf es n) ∧ FE es fs ∧ InstAt s.heap a (instObj C dx) C (some (dictOf es n)) := by
  obtain ⟨es, k, e, m⟩ := S.hr _ _ h2
  exact ⟨es, k, e, m, S.hr _ _ h1, rfl, rfl, e⟩
theorem attr_ok (X : K.In cx.base) (hT : attrIn K C x = true) (S : HS cx H s) {o : Value} {Q : V → HP → Prop} (h : attrP C (abs o) x H Q) : wpAny (model cx.prog cx.w) A (getAttr o x true) (EP cx s H Q) E s := by
  obtain ⟨a, ha, h⟩ := onR_inv h
  have := abs_ref ha; subst this
  obtain ⟨dx, hi, h⟩ := onIn_inv h
  obtain ⟨fs, hf, h⟩ := onFl_inv h
  obtain ⟨v, hv, hne, hq⟩ := onO_inv h
  obtain ⟨es, k, e, m, I⟩ := inst_at S hi hf
  obtain ⟨h1, h2⟩ := band hT
  obtain ⟨h2, h3⟩ := band h2
  obtain ⟨h3, h4⟩ := band h3
  obtain ⟨f1, f2⟩ := fe_find x m
  rw [hv] at f1
  obtain ⟨en, f3, f4⟩ := Option.map_eq_some_iff.mp f1
  refine get_value (v := en.val) (X.keeps S.ext) I (plainGet_of h1).1 (findObj_own (attr := none) h2 (beq_iff_eq.mp h3) rfl ?_) (handed_abs (by rw [f4]; exact hne)) (ep_same S _ (by rw [f4]; exact hq))
  rw [lookIn_dict]
  unfold W.getL
  rw [f3]
theorem meth_ok (X : K.In cx.base) {f : Addr} (hT : methIn K C x f = true) (S : HS cx H s) {o : Value} {pl : Sem Bool} (h : instP C (abs o) x H) {Q : Value × List Value → Shared → Prop} (q : Q (.ref f, [o]) s) :
    wpAny (model cx.prog cx.w) A (getMethod o x pl) Q E s := by
  obtain ⟨a, ha, h⟩ := onR_inv h
  have := abs_ref ha; subst this
  obtain ⟨dx, hi, h⟩ := onIn_inv h
  obtain ⟨fs, hf, h⟩ := onFl_inv h
  obtain ⟨es, k, e, m, I⟩ := inst_at S hi hf
  obtain ⟨h1, h2⟩ := band hT
  obtain ⟨h2, h3⟩ := band h2
  obtain ⟨h3, h4⟩ := band h3
  obtain ⟨f1, f2⟩ := fe_find x m
  rw [h] at f1
  refine method_fn (X.keeps S.ext) I (plainGet_of h1).1 (plainGet_of h1).2 (beq_iff_eq.mp h2) (beq_iff_eq.mp h3) ?_ q
  show (lookIn x (dictOf es k)).map _ = _
  rw [lookIn_dict]
  unfold W.getL
  rw [Option.map_eq_none_iff.mp f1, f2]
  rfl
theorem setAttr_ok (X : K.In cx.base) (hT : attrIn K C x = true) (S : HS cx H s) {o v : Value} {Q : HP → Prop} (h : setAttrP C (abs o) x (abs v) H Q) : wpAny (model cx.prog cx.w) A (setAttr o x v) (UP cx s H Q) E s := by
  obtain ⟨a, ha, h⟩ := onR_inv h
  have := abs_ref ha; subst this
  obtain ⟨dx, hi, h⟩ := onIn_inv h
  obtain ⟨fs, hf, hlen, h⟩ := onFl_inv h
  obtain ⟨es, k, e, m, I⟩ := inst_at S hi hf
  obtain ⟨h1, h2⟩ := band hT
  obtain ⟨h2, h3⟩ := band h2
  obtain ⟨h3, h4⟩ := band h3
  obtain ⟨h4, h5⟩ := band h4
  have X' := X.keeps S.ext
  have hel : es.length < 100 := by have := congrArg List.length m; rw [List.length_map, List.length_map] at this; rw [this]; exact hlen
  refine set_plain X' I (beq_iff_eq.mp h4) (osa_open (s := { s with toks := s.toks + 1 }) X' I h5 (r := none) ?_ fun b => ?_)
  · unfold takerIn; rw [beq_iff_eq.mp h3]; rfl
  obtain ⟨cd, hc, hd⟩ := any_some h2
  have D' := Heap.get?_update_self (Obj.putName x (PyData.keyHash cx.w.params x) (.str x (s.toks + 1)) v) e (by rw [putName_dict]; rfl)
  rw [putName_dict] at D'
  dsimp only
  refine wpAny_bind (wpAny_pure (wpAny_bind (wpAny_bind (wpAny_loadPart I.at_ (wpAny_bind ((looks_clsIn X' hc).keeps (h' := s.heap) (fun _ _ e => e) _ _ _ _ (fun _ _ e => e) ?_))))))
  rw [hd]
  refine wpAny_pure (a := some dx) (wpAny_bind (wpAny_pure (wpAny_bind ?_)))
  unfold nsSet
  refine wpAny_bind (wpAny_bind (wpAny_askSetting (wpAny_pure (wpAny_bind (wpAny_mkText (wpAny_bind (wpAny_loadPart e ?_)))))))
  have f2 := (fe_find x m).2
  have c : aRefKeyMayBeTheName x es.toArray = false := by
    rw [aRefKeyMayBeTheName_at, ← Array.any_toList, ← Array.any_toList]
    show (!es.any _ && es.any _) = false
    rw [f2, Bool.and_false]
  dsimp only
  rw [c]
  refine wpAny_updatePart e (wpAny_bind (wpAny_lookBehind D' (pastItsLine_dict (by rw [List.size_toArray, sizeLine_eq]; have := putL_len x (PyData.keyHash cx.w.params x) (.str x (s.toks + 1)) v es; omega)) (wpAny_pure ?_)))
  have sb : ∀ b ob, b ≠ dx → s.heap.get? b = some ob → (s.heap.update dx (Obj.putName x (PyData.keyHash cx.w.params x) (.str x (s.toks + 1)) v)).get? b = some ob := fun b ob hb q => (Heap.get?_update_other _ _ (Ne.symm hb)).trans q
  exact ⟨_, S.change (o' := .flds (putF x (abs v) fs)) hf sb ⟨_, _, D', fe_put x _ _ v m⟩ _, KE.change hf sb _, h⟩
noncomputable def XE (cx : Cx) (E : Value → Shared → Prop) (s : Shared) (H : HP) (Q : V → HP → Prop) : Prop := ∀ (e C T : Addr) (H' : HP) (s' : Shared), HS cx H' s' → KE s H s' H' → ExcIn cx.base s H H' s'.heap e C T → T ≠ e → Q (.exc C) H' → E (.ref e) s'
theorem XE.nx {Q : V → HP → Prop} : XE cx E s H (Mine.nx Q) := fun _ _ _ _ _ _ _ _ _ r => r.elim
theorem ExcIn.from {b : Heap} {s₁ : Shared} {H₁ H' : HP} {h : Heap} {e Ce T : Addr} (k : KE s H s₁ H₁) (x : ExcIn b s₁ H₁ H' h e Ce T) : ExcIn b s H H' h e Ce T :=
  ⟨fun o q q2 => (let ⟨o', e1, _⟩ := k.keep e o q q2 id; x.e0 o' e1 (k.dom e o q q2 id)), fun o q q2 => (let ⟨o', e1, _⟩ := k.keep T o q q2 id; x.t0 o' e1 (k.dom T o q q2 id)), x.e1, x.t1, x.e2, x.t2, x.at_⟩
theorem XE.from {Q : V → HP → Prop} {s₁ : Shared} {H₁ : HP} (X : XE cx E s H Q) (k : KE s H s₁ H₁) : XE cx E s₁ H₁ Q := fun e Ce T H' s' S' k' x n r => X e Ce T H' s' S' (k.trans k') (x.from k) n r
theorem call_ok {q : Bool} (hA : ACall0 A n) (hh : q = false → A.handled = none) (S : HS cx H s) (hf : ∀ l, A.frames = some l → FrL cx.base H s.heap l) {f : Addr} {vs : List Value} {Q : V → HP → Prop} (h : CallY q cx n f (vs.map abs) H Q) (hE : XE cx E s H Q) :
    wpAny (model cx.prog cx.w) A (call (.ref f) vs) (EP cx s H Q) E s := by
  refine wpAny_call (codeAny_mono (h A s vs hA hh S hf rfl) fun r s' hr => ?_)
  rcases hr with ⟨v, H', rfl, a, b, c⟩ | ⟨e, Ce, T, H', rfl, a, b, x, nT, c⟩
  · exact ⟨H', a, b, c⟩
  · exact hE e Ce T H' s' a b x nT c
theorem EP.nx {Q : V → HP → Prop} {v : Value} {s' : Shared} : EP cx s H (Mine.nx Q) v s' → EP cx s H Q v s' := fun ⟨H', a, b, c⟩ => ⟨H', a, b, nx_abs c⟩
theorem mk_ok (CO : cx.OK) (hA : ACall0 A n) (hh : A.handled = none) (hf : ∀ l, A.frames = some l → FrL cx.base H s.heap l) (X : K.In cx.base) {f : Addr} (hT : mkIn K C f = true) (S : HS cx H s) {vs : List Value} {Q : V → HP → Prop} (h : mkX cx n C f (vs.map abs) H Q) (hE : XE cx E s H Q) :
    wpAny (model cx.prog cx.w) A (call (.ref C) vs) (EP cx s H Q) E s := by
  obtain ⟨h1, h2⟩ := band hT
  obtain ⟨h2, h3⟩ := band h2
  obtain ⟨h3, h4⟩ := band h3
  have X' := X.keeps S.ext
  obtain ⟨hn, h⟩ := h
  obtain ⟨hh₀, g, d, t, os⟩ := s
  refine wpAny_call (make_core (makes_of X' h1) (looks_findIn X' (beq_iff_eq.mp h2)) (fun self => bind_fn X' self (beq_iff_eq.mp h3)) (.inl rfl) ?_)
  have k1 : ∀ b o, hh₀.get? b = some o → (hh₀.push emptyDict).get? b = some o := fun b o e => Heap.get?_push_of_some _ e
  have S1 : HS cx (upd H hh₀.objs.size (.flds [])) ⟨hh₀.push emptyDict, g, d, t, os⟩ := S.alloc (o := .flds []) k1 (get_size _) ⟨[], 0, Heap.get?_push_size _ rfl, rfl⟩ t
  have k2 : ∀ b o, (hh₀.push emptyDict).get? b = some o → ((hh₀.push emptyDict).push (instObj C hh₀.objs.size)).get? b = some o := fun b o e => Heap.get?_push_of_some _ e
  have hs : (hh₀.push emptyDict).objs.size = hh₀.objs.size + 1 := Heap.size_push ..
  have hno : (hh₀.push emptyDict).get? (hh₀.objs.size + 1) = none := by rw [← hs]; exact get_size _
  have S2 : HS cx (upd (upd H hh₀.objs.size (.flds [])) (hh₀.objs.size + 1) (.inst C hh₀.objs.size)) ⟨(hh₀.push emptyDict).push (instObj C hh₀.objs.size), g, d, t, os⟩ :=
    S1.alloc k2 hno (by show Heap.get? _ _ = _; rw [← hs]; exact Heap.get?_push_size _ rfl) t
  have K1 : KE ⟨hh₀, g, d, t, os⟩ H ⟨hh₀.push emptyDict, g, d, t, os⟩ (upd H hh₀.objs.size (.flds [])) := KE.alloc k1 (get_size _) t
  have K2 : KE ⟨hh₀.push emptyDict, g, d, t, os⟩ (upd H hh₀.objs.size (.flds [])) ⟨(hh₀.push emptyDict).push (instObj C hh₀.objs.size), g, d, t, os⟩ (upd (upd H hh₀.objs.size (.flds [])) (hh₀.objs.size + 1) (.inst C hh₀.objs.size)) := KE.alloc k2 hno t
  have hu := hA.units
  have hd := hA.depth
  refine codeAny_mono (h hh₀.objs.size (S.fresh CO (get_size _)) (hh₀.objs.size + 1) (S1.fresh CO hno) _ _ (.ref (hh₀.objs.size + 1) :: vs) ⟨by show A.depth + 1 + _ < _; omega, by show A.units + 1 + _ < _; omega, hA.frames, hA.guards⟩ (fun _ => hh) S2 (fun l e => (hf l e).kept (K1.trans K2) fun _ _ _ _ => id) rfl) fun r s' hr => ?_
  rcases hr with ⟨v, H', rfl, a, b, c⟩ | ⟨e, Ce, T, H', rfl, a, b, x, nT, c⟩
  · have c : abs v = .none ∧ Q (.ref (hh₀.objs.size + 1)) H' := by cases v <;> exact c
    refine ⟨(by cases v <;> first | rfl | cases c.1), H', a, K1.trans (K2.trans b), c.2⟩
  · exact hE e Ce T H' s' a (K1.trans (K2.trans b)) (x.from (K1.trans K2)) nT c
end
end Mine
end

section
namespace Mine
open PySem PyProof.Rows PySem.SeqAt

noncomputable def bmV : List Value := [.type "ValueError", .type "Exception", .type "BaseException", .type "object"]
noncomputable def ExcCls (C : Addr) (h : Heap) : Prop := OwnClsQ "" C bmV "ValueError.__new__" (fun _ => some (.ref C)) h
structure Tbl where
  fns : List (Str × Addr)
  bfs : List (Str × BF)
  tys : List (Str × String)
  K : PySem.W.Frag
  ats : List (Addr × Str)
  mts : List (Addr × Str × Addr)
  mks : List (Str × Addr × Addr)
  gis : List (Str × Int)
  exs : List (Str × Addr)
  sups : List (Str × Addr)
  q : Bool

structure Tbl.OK (cx : Cx) (T : Tbl) : Prop where
  fn : ∀ x f, T.fns.lookup x = some f → cx.gl x = some (.ref f) ∧ ∃ o fd, cx.base.get? f = some o ∧ o.data = .func fd
  bf : ∀ x b, T.bfs.lookup x = some b → cx.gl x = some b.val
  ty : ∀ x t, T.tys.lookup x = some t → cx.gl x = some (.type t)
  isi : cx.gl "isinstance" = some (.builtin "isinstance")
  rng : cx.gl "range" = some (.type "range")
  kin : T.K.In cx.base
  at_ : ∀ C x, T.ats.contains (C, x) = true → attrIn T.K C x = true
  mt : ∀ C x f, T.mts.contains (C, x, f) = true → methIn T.K C x f = true
  mkc : ∀ x C f, T.mks.contains (x, C, f) = true → cx.gl x = some (.ref C) ∧ mkIn T.K C f = true
  gi : ∀ x i, T.gis.lookup x = some i → ∃ t, cx.gl x = some (.int i t)
  ex : ∀ x C, T.exs.lookup x = some C → cx.gl x = some (.ref C) ∧ ExcCls C cx.base ∧ C ∈ cx.exs
  su : ∀ x C, T.sups.lookup x = some C → cx.gl x = some (.ref C)
  xc : ∀ C ∈ cx.exs, excIn T.K C = true ∧ PySem.W.mroIn T.K C (.type "ValueError") = some true ∧ (∀ D ∈ cx.exs, PySem.W.mroIn T.K C (.ref D) = some (C == D)) ∧ ∀ x D, T.sups.lookup x = some D → PySem.W.mroIn T.K C (.ref D) = some true ∧ excIn T.K D = true

noncomputable def isGlob (sc : Scope) (x : Str) : Bool := sc.names.lookup x == some .globalImplicit && !(x == ("__debug__" : Str))
noncomputable def plainBase : Expr → Bool
  | .Call .. => false
  | _ => true
noncomputable def relabelS (scope outer : Scope) : Scope :=
  { scope with names := scope.names.map fun (n, k) => if (k == .free && outer.kind == .function && outer.names.lookup n == some .cell) then (n, .cell) else (n, k) }
noncomputable def compNames (scope : Scope) (nm : List (Option Str)) (x : Str) : List (Option Str) :=
  nm.map (fun o => o.filter fun y => scope.names.lookup y == some .free) ++ [some x]
noncomputable def compScopeOk (scope outer : Scope) (x : Str) : Bool :=
  scope.kind == .function && scope.names.lookup x == some .local && outer.kind == .function &&
  scope.names.all fun y => y.2 != .cell && (y.2 != .local || scope.names.lookup y.1 == some .local) && (y.2 != .free || (outer.names.lookup y.1 == some .cell && scope.names.lookup y.1 == some .free))

noncomputable def cN : Const → Bool
  | .none => true
  | _ => false
noncomputable def vConst (e : Expr) (k : Const → Bool) : Bool := match e with
  | .Constant c _ _ => k c
  | _ => false
theorem vConst_inv {e : Expr} {k : Const → Bool} (h : vConst e k = true) : ∃ c n p, e = .Constant c n p ∧ k c = true := by cases e <;> first | exact ⟨_, _, _, rfl, h⟩ | exact (Bool.false_ne_true h).elim
noncomputable def vName (e : Expr) (k : Str → Bool) : Bool := match e with
  | .Name x _ => k x
  | _ => false
theorem vName_inv {e : Expr} {k : Str → Bool} (h : vName e k = true) : ∃ x p, e = .Name x p ∧ k x = true := by cases e <;> first | exact ⟨_, _, rfl, h⟩ | exact (Bool.false_ne_true h).elim
noncomputable def vBin (e : Expr) (k : Expr → Operator → Expr → Bool) : Bool := match e with
  | .BinOp l op r _ => k l op r
  | _ => false
theorem vBin_inv {e : Expr} {k : Expr → Operator → Expr → Bool} (h : vBin e k = true) : ∃ l op r p, e = .BinOp l op r p ∧ k l op r = true := by cases e <;> first | exact ⟨_, _, _, _, rfl, h⟩ | exact (Bool.false_ne_true h).elim
noncomputable def vUn (e : Expr) (k : UnaryOp → Expr → Bool) : Bool := match e with
  | .UnaryOp op a _ => k op a
  | _ => false
theorem vUn_inv {e : Expr} {k : UnaryOp → Expr → Bool} (h : vUn e k = true) : ∃ op a p, e = .UnaryOp op a p ∧ k op a = true := by cases e <;> first | exact ⟨_, _, _, rfl, h⟩ | exact (Bool.false_ne_true h).elim
noncomputable def vCmp (e : Expr) (k : Expr → List CmpOp → List Expr → Bool) : Bool := match e with
  | .Compare l ops cs _ => k l ops cs
  | _ => false
theorem vCmp_inv {e : Expr} {k : Expr → List CmpOp → List Expr → Bool} (h : vCmp e k = true) : ∃ l ops cs p, e = .Compare l ops cs p ∧ k l ops cs = true := by cases e <;> first | exact ⟨_, _, _, _, rfl, h⟩ | exact (Bool.false_ne_true h).elim
noncomputable def vBool (e : Expr) (k : BoolOp → List Expr → Bool) : Bool := match e with
  | .BoolOp op es _ => k op es
  | _ => false
theorem vBool_inv {e : Expr} {k : BoolOp → List Expr → Bool} (h : vBool e k = true) : ∃ op es p, e = .BoolOp op es p ∧ k op es = true := by cases e <;> first | exact ⟨_, _, _, rfl, h⟩ | exact (Bool.false_ne_true h).elim
noncomputable def vCall (e : Expr) (k : Expr → List Expr → List Keyword → Pos → Bool) : Bool := match e with
  | .Call f as ks p => k f as ks p
  | _ => false
theorem vCall_inv {e : Expr} {k : Expr → List Expr → List Keyword → Pos → Bool} (h : vCall e k = true) : ∃ f as ks p, e = .Call f as ks p ∧ k f as ks p = true := by cases e <;> first | exact ⟨_, _, _, _, rfl, h⟩ | exact (Bool.false_ne_true h).elim
noncomputable def vAttr (e : Expr) (k : Expr → Str → Pos → Bool) : Bool := match e with
  | .Attribute o m p => k o m p
  | _ => false
theorem vAttr_inv {e : Expr} {k : Expr → Str → Pos → Bool} (h : vAttr e k = true) : ∃ o m p, e = .Attribute o m p ∧ k o m p = true := by cases e <;> first | exact ⟨_, _, _, rfl, h⟩ | exact (Bool.false_ne_true h).elim
noncomputable def vDict (e : Expr) (k : List (Option Expr) → List Expr → Bool) : Bool := match e with
  | .Dict ks vs _ => k ks vs
  | _ => false
theorem vDict_inv {e : Expr} {k : List (Option Expr) → List Expr → Bool} (h : vDict e k = true) : ∃ ks vs p, e = .Dict ks vs p ∧ k ks vs = true := by cases e <;> first | exact ⟨_, _, _, rfl, h⟩ | exact (Bool.false_ne_true h).elim
noncomputable def vSub (e : Expr) (k : Expr → Expr → Bool) : Bool := match e with
  | .Subscript o i _ => k o i
  | _ => false
theorem vSub_inv {e : Expr} {k : Expr → Expr → Bool} (h : vSub e k = true) : ∃ o i p, e = .Subscript o i p ∧ k o i = true := by cases e <;> first | exact ⟨_, _, _, rfl, h⟩ | exact (Bool.false_ne_true h).elim
noncomputable def vSlice (e : Expr) (k : Option Expr → Option Expr → Option Expr → Bool) : Bool := match e with
  | .Slice a b c _ => k a b c
  | _ => false
theorem vSlice_inv {e : Expr} {k : Option Expr → Option Expr → Option Expr → Bool} (h : vSlice e k = true) : ∃ a b c p, e = .Slice a b c p ∧ k a b c = true := by cases e <;> first | exact ⟨_, _, _, _, rfl, h⟩ | exact (Bool.false_ne_true h).elim
noncomputable def vList (e : Expr) (k : List Expr → Bool) : Bool := match e with
  | .List es _ => k es
  | _ => false
theorem vList_inv {e : Expr} {k : List Expr → Bool} (h : vList e k = true) : ∃ es p, e = .List es p ∧ k es = true := by cases e <;> first | exact ⟨_, _, rfl, h⟩ | exact (Bool.false_ne_true h).elim
noncomputable def vTup (e : Expr) (k : List Expr → Bool) : Bool := match e with
  | .Tuple es _ _ => k es
  | _ => false
theorem vTup_inv {e : Expr} {k : List Expr → Bool} (h : vTup e k = true) : ∃ es n p, e = .Tuple es n p ∧ k es = true := by cases e <;> first | exact ⟨_, _, _, rfl, h⟩ | exact (Bool.false_ne_true h).elim
noncomputable def vComp (e : Expr) (k : Expr → List Comprehension → Scope → Bool) : Bool := match e with
  | .ListComp elt gs sc _ => k elt gs sc
  | _ => false
theorem vComp_inv {e : Expr} {k : Expr → List Comprehension → Scope → Bool} (h : vComp e k = true) : ∃ elt gs sc p, e = .ListComp elt gs sc p ∧ k elt gs sc = true := by cases e <;> first | exact ⟨_, _, _, _, rfl, h⟩ | exact (Bool.false_ne_true h).elim

noncomputable def vIfE (e : Expr) (k : Expr → Expr → Expr → Bool) : Bool := match e with
  | .IfExp c a b _ => k c a b
  | _ => false
theorem vIfE_inv {e : Expr} {k : Expr → Expr → Expr → Bool} (h : vIfE e k = true) : ∃ c a b p, e = .IfExp c a b p ∧ k c a b = true := by cases e <;> first | exact ⟨_, _, _, _, rfl, h⟩ | exact (Bool.false_ne_true h).elim

theorem and2 {a b : Bool} (h : (a && b) = true) : a = true ∧ b = true := by cases a <;> cases b <;> first | exact ⟨rfl, rfl⟩ | cases h

noncomputable def nameCall (e : Expr) (k : Str → List Expr → Bool) : Bool := vCall e fun f as ks _ => ks.isEmpty && vName f fun x => k x as
theorem nil_of {α : Type} {l : List α} (h : l.isEmpty = true) : l = [] := List.isEmpty_iff.mp h
theorem nameCall_inv {e : Expr} {k : Str → List Expr → Bool} (h : nameCall e k = true) : ∃ x np as p, e = .Call (.Name x np) as [] p ∧ k x as = true := by
  obtain ⟨f, as, ks, p, e1, h1⟩ := vCall_inv h
  obtain ⟨hk, h2⟩ := and2 h1
  obtain ⟨x, np, e2, h3⟩ := vName_inv h2
  rw [nil_of hk, e2] at e1
  exact ⟨x, np, as, p, e1, h3⟩
noncomputable def oneGen (gs : List Comprehension) (k : Expr → Expr → List Expr → Int → Bool) : Bool := match gs with
  | [⟨tg, iter, ifs, a⟩] => k tg iter ifs a
  | _ => false
theorem oneGen_inv {gs : List Comprehension} {k : Expr → Expr → List Expr → Int → Bool} (h : oneGen gs k = true) : ∃ tg iter ifs a, gs = [⟨tg, iter, ifs, a⟩] ∧ k tg iter ifs a = true := match gs, h with
  | [⟨tg, iter, ifs, a⟩], h => ⟨tg, iter, ifs, a, rfl, h⟩
noncomputable def oneComp (e : Expr) (sc : Scope) (k : Expr → Str → Expr → List Expr → Scope → Bool) : Bool := vComp e fun elt gs scope => oneGen gs fun tg iter ifs a => a == 0 && vName tg fun x => compScopeOk scope sc x && k elt x iter ifs scope
theorem oneComp_inv {e : Expr} {sc : Scope} {k : Expr → Str → Expr → List Expr → Scope → Bool} (h : oneComp e sc k = true) :
    ∃ elt x px iter ifs scope p, e = .ListComp elt [⟨.Name x px, iter, ifs, 0⟩] scope p ∧ compScopeOk scope sc x = true ∧ k elt x iter ifs scope = true := by
  obtain ⟨elt, gs, scope, p, e1, h1⟩ := vComp_inv h
  obtain ⟨tg, iter, ifs, a, e2, h2⟩ := oneGen_inv h1
  obtain ⟨ha, h3⟩ := and2 h2
  obtain ⟨x, px, e3, h4⟩ := vName_inv h3
  obtain ⟨hs, h5⟩ := and2 h4
  rw [e3, eq_of_beq ha] at e2
  rw [e2] at e1
  exact ⟨elt, x, px, iter, ifs, scope, p, e1, hs, h5⟩

noncomputable def l1 {α : Type} (l : List α) (k : α → Bool) : Bool := match l with
  | [a] => k a
  | _ => false
theorem l1_inv {α : Type} {l : List α} {k : α → Bool} (h : l1 l k = true) : ∃ a, l = [a] ∧ k a = true := match l, h with
  | [a], h => ⟨a, rfl, h⟩
noncomputable def l2 {α : Type} (l : List α) (k : α → α → Bool) : Bool := match l with
  | [a, b] => k a b
  | _ => false
theorem l2_inv {α : Type} {l : List α} {k : α → α → Bool} (h : l2 l k = true) : ∃ a b, l = [a, b] ∧ k a b = true := match l, h with
  | [a, b], h => ⟨a, b, rfl, h⟩
theorem or2 {a b : Bool} (h : (a || b) = true) : a = true ∨ b = true := by cases a <;> cases b <;> first | exact .inl rfl | exact .inr rfl | cases h

noncomputable def isNoneM : ME → Bool
  | .cnone => true
  | _ => false
noncomputable def isTrueM : ME → Bool
  | .cbool b => b
  | _ => false
noncomputable def isZeroM : ME → Bool
  | .cint i => i == 0
  | _ => false
noncomputable def cI (c : Const) (i : Int) : Bool := match c with
  | .int j => i == j
  | _ => false
noncomputable def cB (c : Const) (b : Bool) : Bool := match c with
  | .bool d => b == d
  | _ => false
noncomputable def cS (c : Const) (x : Str) : Bool := match c with
  | .str y => x == y
  | _ => false
noncomputable def so {α : Type} (o : Option α) (k : α → Bool) (n : Bool) : Bool := match o with
  | some x => k x
  | none => n
mutual
noncomputable def chkE (T : Tbl) : ME → Scope → List (Option Str) → Expr → Bool
  | .cint i, _, _, e => vConst e fun c => cI c i
  | .cbool b, _, _, e => vConst e fun c => cB c b
  | .cnone, _, _, e => vConst e cN
  | .cstr x, _, _, e => vConst e fun c => cS c x
  | .loc i, _, nm, e => vName e fun x => !(x == ("__debug__" : Str)) && nm[i]? == some (some x)
  | .bin op l r, sc, nm, e => vBin e fun a o b => o == op && (chkE T l sc nm a && chkE T r sc nm b)
  | .not m, sc, nm, e => vUn e fun o a => o == .Not && chkE T m sc nm a
  | .cmp l op r, sc, nm, e => vCmp e fun a ops cs => l1 ops fun o => l1 cs fun b => o == op && (chkE T l sc nm a && chkE T r sc nm b)
  | .bop op ms, sc, nm, e => vBool e fun o es => o == op && chkEs T ms sc nm es
  | .callf f ms, sc, nm, e => !T.q && nameCall e fun x as => isGlob sc x && (T.fns.lookup x == some f && ((!as.isEmpty || PySem.W.keepIn T.K (.ref f)) && chkEs T ms sc nm as))
  | .callb b ms, sc, nm, e => (b.quiet || !T.q) && nameCall e fun x as => isGlob sc x && (T.bfs.lookup x == some b && (!as.isEmpty && chkEs T ms sc nm as))
  | .isi m t, sc, nm, e => nameCall e fun x as => isGlob sc x && (x == ("isinstance" : Str) && l2 as fun a b => chkE T m sc nm a && vName b fun y => isGlob sc y && T.tys.lookup y == some t)
  | .app o m, sc, nm, e => vCall e fun f as ks p => ks.isEmpty && vAttr f fun b x ap =>
      (ap.endLine == p.line && plainBase b) && (x == ("append" : Str) && (chkE T o sc nm b && l1 as fun a => chkE T m sc nm a))
  | .sub o i, sc, nm, e => vSub e fun a b => chkE T o sc nm a && chkE T i sc nm b
  | .slice o lo hi, sc, nm, e => vSub e fun a b => chkE T o sc nm a && vSlice b fun x y z => z.isNone && (so x (fun x => chkE T lo sc nm x) (isNoneM lo) && so y (fun y => chkE T hi sc nm y) (isNoneM hi))
  | .list ms, sc, nm, e => vList e fun es => chkEs T ms sc nm es
  | .tup ms, sc, nm, e => vTup e fun es => chkEs T ms sc nm es
  | .comp el it c, sc, nm, e => !T.q && oneComp e sc fun elt x iter ifs scope => chkE T el (relabelS scope sc) (compNames scope nm x) elt && (chkE T it sc nm iter &&
      (ifs.isEmpty && isTrueM c || l1 ifs fun i => chkE T c (relabelS scope sc) (compNames scope nm x) i))
  | .compR el a b c, sc, nm, e => !T.q && oneComp e sc fun elt x iter ifs scope => chkE T el (relabelS scope sc) (compNames scope nm x) elt && ((nameCall iter fun y as => isGlob sc y && (y == ("range" : Str) &&
      ((l1 as fun q => isZeroM a && chkE T b sc nm q) || l2 as fun p q => chkE T a sc nm p && chkE T b sc nm q))) &&
      (ifs.isEmpty && isTrueM c || l1 ifs fun i => chkE T c (relabelS scope sc) (compNames scope nm x) i))
  | .neg m, sc, nm, e => vUn e fun o a => o == .USub && chkE T m sc nm a
  | .cmp2 l o1 m o2 r, sc, nm, e => vCmp e fun a ops cs => l2 ops fun p q => l2 cs fun b c => (p == o1 && q == o2) && (chkE T l sc nm a && (chkE T m sc nm b && chkE T r sc nm c))
  | .gint i, sc, _, e => vName e fun x => isGlob sc x && T.gis.lookup x == some i
  | .attr C i x, _, nm, e => vAttr e fun o y _ => y == x && (T.ats.contains (C, x) && vName o fun z => !(z == ("__debug__" : Str)) && nm[i]? == some (some z))
  | .callm C x f i ms, sc, nm, e => !T.q && vCall e fun g as ks p => ks.isEmpty && vAttr g fun o y ap => (ap.endLine == p.line && y == x) && (T.mts.contains (C, x, f) && ((vName o fun z => !(z == ("__debug__" : Str)) && nm[i]? == some (some z)) && (decide (as.length < 20) && chkEs T ms sc nm as)))
  | .mk C f ms, sc, nm, e => !T.q && nameCall e fun x as => isGlob sc x && (T.mks.contains (x, C, f) && (!as.isEmpty && chkEs T ms sc nm as))
  | .isx m D sup, sc, nm, e => nameCall e fun x as => isGlob sc x && (x == ("isinstance" : Str) && l2 as fun a b => chkE T m sc nm a && vName b fun y => isGlob sc y && (if sup then T.sups else T.exs).lookup y == some D)
  | .callq f ms, sc, nm, e => nameCall e fun x as => isGlob sc x && (T.fns.lookup x == some f && (!as.isEmpty && chkEs T ms sc nm as))
noncomputable def chkEs (T : Tbl) : MEs → Scope → List (Option Str) → List Expr → Bool
  | .nil, _, _, es => es.isEmpty
  | .cons m ms, sc, nm, es => match es with
    | e :: r => chkE T m sc nm e && chkEs T ms sc nm r
    | [] => false
end
theorem chkEs_cons {T : Tbl} {m : ME} {ms : MEs} {sc : Scope} {nm : List (Option Str)} {es : List Expr} (h : chkEs T (.cons m ms) sc nm es = true) : ∃ e r, es = e :: r ∧ chkE T m sc nm e = true ∧ chkEs T ms sc nm r = true := by
  cases es with
  | nil => cases h
  | cons e r => exact ⟨e, r, rfl, and2 h⟩
noncomputable def kindOK (e : Expr) : Bool := match e with
  | .Constant .. => true
  | .Name .. => true
  | .BinOp .. => true
  | .UnaryOp .. => true
  | .Compare .. => true
  | .BoolOp .. => true
  | .Call .. => true
  | .Subscript .. => true
  | .List .. => true
  | .Tuple .. => true
  | .ListComp .. => true
  | .IfExp .. => true
  | .Attribute .. => true
  | .Dict .. => true
  | _ => false
end Mine
end

section
namespace Mine
open PySem PyProof.Rows PySem.SeqAt

noncomputable def BP (cx : Cx) (s : Shared) (H : HP) (Q : Bool → HP → Prop) : Bool → Shared → Prop := fun b s' => ∃ H', HS cx H' s' ∧ KE s H s' H' ∧ Q b H'
noncomputable def LP (cx : Cx) (s : Shared) (H : HP) (Q : List V → HP → Prop) : List Value → Shared → Prop := fun vs s' => ∃ H', HS cx H' s' ∧ KE s H s' H' ∧ Q (vs.map abs) H'
theorem bp_from {cx : Cx} {s s₁ : Shared} {H H₁ : HP} {Q : Bool → HP → Prop} {M : Model} {A : Around} {E : Value → Shared → Prop} {t : Sem Bool} (k : KE s H s₁ H₁) (h : wpAny M A t (BP cx s₁ H₁ Q) E s₁) : wpAny M A t (BP cx s H Q) E s₁ :=
  wpAny_mono h (fun _ _ ⟨H', a, b, c⟩ => ⟨H', a, k.trans b, c⟩) fun _ _ e => e
theorem ep_then {cx : Cx} {s : Shared} {H : HP} {Q : V → HP → Prop} {Q' : Value → Shared → Prop} {M : Model} {A : Around} {E : Value → Shared → Prop} {t : Sem Value} (h : wpAny M A t (EP cx s H Q) E s)
    (f : ∀ v s₁ H₁, HS cx H₁ s₁ → KE s H s₁ H₁ → Q (abs v) H₁ → Q' v s₁) : wpAny M A t Q' E s := wpAny_mono h (fun v s₁ ⟨H₁, a, b, c⟩ => f v s₁ H₁ a b c) fun _ _ e => e

theorem starEach_of {e : Expr} (h : kindOK e = true) (r : List Expr) (env : Env) : starEach (e :: r) env = (false, eval e env) :: starEach r env := by
  cases e <;> first | rfl | exact (Bool.false_ne_true h).elim
theorem marks_of {e : Expr} (h : kindOK e = true) (op : CmpOp) : behindInMarks op e = false := by
  cases e <;> first | rfl | exact (Bool.false_ne_true h).elim
theorem folded_of {e : Expr} (h : kindOK e = true) (env : Env) (x : Value) : foldedSetIterable e env x = pure x := by
  cases e <;> first | rfl | exact (Bool.false_ne_true h).elim
theorem notSlice_of {e : Expr} (h : kindOK e = true) : notSlice e = true := by
  cases e <;> first | rfl | exact (Bool.false_ne_true h).elim
theorem base_of {o : Expr} (h : plainBase o = true) (x : Str) (env : Env) (t : Sem Value) : attributeBase o x env t = t := by
  cases o <;> first | rfl | exact (Bool.false_ne_true h).elim
theorem truth_inv {v : Value} {Q : Bool → Prop} (h : onB (abs v) Q) : ∃ b, v = .bool b ∧ Q b := by
  cases v <;> first | exact ⟨_, rfl, h⟩ | exact False.elim h

section
variable {cx : Cx} {T : Tbl} {fm : Fm} {H : HP} {μ : List V} {s : Shared} {A : Around} {E : Value → Shared → Prop} {n : Nat}

theorem glob_name (C : cx.OK) (W : fm.OK cx A) (S : HS cx H s) {M : Model} {x : Str} {pos : Pos} {v : Value} (hx : isGlob fm.env.scope x = true) (hg : cx.gl x = some v) {Q : Value → Shared → Prop} (h : Q v s) :
    wpAny M A (eval (.Name x pos) fm.env) Q E s := by
  obtain ⟨h1, h2⟩ := and2 hx
  refine Calls.Name_function_global W.kind (eq_of_beq h1) ?_ (by simpa using h2)
  rcases C.glob x v hg with ⟨mg, g1, g2⟩ | ⟨mg, mb, g1, g2, g3, g4⟩
  · exact Calls.loadGlobal_global (by rw [W.globals]; exact g1.keeps S.ext) g2 h
  · exact Calls.loadGlobal_builtin (by rw [W.globals]; exact g1.keeps S.ext) g2 (by rw [W.builtins]; exact g3.keeps S.ext) g4 h

theorem noStar (env : Env) (pos : Pos) : ∀ {es : List Expr}, (∀ e ∈ es, kindOK e = true) → (backTo pos (starEach es env)).any (·.1) = false ∧ (backTo pos (starEach es env)).all (fun x => !x.1) = true
  | [], _ => ⟨rfl, rfl⟩
  | e :: r, h => by
    rw [starEach_of (h e List.mem_cons_self)]
    exact noStar env pos fun e he => h e (List.mem_cons_of_mem _ he)
theorem compare2 {M : Model} {env : Env} {l m r : Expr} {o1 o2 : CmpOp} {pos : Pos} {Q : Value → Shared → Prop} (hm : behindInMarks o2 r = false)
    (h : wpAny M A (eval l env) (fun a s₁ => wpAny M A (eval m env) (fun b s₂ => wpAny M A (compareOp o1 a b) (fun c s₃ => wpAny M A (truthy c) (fun t s₄ =>
      if t then wpAny M A (eval r env) (fun d s₅ => wpAny M A (compareOp o2 b d) Q E s₅) E s₄ else Q c s₄) E s₃) E s₂) E s₁) E s) :
    wpAny M A (eval (.Compare l [o1, o2] [m, r] pos) env) Q E s := by
  show wpAny M A (do compareChain pos (← eval l env) [o1, o2] (markedEach [o1, o2] [m, r] [eval m env, eval r env])) Q E s
  rw [markedEach_of_false _ _ _ (show lastMarks [o1, o2] [m, r] = false from hm)]
  refine wpAny_bind (wpAny_mono h (fun a s₁ h₁ => ?_) fun _ _ e => e)
  unfold compareChain
  refine wpAny_bind (wpAny_holding (wpAny_mono h₁ (fun b s₂ h₂ => ?_) fun _ _ e => e))
  refine wpAny_bind (wpAny_standAt (wpAny_bind (wpAny_holding (wpAny_mono h₂ (fun c s₃ h₃ => ?_) fun _ _ e => e))))
  refine wpAny_bind (wpAny_release (wpAny_bind (wpAny_holding (wpAny_mono h₃ (fun t s₄ h₄ => ?_) fun _ _ e => e))))
  cases t with
  | true =>
    simp only [if_true] at h₄ ⊢
    unfold compareChain
    refine wpAny_bind (wpAny_holding (wpAny_mono h₄ (fun d s₅ h₅ => wpAny_bind (wpAny_standAt ?_)) fun _ _ e => e))
    intro Γ p hΓ
    rw [Sem.wp_operate]; exact h₅ Γ p hΓ
  | false => exact wpAny_pure h₄

theorem testChain2 {M : Model} {env : Env} {l m r : Expr} {o1 o2 : CmpOp} {pos : Pos} {whole : Sem Value} {Q : Bool → Shared → Prop} (hm : behindInMarks o2 r = false)
    (h : wpAny M A (eval l env) (fun a s₁ => wpAny M A (eval m env) (fun b s₂ => wpAny M A (compareOp o1 a b) (fun c s₃ => wpAny M A (truthy c) (fun t s₄ =>
      if t then wpAny M A (eval r env) (fun d s₅ => wpAny M A (compareOp o2 b d) (fun f s₆ => wpAny M A (truthy f) Q E s₆) E s₅) E s₄ else Q false s₄) E s₃) E s₂) E s₁) E s) :
    wpAny M A (isTrue (.Compare l [o1, o2] [m, r] pos) env whole) Q E s := by
  refine isTrue_chain (wpAny_mono h (fun a s₁ h₁ => ?_) fun _ _ e => e) hm
  unfold testChain
  refine wpAny_bind (wpAny_holding (wpAny_mono h₁ (fun b s₂ h₂ => ?_) fun _ _ e => e))
  refine wpAny_bind (wpAny_standAt (wpAny_bind (wpAny_holding (wpAny_mono h₂ (fun c s₃ h₃ => ?_) fun _ _ e => e))))
  refine wpAny_bind (wpAny_release (wpAny_bind (wpAny_holding (wpAny_mono h₃ (fun t s₄ h₄ => ?_) fun _ _ e => e))))
  cases t with
  | true =>
    simp only [if_true] at h₄ ⊢
    show wpAny M A (testChain pos b [o2] [eval r env]) Q E s₄
    unfold testChain
    refine wpAny_bind (wpAny_holding (wpAny_mono h₄ (fun d s₅ h₅ => wpAny_bind (wpAny_standAt (wpAny_bind ?_))) fun _ _ e => e))
    intro Γ p hΓ
    rw [Sem.wp_operate]
    exact Sem.wp_mono _ Γ _ (fun f p' s₆ h₆ => wpAny_holding h₆) (fun _ _ _ e => e) _ _ (h₅ Γ p hΓ)
  | false => exact wpAny_pure h₄
theorem listAt_inv {o : V} {H : HP} (h : listAt o H) : ∃ a vs, o = .ref a ∧ H a = some (.list vs) := by
  obtain ⟨a, e, h⟩ := onR_inv h
  obtain ⟨vs, e2, _⟩ := onHL_inv h
  exact ⟨a, vs, e, e2⟩
theorem app_ok {H : HP} {s : Shared} {a : Addr} {pos : Pos} {x : Sem Value} {Q : V → HP → Prop}
    (h : wpAny (model cx.prog cx.w) A x (EP cx s H fun v H => appP (.ref a) v H Q) E s) :
    wpAny (model cx.prog cx.w) A (callWith pos (.builtin "list.append") [.ref a] [(false, x)] []) (EP cx s H Q) E s := by
  refine P.append_list (ep_then h fun v s₁ H₁ S k₁ h => ?_)
  obtain ⟨vs, hvs, h⟩ := onHL_inv h
  obtain ⟨items, k, e, mm⟩ := S.hr _ _ hvs
  refine ⟨items, k, by rw [size_of mm, sizeLine_eq]; exact h.1, e, ?_⟩
  have e' := IsL.update e (fun xs => xs.push v)
  have sb : ∀ b ob, b ≠ a → s₁.heap.get? b = some ob → (s₁.heap.update a (Obj.mapSeq fun xs => xs.push v)).get? b = some ob := fun b ob hb q => (Heap.get?_update_other _ _ (Ne.symm hb)).trans q
  exact ⟨_, S.change hvs sb (rep_list e' (by rw [Array.toList_push, List.map_append, mm]; rfl)) s₁.toks, k₁.trans (KE.change hvs sb s₁.toks), h.2⟩
theorem truth_ok {M : Model} {H : HP} {s : Shared} {Q : Bool → HP → Prop} {v : Value} {s' : Shared} (x : EP cx s H (fun v H => onB v fun b => Q b H) v s') : wpAny M A (truthy v) (BP cx s H Q) E s' := by
  obtain ⟨H₁, S₁, k₁, h₁⟩ := x
  obtain ⟨b, rfl, h₁⟩ := truth_inv h₁
  exact wpAny_truthy_bool ⟨H₁, S₁, k₁, h₁⟩
end
end Mine
end

section
namespace Mine
open PySem PyProof.Rows PySem.SeqAt

noncomputable def JE (cx : Cx) (A : Around) (n : Nat) (m : ME) (fm : Fm) (e : Expr) : Prop :=
  ∀ (E : Value → Shared → Prop) (H : HP) (μ : List V) (s : Shared) (Q : V → HP → Prop), SR cx fm H μ s → mwpE cx n m μ H Q → wpAny (model cx.prog cx.w) A (eval e fm.env) (EP cx s H Q) E s
noncomputable def JT (cx : Cx) (A : Around) (n : Nat) (m : ME) (fm : Fm) (e : Expr) : Prop :=
  ∀ (E : Value → Shared → Prop) (H : HP) (μ : List V) (s : Shared) (Q : Bool → HP → Prop), SR cx fm H μ s → mwpE cx n m μ H (fun v H => onB v fun b => Q b H) → wpAny (model cx.prog cx.w) A (isTrue e fm.env (eval e fm.env)) (BP cx s H Q) E s
noncomputable def JL (cx : Cx) (A : Around) (n : Nat) (ms : MEs) (fm : Fm) (es : List Expr) : Prop :=
  ∀ (E : Value → Shared → Prop) (pos : Pos) (H : HP) (μ : List V) (s : Shared) (Q : List V → HP → Prop), SR cx fm H μ s → mwpEs cx n ms μ H Q → wpAny (model cx.prog cx.w) A (spliced (backTo pos (starEach es fm.env))) (LP cx s H Q) E s
noncomputable def JB (cx : Cx) (A : Around) (n : Nat) (op : BoolOp) (ms : MEs) (fm : Fm) (es : List Expr) : Prop :=
  ∀ (E : Value → Shared → Prop) (pos : Pos) (H : HP) (μ : List V) (s : Shared) (Q : V → HP → Prop), SR cx fm H μ s → mwpB cx n op ms μ H Q → wpAny (model cx.prog cx.w) A (boolOp pos op (evalEach es fm.env)) (EP cx s H Q) E s
noncomputable def JU (cx : Cx) (A : Around) (n : Nat) (op : BoolOp) (ms : MEs) (fm : Fm) (es : List Expr) : Prop :=
  ∀ (E : Value → Shared → Prop) (H : HP) (μ : List V) (s : Shared) (Q : Bool → HP → Prop), SR cx fm H μ s → mwpB cx n op ms μ H (fun v H => onB v fun b => Q b H) → wpAny (model cx.prog cx.w) A (allTrue op es fm.env) (BP cx s H Q) E s

section
variable {cx : Cx} {T : Tbl} {A : Around} {n : Nat} {fm : Fm} {E : Value → Shared → Prop} {H : HP} {μ : List V} {s : Shared} {Q : V → HP → Prop}

theorem j_int {i : Int} {c : Const} {k : Nat} {p : Pos} (h : cI c i = true) : JE cx A n (.cint i) fm (.Constant c k p) := by
  intro E H μ s Q S hq
  cases c with
  | int j => have := eq_of_beq (show (i == j) = true from h); subst this; exact wpAny_Constant_int (ep_same S.toHS _ hq)
  | _ => exact (Bool.false_ne_true h).elim
theorem j_none {c : Const} {k : Nat} {p : Pos} (h : cN c = true) : JE cx A n .cnone fm (.Constant c k p) := by
  intro E H μ s Q S hq
  cases c with
  | none => exact wpAny_Constant_none (ep_here S.toHS hq)
  | _ => exact (Bool.false_ne_true h).elim
theorem j_bool {b : Bool} {c : Const} {k : Nat} {p : Pos} (h : cB c b = true) : JE cx A n (.cbool b) fm (.Constant c k p) := by
  intro E H μ s Q S hq
  cases c with
  | bool j => have := eq_of_beq (show (b == j) = true from h); subst this; exact wpAny_Constant_bool (ep_here S.toHS hq)
  | _ => exact (Bool.false_ne_true h).elim
theorem j_str {x : Str} {c : Const} {k : Nat} {p : Pos} (h : cS c x = true) : JE cx A n (.cstr x) fm (.Constant c k p) := by
  intro E H μ s Q S hq
  cases c with
  | str j => have := eq_of_beq (show (x == j) = true from h); subst this; exact wpAny_Constant_str (ep_same S.toHS _ hq)
  | _ => exact (Bool.false_ne_true h).elim
theorem j_loc (W : fm.OK cx A) {i : Nat} {x : Str} {p : Pos} (hd : (!(x == ("__debug__" : Str))) = true) (hi : fm.names[i]? = some (some x)) : JE cx A n (.loc i) fm (.Name x p) := by
  intro E H μ s Q S h
  obtain ⟨h1, h2⟩ := onL_inv h
  exact wpAny_Name (load_loc W S hi h1 fun v hv => ep_here S.toHS (by rw [hv]; exact h2)) (by simpa using hd)
theorem j_bin (C : cx.OK) (hA : AOK0 A n) {l r : ME} {a b : Expr} {op : Operator} {p : Pos} (il : JE cx A n l fm a) (ir : JE cx A n r fm b) : JE cx A n (.bin op l r) fm (.BinOp a op b p) := by
  intro E H μ s Q S h
  refine wpAny_BinOp (ep_then (il E H μ s _ S h) fun v s₁ H₁ S₁ k₁ h₁ => ep_then (ir E H₁ μ s₁ _ (S.step S₁ k₁) h₁) fun w s₂ H₂ S₂ k₂ h₂ => ?_)
  exact ep_from (k₁.trans k₂) (bin_ok C hA S₂ h₂)
theorem j_not {m : ME} {a : Expr} {p : Pos} (i : JE cx A n m fm a) : JE cx A n (.not m) fm (.UnaryOp .Not a p) := by
  intro E H μ s Q S h
  refine wpAny_UnaryOp (ep_then (i E H μ s _ S h) fun v s₁ H₁ S₁ k₁ h₁ => ?_)
  obtain ⟨b, rfl, h₁⟩ := truth_inv h₁
  exact PyProof.Rows.not_of (wpAny_truthy_bool ⟨H₁, S₁, k₁, h₁⟩)
theorem t_not {m : ME} {a : Expr} {p : Pos} (i : JT cx A n m fm a) : JT cx A n (.not m) fm (.UnaryOp .Not a p) := fun E H μ s Q S h =>
  wpAny_isTrue_Not (i E H μ s (fun b H => Q (!b) H) S h)
theorem j_cmp (C : cx.OK) (hA : AOK0 A n) {l r : ME} {a b : Expr} {op : CmpOp} {p : Pos} (kb : kindOK b = true) (il : JE cx A n l fm a) (ir : JE cx A n r fm b) : JE cx A n (.cmp l op r) fm (.Compare a [op] [b] p) := by
  intro E H μ s Q S h
  refine wpAny_Compare1 (ep_then (il E H μ s _ S h) fun v s₁ H₁ S₁ k₁ h₁ => ep_then (ir E H₁ μ s₁ _ (S.step S₁ k₁) h₁) fun w s₂ H₂ S₂ k₂ h₂ => ?_) (marks_of kb _)
  obtain ⟨c, hc, h₂⟩ := onO_inv h₂
  exact ep_from (k₁.trans k₂) (cmp_ok C hA.toACall0 S₂ hc h₂)
theorem t_cmp (C : cx.OK) (hA : AOK0 A n) {l r : ME} {a b : Expr} {op : CmpOp} {p : Pos} (kb : kindOK b = true) (il : JE cx A n l fm a) (ir : JE cx A n r fm b) : JT cx A n (.cmp l op r) fm (.Compare a [op] [b] p) := by
  intro E H μ s Q S h
  refine wpAny_isTrue_Compare1 (ep_then (il E H μ s _ S h) fun v s₁ H₁ S₁ k₁ h₁ => ep_then (ir E H₁ μ s₁ _ (S.step S₁ k₁) h₁) fun w s₂ H₂ S₂ k₂ h₂ => ?_) (marks_of kb _)
  obtain ⟨c, hc, h₂⟩ := onO_inv h₂
  refine ep_then (cmp_ok (Q := fun v H => onB v fun b => Q b H) C hA.toACall0 S₂ hc h₂) fun t s₃ H₃ S₃ k₃ h₃ => truth_ok ⟨H₃, S₃, k₁.trans (k₂.trans k₃), h₃⟩
theorem t_value {m : ME} {e : Expr} (i : JE cx A n m fm e) (he : ∀ env whole, isTrue e env whole = (do let v ← whole; standAt e.pos; holding [v] (truthy v))) : JT cx A n m fm e := fun E H μ s Q S h =>
  wpAny_isTrue_value (wpAny_mono (i E H μ s _ S h) (fun _ _ x => truth_ok x) fun _ _ e => e) (he _ _)

theorem jl_nil : JL cx A n .nil fm [] := fun E pos H μ s Q S h => Calls.spliced_nil ⟨H, S.toHS, Kept.refl _ s H, h⟩
theorem jl_cons {m : ME} {ms : MEs} {e : Expr} {r : List Expr} (ke : kindOK e = true) (i : JE cx A n m fm e) (ir : JL cx A n ms fm r) : JL cx A n (.cons m ms) fm (e :: r) := by
  intro E pos H μ s Q S h
  rw [starEach_of ke]
  refine Calls.spliced_cons (ep_then (i E H μ s _ S h) fun v s₁ H₁ S₁ k₁ h₁ => wpAny_mono (ir E pos H₁ μ s₁ _ (S.step S₁ k₁) h₁) (fun vs s₂ x => ?_) fun _ _ e => e)
  obtain ⟨H₂, S₂, k₂, h₂⟩ := x
  exact ⟨H₂, S₂, k₁.trans k₂, h₂⟩
theorem j_list (C : cx.OK) {ms : MEs} {es : List Expr} {p : Pos} (i : JL cx A n ms fm es) : JE cx A n (.list ms) fm (.List es p) := by
  intro E H μ s Q S h
  refine List_ (wpAny_mono (i E p H μ s _ S h) (fun vs s₁ x => ?_) fun _ _ e => e)
  obtain ⟨H₁, S₁, k₁, hlen, h₁⟩ := x
  exact ep_from k₁ (wpAny_newList (ep_push C S₁ h₁ (fun h e => rep_list e (by simp)) rfl _) (by rw [sizeLine_eq]; simpa using hlen))
theorem j_tup (C : cx.OK) {ms : MEs} {es : List Expr} {k : Nat} {p : Pos} (i : JL cx A n ms fm es) : JE cx A n (.tup ms) fm (.Tuple es k p) := by
  intro E H μ s Q S h
  refine Tuple_ (wpAny_mono (i E p H μ s _ S h) (fun vs s₁ x => ?_) fun _ _ e => e)
  obtain ⟨H₁, S₁, k₁, hlen, h₁⟩ := x
  exact ep_from k₁ (wpAny_newTuple (ep_push C S₁ h₁ (fun h e => rep_tup e (by simp)) rfl _) (by rw [sizeLine_eq]; simpa using hlen))

theorem jb_one {op : BoolOp} {m : ME} {e : Expr} (i : JE cx A n m fm e) : JB cx A n op (.cons m .nil) fm [e] := fun E pos H μ s Q S h => i E H μ s Q S h
theorem jb_more {op : BoolOp} {m m' : ME} {ms : MEs} {e e' : Expr} {r : List Expr} (i : JE cx A n m fm e) (ir : JB cx A n op (.cons m' ms) fm (e' :: r)) : JB cx A n op (.cons m (.cons m' ms)) fm (e :: e' :: r) := by
  intro E pos H μ s Q S h
  show wpAny _ A (do
    let v ← eval e fm.env
    standAt pos
    let t ← holding [v] (truthy v)
    match op, t with
    | .And, false | .Or, true => pure v
    | _, _ => boolOp pos op (evalEach (e' :: r) fm.env)) _ E s
  refine wpAny_bind (ep_then (i E H μ s _ S h) fun v s₁ H₁ S₁ k₁ h₁ => ?_)
  obtain ⟨b, rfl, h₁⟩ := truth_inv h₁
  refine wpAny_bind (wpAny_standAt (wpAny_bind (wpAny_holding (wpAny_truthy_bool ?_))))
  have rec' := fun h' => ep_from (E := E) k₁ (ir E pos H₁ μ s₁ Q (S.step S₁ k₁) h')
  cases op <;> cases b
  · exact wpAny_pure ⟨H₁, S₁, k₁, h₁⟩
  · exact rec' h₁
  · exact rec' h₁
  · exact wpAny_pure ⟨H₁, S₁, k₁, h₁⟩
theorem ju_one {op : BoolOp} {m : ME} {e : Expr} (i : JT cx A n m fm e) : JU cx A n op (.cons m .nil) fm [e] := by
  intro E H μ s Q S h
  have hx := i E H μ s Q S h
  cases op with
  | And =>
    refine wpAny_allTrue_And_cons (wpAny_mono hx (fun b s₁ x => ?_) fun _ _ e => e)
    cases b
    · exact x
    · exact wpAny_pure x
  | Or =>
    refine wpAny_allTrue_Or_cons (wpAny_mono hx (fun b s₁ x => ?_) fun _ _ e => e)
    cases b
    · exact wpAny_pure x
    · exact x
theorem ju_more {op : BoolOp} {m m' : ME} {ms : MEs} {e e' : Expr} {r : List Expr} (i : JT cx A n m fm e) (ir : JU cx A n op (.cons m' ms) fm (e' :: r)) : JU cx A n op (.cons m (.cons m' ms)) fm (e :: e' :: r) := by
  intro E H μ s Q S h
  have rec' := fun {s₁ H₁} (S₁ : HS cx H₁ s₁) (k₁ : KE s H s₁ H₁) h' => bp_from (E := E) k₁ (ir E H₁ μ s₁ Q (S.step S₁ k₁) h')
  cases op with
  | And =>
    refine wpAny_allTrue_And_cons (wpAny_mono (i E H μ s (fun b H => ifB b (mwpB cx n .And (.cons m' ms) μ H (fun v H => onB v fun b => Q b H)) (Q false H)) S h) (fun b s₁ x => ?_) fun _ _ e => e)
    obtain ⟨H₁, S₁, k₁, h₁⟩ := x
    cases b
    · exact ⟨H₁, S₁, k₁, h₁⟩
    · exact rec' S₁ k₁ h₁
  | Or =>
    refine wpAny_allTrue_Or_cons (wpAny_mono (i E H μ s (fun b H => ifB b (Q true H) (mwpB cx n .Or (.cons m' ms) μ H (fun v H => onB v fun b => Q b H))) S h) (fun b s₁ x => ?_) fun _ _ e => e)
    obtain ⟨H₁, S₁, k₁, h₁⟩ := x
    cases b
    · exact rec' S₁ k₁ h₁
    · exact ⟨H₁, S₁, k₁, h₁⟩

theorem callBF (C : cx.OK) (hA : AOK0 A n) {b : BF} (hh : b.quiet = false → A.handled = none) {t : Sem Value} {ts : List (Bool × Sem Value)} {pos : Pos} (hns : ((false, t) :: ts).any (·.1) = false)
    (h : wpAny (model cx.prog cx.w) A (spliced ((false, t) :: ts)) (LP cx s H fun vs H => callbP cx b vs H Q) E s) :
    wpAny (model cx.prog cx.w) A (callWith pos b.val [] ((false, t) :: ts) []) (EP cx s H Q) E s := by
  have fin : ∀ v, b.val = v → wpAny (model cx.prog cx.w) A (evalArgs v true ((false, t) :: ts) []) (fun a s₁ => wpAny (model cx.prog cx.w) A (call v ([] ++ a.pos) a.kw) (EP cx s H Q) E s₁) E s := by
    intro v hv
    subst hv
    refine Calls.evalArgs_plain (wpAny_mono h (fun vs s₁ x => ?_) fun _ _ e => e)
    obtain ⟨H₁, S₁, k₁, h₁⟩ := x
    exact ep_from (E := E) k₁ (callb_ok (A := A) C hA S₁ hh h₁)
  cases b with
  | len => exact Calls.callWith_builtin (id := "len") hns (fin _ rfl)
  | list => exact PySem.callWith_type (T := "list") hns (fin _ rfl)
  | int => exact PySem.callWith_type (T := "int") hns (fin _ rfl)
  | abs => exact Calls.callWith_builtin (id := "abs") hns (fin _ rfl)
  | max => exact Calls.callWith_builtin (id := "max") hns (fin _ rfl)
  | repr => exact Calls.callWith_builtin (id := "repr") hns (fin _ rfl)
theorem callf_any {q : Bool} (C : cx.OK) (TO : T.OK cx) (hA : AOK0 A n) (hh : q = false → A.handled = none) (W : fm.OK cx A) {f : Addr} {ms : MEs} {x : Str} {np p : Pos} {e : Expr} {r : List Expr} (hx : isGlob fm.env.scope x = true) (hf : T.fns.lookup x = some f) (ke : kindOK e = true)
    (i : JL cx A n ms fm (e :: r)) (S : SR cx fm H μ s) (h : mwpEs cx n ms μ H fun vs H => CallY q cx n f vs H Q) (hE : XE cx E s H Q) : wpAny (model cx.prog cx.w) A (eval (.Call (.Name x np) (e :: r) [] p) fm.env) (EP cx s H Q) E s := by
  obtain ⟨hg, o, fd, ho, hd⟩ := TO.fn x f hf
  refine wpAny_Call_ofName (glob_name C W S.toHS hx hg ?_)
  refine callWith_def hd (wpAny_mono (i E p H μ s _ S h) (fun vs s₁ x => ?_) fun _ _ e => e) (starEach_of ke _ _)
  obtain ⟨H₁, S₁, k₁, h₁⟩ := x
  exact ⟨S₁.ext _ _ ho, ep_from k₁ (call_ok hA.toACall0 hh S₁ ((S.step S₁ k₁).frs W) h₁ (hE.from k₁))⟩
theorem j_callf (C : cx.OK) (TO : T.OK cx) (hA : AOK A n) (W : fm.OK cx A) {f : Addr} {ms : MEs} {x : Str} {np p : Pos} {e : Expr} {r : List Expr} (hx : isGlob fm.env.scope x = true) (hf : T.fns.lookup x = some f) (ke : kindOK e = true)
    (i : JL cx A n ms fm (e :: r)) : JE cx A n (.callf f ms) fm (.Call (.Name x np) (e :: r) [] p) := fun E H μ s Q S h =>
  wpAny_mono (callf_any C TO hA.toAOK0 (fun _ => hA.handled) W hx hf ke i S h XE.nx) (fun _ _ x => x.nx) fun _ _ e => e
theorem j_callf0 (C : cx.OK) (TO : T.OK cx) (hA : AOK A n) (W : fm.OK cx A) {f : Addr} {x : Str} {np p : Pos} (hx : isGlob fm.env.scope x = true) (hf : T.fns.lookup x = some f) (hk : PySem.W.keepIn T.K (.ref f) = true) : JE cx A n (.callf f .nil) fm (.Call (.Name x np) [] [] p) := by
  intro E H μ s Q S h
  obtain ⟨hg, _⟩ := TO.fn x f hf
  refine wpAny_Call_ofName (glob_name C W S.toHS hx hg ?_)
  exact PySem.W.callWith_K0 (TO.kin.keeps S.ext) hk (wpAny_mono (call_ok (vs := []) hA.toACall0 (fun _ => hA.handled) S.toHS (S.frs W) h XE.nx) (fun _ _ x => x.nx) fun _ _ e => e)
theorem j_callq (C : cx.OK) (TO : T.OK cx) (hA : AOK0 A n) (W : fm.OK cx A) {f : Addr} {ms : MEs} {x : Str} {np p : Pos} {e : Expr} {r : List Expr} (hx : isGlob fm.env.scope x = true) (hf : T.fns.lookup x = some f) (ke : kindOK e = true)
    (i : JL cx A n ms fm (e :: r)) : JE cx A n (.callq f ms) fm (.Call (.Name x np) (e :: r) [] p) := fun E H μ s Q S h =>
  wpAny_mono (callf_any C TO hA (fun q => by cases q) W hx hf ke i S h XE.nx) (fun _ _ x => x.nx) fun _ _ e => e
theorem j_callb (C : cx.OK) (TO : T.OK cx) (hA : AOK0 A n) (W : fm.OK cx A) {b : BF} (hh : b.quiet = false → A.handled = none) {ms : MEs} {x : Str} {np p : Pos} {e : Expr} {r : List Expr} (hx : isGlob fm.env.scope x = true) (hf : T.bfs.lookup x = some b) (ke : ∀ a ∈ e :: r, kindOK a = true)
    (i : JL cx A n ms fm (e :: r)) : JE cx A n (.callb b ms) fm (.Call (.Name x np) (e :: r) [] p) := by
  intro E H μ s Q S h
  have hs := i E p H μ s _ S h
  have hns := (noStar fm.env p ke).1
  refine wpAny_Call_ofName (glob_name C W S.toHS hx (TO.bf _ _ hf) ?_)
  rw [starEach_of (ke e List.mem_cons_self)] at hs hns ⊢
  exact callBF C hA hh hns hs
theorem j_isi (C : cx.OK) (TO : T.OK cx) (W : fm.OK cx A) {m : ME} {t : String} {np tp p : Pos} {e : Expr} {y : Str} (hx : isGlob fm.env.scope "isinstance" = true) (hy : isGlob fm.env.scope y = true) (hf : T.tys.lookup y = some t) (ke : kindOK e = true)
    (i : JE cx A n m fm e) : JE cx A n (.isi m t) fm (.Call (.Name "isinstance" np) [e, .Name y tp] [] p) := by
  intro E H μ s Q S h
  refine wpAny_Call_ofName (glob_name C W S.toHS hx TO.isi ?_)
  rw [starEach_of ke]
  refine Calls.callWith_builtin (by rfl) (Calls.evalArgs_plain (Calls.spliced_cons (ep_then (i E H μ s _ S h) fun v s₁ H₁ S₁ k₁ h₁ => ?_)))
  refine Calls.spliced_cons (glob_name C W S₁ hy (TO.ty _ _ hf) (Calls.spliced_nil ?_))
  obtain ⟨b, hb, h₁⟩ := onO_inv h₁
  refine ep_from k₁ (isi_ok (fun D hD a o s Q ex q m q2 => ?_) S₁ hb h₁)
  obtain ⟨x1, x2, _⟩ := TO.xc D hD
  exact exc_isi (TO.kin.keeps ex) q m x1 (fun M h' _ => PySem.W.Looks.of_pure (by kernel_rfl)) (fun M h' _ => PySem.W.Looks.of_pure (by kernel_rfl)) x2 (fun q => by cases q) q2
theorem excls_of {K : PySem.W.Frag} {D : Addr} (h : excIn K D = true) : PySem.W.typeIn K (.ref D) = some (.type "type") ∧ (PySem.W.clsIn K D).isSome = true := by
  unfold excIn at h
  simp only [Bool.and_eq_true, beq_iff_eq] at h
  exact h.2.2.2.2.2.2.2
theorem j_isx (C : cx.OK) (TO : T.OK cx) (W : fm.OK cx A) {m : ME} {D : Addr} {sup : Bool} {np tp p : Pos} {e : Expr} {y : Str} (hx : isGlob fm.env.scope "isinstance" = true) (hy : isGlob fm.env.scope y = true) (hf : (if sup then T.sups else T.exs).lookup y = some D) (ke : kindOK e = true)
    (i : JE cx A n m fm e) : JE cx A n (.isx m D sup) fm (.Call (.Name "isinstance" np) [e, .Name y tp] [] p) := by
  intro E H μ s Q S h
  have hg : cx.gl y = some (.ref D) := by cases sup; exact (TO.ex y D hf).1; exact TO.su y D hf
  refine wpAny_Call_ofName (glob_name C W S.toHS hx TO.isi ?_)
  rw [starEach_of ke]
  refine Calls.callWith_builtin (by rfl) (Calls.evalArgs_plain (Calls.spliced_cons (ep_then (i E H μ s _ S h) fun v s₁ H₁ S₁ k₁ h₁ => ?_)))
  refine Calls.spliced_cons (glob_name C W S₁ hy hg (Calls.spliced_nil ?_))
  obtain ⟨a, ea, h₁⟩ := onR_inv h₁
  have := abs_ref ea; subst this
  obtain ⟨Ce, hC, hm, h₁⟩ := onEx_inv h₁
  obtain ⟨o, q, hcl⟩ := S₁.hr _ _ hC
  obtain ⟨x1, _, x3, x4⟩ := TO.xc Ce hm
  have xD : PySem.W.mroIn T.K Ce (.ref D) = some (sup || Ce == D) ∧ excIn T.K D = true := by
    cases sup
    · obtain ⟨_, _, hD⟩ := TO.ex y D hf
      exact ⟨x3 D hD, (TO.xc D hD).1⟩
    · exact x4 y D hf
  obtain ⟨e1, e2⟩ := excls_of xD.2
  exact ep_from k₁ (exc_isi (TO.kin.keeps S₁.ext) q hcl x1 (fun M h' X => PySem.W.looks_typeIn X e1) (fun M h' X => isType_of X e2) xD.1 (fun q => by have : Ce = D := Value.ref.inj (beq_iff_eq.mp q); subst this; simp) fun t => ep_same S₁ t h₁)
theorem j_app {o m : ME} {b e : Expr} {ap p : Pos} (hp : (ap.endLine == p.line) = true) (hb : plainBase b = true) (ke : kindOK e = true) (io : JE cx A n o fm b) (ia : JE cx A n m fm e) : JE cx A n (.app o m) fm (.Call (.Attribute b "append" ap) [e] [] p) := by
  intro E H μ s Q S h
  have hns := (noStar fm.env p (es := [e]) fun a ha => by rw [List.mem_singleton.mp ha]; exact ke).2
  refine wpAny_Call_method (base_of hb _ _ _) (by rw [hns, show keywordEach [] fm.env = [] from rfl]; simp [backToKw]) hp PySem.F.plainAttrs_list PySem.F.slot_list_append PySem.F.type_list_append (ep_then (io E H μ s _ S h) fun ov s₁ H₁ S₁ k₁ h₁ => ?_)
  obtain ⟨hl', h₁⟩ := h₁
  obtain ⟨ad, vs, e1, e2⟩ := listAt_inv hl'
  have := abs_ref e1; subst this
  obtain ⟨items, k, e3, _⟩ := S₁.hr _ _ e2
  refine ⟨⟨_, e3, rfl⟩, fun b hb => by cases hb; exact ⟨_, e3, rfl⟩, ?_⟩
  rw [starEach_of ke]
  exact ep_from k₁ (app_ok (ia E H₁ μ s₁ _ (S.step S₁ k₁) h₁))
theorem j_sub (C : cx.OK) {o i : ME} {a b : Expr} {p : Pos} (kb : kindOK b = true) (io : JE cx A n o fm a) (ii : JE cx A n i fm b) : JE cx A n (.sub o i) fm (.Subscript a b p) := by
  intro E H μ s Q S h
  refine Subscript_ (ep_then (io E H μ s _ S h) fun v s₁ H₁ S₁ k₁ h₁ => ep_then (ii E H₁ μ s₁ _ (S.step S₁ k₁) h₁) fun w s₂ H₂ S₂ k₂ h₂ => ?_)
  exact ep_from (k₁.trans k₂) (sub_ok C S₂ (notSlice_of kb) h₂)
theorem part_ok {o : ME} {x : Option Expr} (i : (x = none ∧ o = .cnone) ∨ ∃ e, x = some e ∧ JE cx A n o fm e) (S : SR cx fm H μ s) (h : mwpE cx n o μ H Q) : wpAny (model cx.prog cx.w) A (evalPart x fm.env) (EP cx s H Q) E s := by
  rcases i with ⟨rfl, rfl⟩ | ⟨e, rfl, i⟩
  · exact wpAny_evalPart_none (ep_here S.toHS h)
  · exact wpAny_evalPart_some (i E H μ s _ S h)
theorem j_slice (C : cx.OK) {o lo hi : ME} {a : Expr} {x y : Option Expr} {p p' : Pos} (io : JE cx A n o fm a) (il : (x = none ∧ lo = .cnone) ∨ ∃ e, x = some e ∧ JE cx A n lo fm e) (ih : (y = none ∧ hi = .cnone) ∨ ∃ e, y = some e ∧ JE cx A n hi fm e) :
    JE cx A n (.slice o lo hi) fm (.Subscript a (.Slice x y none p') p) := by
  intro E H μ s Q S h
  refine Subscript_ (ep_then (io E H μ s _ S h) fun v s₁ H₁ S₁ k₁ h₁ => ?_)
  refine wpAny_Slice (ep_then (part_ok il (S.step S₁ k₁) h₁) fun l s₂ H₂ S₂ k₂ h₂ => ?_)
  have k12 := k₁.trans k₂
  refine ep_then (part_ok ih (S.step S₂ k12) h₂) fun u s₃ H₃ S₃ k₃ h₃ => wpAny_evalPart_none ?_
  exact wpAny_mono (slice_ok C S₃ h₃) (fun _ _ x => x.from (k12.trans k₃)) fun _ _ e => e
theorem j_neg {m : ME} {a : Expr} {p : Pos} (i : JE cx A n m fm a) : JE cx A n (.neg m) fm (.UnaryOp .USub a p) := by
  intro E H μ s Q S h
  refine wpAny_UnaryOp (ep_then (i E H μ s _ S h) fun v s₁ H₁ S₁ k₁ h₁ => ?_)
  obtain ⟨j, e, h₁⟩ := onI_inv h₁
  obtain ⟨t, rfl⟩ := abs_int e
  exact PyProof.Rows.neg_int ⟨H₁, S₁.toks _, k₁.trans (KE.toks s₁ H₁ _), h₁⟩
theorem j_gint (C : cx.OK) (TO : T.OK cx) (W : fm.OK cx A) {i : Int} {x : Str} {p : Pos} (hx : isGlob fm.env.scope x = true) (hf : T.gis.lookup x = some i) : JE cx A n (.gint i) fm (.Name x p) := by
  intro E H μ s Q S h
  obtain ⟨t, ht⟩ := TO.gi x i hf
  exact glob_name C W S.toHS hx ht (ep_here S.toHS h)
theorem chain_ok (C : cx.OK) (hA : AOK0 A n) {r : ME} {c : Expr} {o1 o2 : CmpOp} {v w : Value} {s₁ s₂ : Shared} {H₁ H₂ : HP} (S : SR cx fm H μ s) (S₂ : HS cx H₂ s₂) (k : KE s H s₂ H₂) (ir : JE cx A n r fm c)
    (h : onO (cmpP cx o1 (abs v) (abs w) H₂) fun d => ifB d (mwpE cx n r μ H₂ fun e H => onO (cmpP cx o2 (abs w) e H) fun f => Q (.bool f) H) (Q (.bool false) H₂))
    {P : Value → Shared → Prop} (fin : ∀ b s', EP cx s H Q (.bool b) s' → P (.bool b) s') :
    wpAny (model cx.prog cx.w) A (compareOp o1 v w) (fun t s₃ => ∃ d, t = .bool d ∧ if d = true then wpAny (model cx.prog cx.w) A (eval c fm.env) (fun y s₅ => wpAny (model cx.prog cx.w) A (compareOp o2 w y) P E s₅) E s₃ else P t s₃) E s₂ := by
  obtain ⟨d, hd, h⟩ := onO_inv h
  refine ep_then (cmp_ok (Q := fun u H' => u = .bool d ∧ H' = H₂) C hA.toACall0 S₂ hd ⟨rfl, rfl⟩) fun t s₃ H₃ S₃ k₃ h₃ => ?_
  obtain ⟨ht, rfl⟩ := h₃
  have := abs_bool ht; subst this
  have k' := k.trans k₃
  refine ⟨d, rfl, ?_⟩
  cases d with
  | true =>
    rw [if_pos rfl]
    refine ep_then (ir E H₃ μ s₃ _ (S.step S₃ k') h) fun y s₄ H₄ S₄ k₄ h₄ => ?_
    obtain ⟨f, hf, h₄⟩ := onO_inv h₄
    refine wpAny_mono (cmp_ok (Q := fun u H' => u = .bool f ∧ Q (.bool f) H') C hA.toACall0 S₄ hf ⟨rfl, h₄⟩) (fun u s₅ x => ?_) fun _ _ e => e
    obtain ⟨H₅, S₅, k₅, hu, h₅⟩ := x
    have := abs_bool hu; subst this
    exact fin f s₅ ⟨H₅, S₅, k'.trans (k₄.trans k₅), h₅⟩
  | false =>
    rw [if_neg (by decide)]
    exact fin false s₃ ⟨H₃, S₃, k', h⟩
theorem j_cmp2 (C : cx.OK) (hA : AOK0 A n) {l m r : ME} {a b c : Expr} {o1 o2 : CmpOp} {p : Pos} (kc : kindOK c = true) (il : JE cx A n l fm a) (im : JE cx A n m fm b) (ir : JE cx A n r fm c) : JE cx A n (.cmp2 l o1 m o2 r) fm (.Compare a [o1, o2] [b, c] p) := by
  intro E H μ s Q S h
  refine compare2 (marks_of kc _) (ep_then (il E H μ s _ S h) fun v s₁ H₁ S₁ k₁ h₁ => ep_then (im E H₁ μ s₁ _ (S.step S₁ k₁) h₁) fun w s₂ H₂ S₂ k₂ h₂ => ?_)
  refine wpAny_mono (chain_ok (s₁ := s₁) (H₁ := H₁) (P := EP cx s H Q) C hA S S₂ (k₁.trans k₂) ir h₂ fun _ _ x => x) (fun t s₃ x => ?_) fun _ _ e => e
  obtain ⟨d, rfl, x⟩ := x
  exact wpAny_truthy_bool x
theorem t_cmp2 (C : cx.OK) (hA : AOK0 A n) {l m r : ME} {a b c : Expr} {o1 o2 : CmpOp} {p : Pos} (kc : kindOK c = true) (il : JE cx A n l fm a) (im : JE cx A n m fm b) (ir : JE cx A n r fm c) : JT cx A n (.cmp2 l o1 m o2 r) fm (.Compare a [o1, o2] [b, c] p) := by
  intro E H μ s Q S h
  refine testChain2 (marks_of kc _) (ep_then (il E H μ s _ S h) fun v s₁ H₁ S₁ k₁ h₁ => ep_then (im E H₁ μ s₁ _ (S.step S₁ k₁) h₁) fun w s₂ H₂ S₂ k₂ h₂ => ?_)
  refine wpAny_mono (chain_ok (s₁ := s₁) (H₁ := H₁) (Q := fun v H => onB v fun b => Q b H) (P := fun t s' => wpAny (model cx.prog cx.w) A (truthy t) (BP cx s H Q) E s') C hA S S₂ (k₁.trans k₂) ir h₂ fun _ _ x => truth_ok x) (fun t s₃ x => ?_) fun _ _ e => e
  obtain ⟨d, rfl, x⟩ := x
  cases d with
  | true => exact wpAny_truthy_bool x
  | false => exact x
theorem ref_ne {v : V} {k : Addr → Prop} (h : onR v k) : v ≠ .unb := by
  obtain ⟨a, rfl, _⟩ := onR_inv h; exact nofun
theorem name_ok (W : fm.OK cx A) (S : SR cx fm H μ s) {i : Nat} {x : Str} {p : Pos} (hd : (!(x == ("__debug__" : Str))) = true) (hi : fm.names[i]? = some (some x)) (hu : getL μ i ≠ .unb) {P : Value → Shared → Prop} (h : ∀ v, abs v = getL μ i → P v s) :
    wpAny (model cx.prog cx.w) A (eval (.Name x p) fm.env) P E s := wpAny_Name (load_loc W S hi hu h) (by simpa using hd)
theorem j_attr (TO : T.OK cx) (W : fm.OK cx A) {C : Addr} {i : Nat} {x z : Str} {np p : Pos} (ht : T.ats.contains (C, x) = true) (hd : (!(z == ("__debug__" : Str))) = true) (hi : fm.names[i]? = some (some z)) : JE cx A n (.attr C i x) fm (.Attribute (.Name z np) x p) := by
  intro E H μ s Q S h
  refine Attribute_name (name_ok W S hd hi (ref_ne h) fun v hv => attr_ok TO.kin (TO.at_ C x ht) S.toHS ?_)
  rw [hv]; exact h
theorem callm_any (TO : T.OK cx) (W : fm.OK cx A) {C f : Addr} {i : Nat} {ms : MEs} {x z : Str} {np ap p : Pos} {as : List Expr} (hp : (ap.endLine == p.line) = true) (ht : T.mts.contains (C, x, f) = true) (hd : (!(z == ("__debug__" : Str))) = true)
    (hi : fm.names[i]? = some (some z)) (hl : as.length < 20) (hk : ∀ a ∈ as, kindOK a = true) (hc : chkEs T ms fm.env.scope fm.names as = true) (ia : JL cx A n ms fm as) (S : SR cx fm H μ s) {P : List V → HP → Prop} (h1 : instP C (getL μ i) x H) (h2 : mwpEs cx n ms μ H P) {RR : Value → Shared → Prop}
    (fin : ∀ v vs s₁ H₁, abs v = getL μ i → HS cx H₁ s₁ → KE s H s₁ H₁ → P (vs.map abs) H₁ → wpAny (model cx.prog cx.w) A (call (.ref f) ([v] ++ vs)) RR E s₁) : wpAny (model cx.prog cx.w) A (eval (.Call (.Attribute (.Name z np) x ap) as [] p) fm.env) RR E s := by
  have hM := TO.mt C x f ht
  rw [arm_eval_Call, base_of rfl]
  refine wpAny_bind (name_ok W S hd hi (ref_ne h1) fun v hv => wpAny_bind (wpAny_standAt ?_))
  have hns := noStar fm.env p hk
  have hform : methodCallForm (as.length + ([] : List Keyword).length) (backTo p (starEach as fm.env)) (backToKw p (keywordEach [] fm.env)) = true := by
    show (List.all _ _ && _ && decide (_ < 30)) = true
    rw [hns.2]
    show (true && true && decide _) = true
    rw [decide_eq_true (by show as.length + 0 + 0 < 30; omega)]; rfl
  have hpos : methodCallPos true (.Name z np) fm.env ap p = pure p := by unfold methodCallPos; simp [hp]
  unfold methodCall
  rw [hform]
  refine wpAny_bind (wpAny_holding (meth_ok TO.kin hM S.toHS (by rw [hv]; exact h1) ?_))
  refine wpAny_bind (wpAny_of_eq hpos ?_)
  have hkeep : PySem.W.keepIn T.K (.ref f) = true := (band (band (band hM).2).2).2
  cases as with
  | nil =>
    cases ms with
    | nil => exact PySem.W.callWith_K0 (TO.kin.keeps S.ext) hkeep (fin v [] s H hv S.toHS (Kept.refl _ s H) h2)
    | cons => cases hc
  | cons e r =>
    refine PySem.W.callWith_K TO.kin hkeep (wpAny_mono (ia E p H μ s _ S h2) (fun vs s₁ x => ?_) fun _ _ e => e) (starEach_of (hk e List.mem_cons_self) _ _) (noStar fm.env p fun a ha => hk a (List.mem_cons_of_mem _ ha)).1
    obtain ⟨H₁, S₁, k₁, h₁⟩ := x
    exact ⟨TO.kin.keeps S₁.ext, fin v vs s₁ H₁ hv S₁ k₁ h₁⟩
theorem j_callm (TO : T.OK cx) (hA : AOK A n) (W : fm.OK cx A) {C f : Addr} {i : Nat} {ms : MEs} {x z : Str} {np ap p : Pos} {as : List Expr} (hp : (ap.endLine == p.line) = true) (ht : T.mts.contains (C, x, f) = true) (hd : (!(z == ("__debug__" : Str))) = true)
    (hi : fm.names[i]? = some (some z)) (hl : as.length < 20) (hk : ∀ a ∈ as, kindOK a = true) (hc : chkEs T ms fm.env.scope fm.names as = true) (ia : JL cx A n ms fm as) : JE cx A n (.callm C x f i ms) fm (.Call (.Attribute (.Name z np) x ap) as [] p) := by
  intro E H μ s Q S h
  exact callm_any TO W hp ht hd hi hl hk hc ia S h.1 h.2 fun v vs s₁ H₁ hv S₁ k₁ h₁ => ep_from k₁ (wpAny_mono (call_ok hA.toACall0 (fun _ => hA.handled) S₁ ((S.step S₁ k₁).frs W) (by show CallP cx n f (abs v :: vs.map abs) H₁ Q; rw [hv]; exact h₁) XE.nx) (fun _ _ x => x.nx) fun _ _ e => e)
theorem mk_any (CO : cx.OK) (TO : T.OK cx) (hA : AOK A n) (W : fm.OK cx A) {C f : Addr} {ms : MEs} {x : Str} {np p : Pos} {e : Expr} {r : List Expr} (hx : isGlob fm.env.scope x = true) (ht : T.mks.contains (x, C, f) = true) (hk : ∀ a ∈ e :: r, kindOK a = true)
    (ia : JL cx A n ms fm (e :: r)) (S : SR cx fm H μ s) (h : mwpEs cx n ms μ H fun vs H => mkX cx n C f vs H Q) (hE : XE cx E s H Q) : wpAny (model cx.prog cx.w) A (eval (.Call (.Name x np) (e :: r) [] p) fm.env) (EP cx s H Q) E s := by
  obtain ⟨hg, hM⟩ := TO.mkc x C f ht
  have hkeep : PySem.W.keepIn T.K (.ref C) = true := (band (band (band hM).2).2).2
  refine wpAny_Call_ofName (glob_name CO W S.toHS hx hg ?_)
  refine PySem.W.callWith_K TO.kin hkeep (wpAny_mono (ia E p H μ s _ S h) (fun vs s₁ x => ?_) fun _ _ e => e) (starEach_of (hk e List.mem_cons_self) _ _) (noStar fm.env p fun a ha => hk a (List.mem_cons_of_mem _ ha)).1
  obtain ⟨H₁, S₁, k₁, h₁⟩ := x
  exact ⟨TO.kin.keeps S₁.ext, ep_from k₁ (mk_ok CO hA.toACall0 hA.handled ((S.step S₁ k₁).frs W) TO.kin hM S₁ h₁ (hE.from k₁))⟩
theorem j_mk (CO : cx.OK) (TO : T.OK cx) (hA : AOK A n) (W : fm.OK cx A) {C f : Addr} {ms : MEs} {x : Str} {np p : Pos} {e : Expr} {r : List Expr} (hx : isGlob fm.env.scope x = true) (ht : T.mks.contains (x, C, f) = true) (hk : ∀ a ∈ e :: r, kindOK a = true)
    (ia : JL cx A n ms fm (e :: r)) : JE cx A n (.mk C f ms) fm (.Call (.Name x np) (e :: r) [] p) := fun E H μ s Q S h =>
  wpAny_mono (mk_any CO TO hA W hx ht hk ia S h XE.nx) (fun _ _ x => x.nx) fun _ _ e => e
end
end Mine
end

section
namespace Mine
open PySem PyProof.Rows PySem.SeqAt

structure Iter (cx : Cx) (A : Around) (E : Value → Shared → Prop) (it : Addr) (items : List V) (st : HP → Prop) (P : Nat → Heap → Prop) : Prop where
  next : ∀ (s : Shared) (H : HP) (i : Nat) (v : V) (Q : Option Value → Shared → Prop), HS cx H s → st H → P i s.heap → items[i]? = some v →
    (∀ h' tk x, Mine.abs x = v → P (i + 1) h' → Heap.SameBut it s.heap h' → Q (some x) { s with heap := h', toks := tk }) → wpAny (model cx.prog cx.w) A (pyNext (.ref it)) Q E s
  stop : ∀ (s : Shared) (H : HP) (Q : Option Value → Shared → Prop), HS cx H s → st H → P items.length s.heap →
    (∀ h', Heap.ExtBut it s.heap h' → Q none { s with heap := h' }) → wpAny (model cx.prog cx.w) A (pyNext (.ref it)) Q E s
  self : ∀ (s : Shared) (Q : Value → Shared → Prop), P 0 s.heap → Q (.ref it) s → wpAny (model cx.prog cx.w) A (pyIter (.ref it)) Q E s
  frame : ∀ i h h', P i h → (∀ o, h.get? it = some o → h'.get? it = some o) → P i h'
  live : ∀ i h, P i h → ∃ o, h.get? it = some o
  nd : ∀ i h o, P i h → h.get? it = some o → ∀ es ep, o.data ≠ .dict es ep

section
variable {cx : Cx} {T : Tbl} {A : Around} {E : Value → Shared → Prop} {n : Nat}

theorem iter_list (C : cx.OK) (hh : A.handled = none) {H : HP} {s : Shared} (S : HS cx H s) {a : Addr} {vs : List V} (h : lk cx H a = some (.list vs)) {E' : Value → Shared → Prop} {Q : Value → Shared → Prop}
    (hQ : ∀ it P ob, s.heap.get? it = none → (∀ E, Iter cx A E it vs (fun H' => lk cx H' a = some (.list vs)) P) → P 0 (s.heap.push ob) → Q (.ref it) { s with heap := s.heap.push ob }) :
    wpAny (model cx.prog cx.w) A (pyIter (.ref a)) Q E' s := by
  obtain ⟨items, k, e, m⟩ := lk_rep C S h
  refine wpAny_pyIter_list (items := items) ⟨_, e, rfl, k, rfl⟩ ?_
  refine hQ _ (fun i h => h.IsListIter s.heap.objs.size a i) _ (get_size _) (fun E => ⟨?_, ?_, ?_, ?_, ?_, ?_⟩) ⟨_, Heap.get?_push_size _ rfl, rfl, rfl⟩
  · intro s' H' i v Q S' st hp hv hq
    obtain ⟨items', k', e', m'⟩ := lk_rep C S' st
    obtain ⟨x, hx, hxa⟩ := item_of m' hv
    exact wpAny_pyNext_list_item hp ⟨_, e', rfl, k', rfl⟩ hx fun h' hi sb => hq h' s'.toks x hxa hi sb
  · intro s' H' Q S' st hp hq
    obtain ⟨items', k', e', m'⟩ := lk_rep C S' st
    exact wpAny_pyNext_list_end hh hp ⟨_, e', rfl, k', rfl⟩ (by rw [← size_of m']; simp) hq
  · intro s' Q hp hq; exact wpAny_pyIter_listiter hp hq
  · rintro i h h' ⟨o, e, r⟩ hk; exact ⟨o, hk o e, r⟩
  · rintro i h ⟨o, e, r⟩; exact ⟨o, e⟩
  · rintro i h o ⟨o', e, r⟩ e2 es ep q
    rw [e] at e2; cases e2; rw [r.2] at q; cases q
theorem rangeL_length (x y : Int) : (rangeL x y).length = (y - x).toNat := by simp [rangeL]
theorem rangeL_get {x y : Int} {i : Nat} {v : V} (h : (intsV (rangeL x y))[i]? = some v) : v = .int (x + i) ∧ (i : Int) < y - x := by
  simp only [intsV, rangeL, List.getElem?_map, Option.map_eq_some_iff] at h
  obtain ⟨j, ⟨k, hk, rfl⟩, rfl⟩ := h
  obtain ⟨hlt, e⟩ := List.getElem?_eq_some_iff.mp hk
  simp at e hlt
  subst e
  exact ⟨rfl, by first | lia | omega⟩

theorem iter_range (hh : A.handled = none) {s : Shared} {r : Addr} {x y : Int} {t u v : Tok} (hr : IsRange s.heap r x y 1 t u v) (hx : -1152921504606846976 < x ∧ x < 1152921504606846976) (hy : -1152921504606846976 < y ∧ y < 1152921504606846976) {E' : Value → Shared → Prop} {Q : Value → Shared → Prop}
    (hQ : ∀ it P ob, s.heap.get? it = none → (∀ E, Iter cx A E it (intsV (rangeL x y)) (fun _ => True) P) → P 0 (s.heap.push ob) → Q (.ref it) { s with heap := s.heap.push ob }) :
    wpAny (model cx.prog cx.w) A (pyIter (.ref r)) Q E' s := by
  refine wpAny_pyIter_range hr ?_ ?_
  · have hs := rangeSize_one x y
    unfold Builtin.Range.small Builtin.Range.rangeFitsLong
    rw [hs]
    simp only [Bool.and_eq_true, Bool.or_eq_true, decide_eq_true_eq, beq_iff_eq, show (1 : Int) > 0 from by decide, if_true]
    split <;> omega
  · refine hQ _ (fun i h => IsRangeIter h s.heap.objs.size (x + i) (Builtin.Range.rangeSize x y 1 - i) 1) _ (get_size _) (fun E => ⟨?_, ?_, ?_, ?_, ?_, ?_⟩) ?_
    · intro s' H' i v Q S' st hp hv hq
      obtain ⟨rfl, hi⟩ := rangeL_get hv
      refine wpAny_pyNext_range_item hp ?_ fun h' hi' sb => hq h' _ _ rfl ?_ sb
      · rw [rangeSize_one]; split <;> omega
      · have e1 : x + (i : Int) + 1 = x + ((i + 1 : Nat) : Int) := by first | lia | omega
        have e2 : Builtin.Range.rangeSize x y 1 - (i : Int) - 1 = Builtin.Range.rangeSize x y 1 - ((i + 1 : Nat) : Int) := by first | lia | omega
        rw [e1, e2] at hi'; exact hi'
    · intro s' H' Q S' st hp hq
      refine wpAny_pyNext_range_end hh hp ?_ hq
      rw [rangeSize_one]
      simp only [intsV, List.length_map, rangeL_length]
      split <;> omega
    · intro s' Q hp hq; exact wpAny_pyIter_rangeiter hp hq
    · intro i h h' hp hk; exact hk _ hp
    · intro i h hp; exact ⟨_, hp⟩
    · intro i h o hp e es ep q
      rw [show h.get? _ = _ from hp] at e; cases e; cases q
    · have := Heap.get?_push_size s.heap (o := { cls := .type "range_iterator", data := .fields #[rawInt x, rawInt (Builtin.Range.rangeSize x y 1), rawInt 1] }) rfl
      simpa using this
end
end Mine
end

section
namespace Mine
open PySem PyProof.Rows PySem.SeqAt

section
variable {cx : Cx} {T : Tbl} {A : Around} {E : Value → Shared → Prop} {n : Nat}

theorem lookup_relabelS {outer : Scope} (y : Str) : ∀ (names : List (Str × NameKind)), (names.map fun (n, k) => if (k == NameKind.free && outer.kind == .function && outer.names.lookup n == some .cell) then (n, NameKind.cell) else (n, k)).lookup y =
    (names.lookup y).map fun k => if (k == NameKind.free && outer.kind == .function && outer.names.lookup y == some .cell) then NameKind.cell else k
  | [] => rfl
  | (n, k) :: r => by
    rw [List.map_cons, List.lookup_cons]
    have ih := lookup_relabelS (outer := outer) y r
    by_cases hy : y = n
    · subst hy
      by_cases hc : (k == NameKind.free && outer.kind == .function && outer.names.lookup y == some .cell) = true
      · simp only [if_pos hc, List.lookup_cons, beq_self_eq_true, Option.map_some]
      · simp only [if_neg hc, List.lookup_cons, beq_self_eq_true, Option.map_some]
    · have hb : (y == n) = false := beq_eq_false_iff_ne.mpr hy
      by_cases hc : (k == NameKind.free && outer.kind == .function && outer.names.lookup n == some .cell) = true
      · simp only [if_pos hc, List.lookup_cons, hb]; exact ih
      · simp only [if_neg hc, List.lookup_cons, hb]; exact ih

structure ScopeOk (scope outer : Scope) (x : Str) : Prop where
  kind : scope.kind = .function
  loc : scope.names.lookup x = some .local
  okind : outer.kind = .function
  noCell : ∀ y ∈ scope.names, y.2 ≠ .cell
  locs : ∀ y ∈ scope.names, y.2 = .local → scope.names.lookup y.1 = some .local
  free : ∀ y ∈ scope.names, y.2 = .free → outer.names.lookup y.1 = some .cell
  free' : ∀ y, scope.names.lookup y = some .free → outer.names.lookup y = some .cell

theorem scopeOk_of {scope outer : Scope} {x : Str} (h : compScopeOk scope outer x = true) : ScopeOk scope outer x := by
  simp only [compScopeOk, Bool.and_eq_true, beq_iff_eq, List.all_eq_true, bne_iff_ne, Bool.or_eq_true, decide_eq_true_eq] at h
  obtain ⟨⟨⟨h1, h2⟩, h3⟩, h4⟩ := h
  refine ⟨h1, h2, h3, fun y hy => (h4 y hy).1.1, fun y hy e => ?_, fun y hy e => ?_, fun y e => ?_⟩
  · exact ((h4 y hy).1.2).resolve_left (fun q => q e)
  · exact (((h4 y hy).2).resolve_left (fun q => q e)).1
  · exact (((h4 (y, .free) (lookup_mem e)).2).resolve_left (fun q => q rfl)).1

theorem closure_of {env : Env} : ∀ (names : List (Str × NameKind)) (acc : List (Str × Addr)), (∀ y ∈ names, y.2 = .free → ∃ c, env.cells.lookup y.1 = some c) → (∀ p ∈ acc, env.cells.lookup p.1 = some p.2) →
    ∃ cl : List (Str × Addr), (forIn names acc fun (p : Str × NameKind) (cs : List (Str × Addr)) => (if p.2 == NameKind.free then (do let c ← cellOf env p.1; pure (ForInStep.yield ((p.1, c) :: cs))) else pure (ForInStep.yield cs) : Sem (ForInStep (List (Str × Addr))))) = pure cl ∧
      (∀ p ∈ cl, env.cells.lookup p.1 = some p.2) ∧ (∀ y, ((y, NameKind.free) ∈ names ∨ ∃ c, (y, c) ∈ acc) → ∃ c, (y, c) ∈ cl)
  | [], acc, _, ha => ⟨acc, rfl, ha, fun y h => h.elim (fun q => nomatch q) id⟩
  | (nm, k) :: r, acc, h, ha => by
    by_cases hk : k = .free
    · subst hk
      obtain ⟨c, hc⟩ := h (nm, .free) List.mem_cons_self rfl
      obtain ⟨cl, e, h1, h2⟩ := closure_of r ((nm, c) :: acc) (fun y hy => h y (List.mem_cons_of_mem _ hy)) (fun p hp => by
        rcases List.mem_cons.mp hp with rfl | hp
        · exact hc
        · exact ha p hp)
      refine ⟨cl, ?_, h1, fun y hy => h2 y ?_⟩
      · rw [List.forIn_cons, ← e]
        simp only [beq_self_eq_true, if_true, cellOf, hc]
        rfl
      · rcases hy with hy | ⟨d, hd⟩
        · rcases List.mem_cons.mp hy with q | hy
          · cases q; exact .inr ⟨c, List.mem_cons_self⟩
          · exact .inl hy
        · exact .inr ⟨d, List.mem_cons_of_mem _ hd⟩
    · obtain ⟨cl, e, h1, h2⟩ := closure_of r acc (fun y hy => h y (List.mem_cons_of_mem _ hy)) ha
      refine ⟨cl, ?_, h1, fun y hy => h2 y ?_⟩
      · rw [List.forIn_cons, ← e]
        have : (k == NameKind.free) = false := beq_eq_false_iff_ne.mpr hk
        simp only [this, Bool.false_eq_true, if_false]
        rfl
      · rcases hy with hy | hd
        · rcases List.mem_cons.mp hy with q | hy
          · cases q; exact absurd rfl hk
          · exact .inl hy
        · exact .inr hd

theorem lookup_of_mem {α β : Type} [BEq α] [LawfulBEq α] {x : α} {c : β} : ∀ {l : List (α × β)}, (x, c) ∈ l → ∃ d, l.lookup x = some d
  | (y, d) :: l, h => by
    rw [List.lookup_cons]
    cases hb : x == y with
    | true => exact ⟨d, rfl⟩
    | false =>
      rcases List.mem_cons.mp h with q | h
      · cases q; simp at hb
      · exact lookup_of_mem h

theorem closureFor_ok {fm : Fm} (W : fm.OK cx A) {scope : Scope} {x : Str} (O : ScopeOk scope fm.env.scope x) :
    ∃ cl, closureFor scope fm.env = pure cl ∧ (∀ y c, cl.lookup y = some c → fm.env.cells.lookup y = some c) ∧ (∀ y, scope.names.lookup y = some .free → ∃ c, cl.lookup y = some c) := by
  obtain ⟨cl, e, h1, h2⟩ := closure_of (env := fm.env) scope.names [] (fun y hy q => W.cellAt y.1 (O.free y hy q)) (fun _ hp => nomatch hp)
  refine ⟨cl, ?_, fun y c q => h1 _ (lookup_mem q), fun y q => ?_⟩
  · unfold closureFor
    have : (fun (x : Str × NameKind) (r : List (Str × Addr)) => (match x with | (name, kind) => if (kind == NameKind.free) = true then do let c ← cellOf fm.env name; pure (ForInStep.yield ((name, c) :: r)) else pure (ForInStep.yield r) : Sem (ForInStep (List (Str × Addr))))) =
      fun p cs => (if p.2 == NameKind.free then (do let c ← cellOf fm.env p.1; pure (ForInStep.yield ((p.1, c) :: cs))) else pure (ForInStep.yield cs)) := by
      funext p cs; rfl
    simp only [this, e]
    rfl
  · obtain ⟨c, hc⟩ := h2 y (.inl (lookup_mem q))
    exact lookup_of_mem hc

theorem getL_append (μ : List V) (v : V) : ∀ i, i < μ.length → getL (μ ++ [v]) i = getL μ i := by
  induction μ with
  | nil => intro i h; cases h
  | cons a l ih =>
    intro i h
    cases i with
    | zero => rfl
    | succ i => exact ih i (Nat.lt_of_succ_lt_succ h)
theorem getL_last (μ : List V) (v : V) : getL (μ ++ [v]) μ.length = v := by
  induction μ with
  | nil => rfl
  | cons a l ih => exact ih

noncomputable abbrev compFm (fm : Fm) (scope : Scope) (cl : List (Str × Addr)) (C : Addr) (x : Str) : Fm := ⟨compEnvC scope cl C fm.env, compNames scope fm.names x, fm.l⟩

theorem compFm_names {fm : Fm} {scope : Scope} {x y : Str} {i : Nat} (h : (compNames scope fm.names x)[i]? = some (some y)) :
    (fm.names[i]? = some (some y) ∧ scope.names.lookup y = some .free) ∨ (i = fm.names.length ∧ y = x) := by
  unfold compNames at h
  by_cases hi : i < fm.names.length
  · rw [List.getElem?_append_left (by simpa using hi), List.getElem?_map, Option.map_eq_some_iff] at h
    obtain ⟨o, e, q⟩ := h
    obtain ⟨rfl, hf⟩ := Option.filter_eq_some_iff.mp q
    exact .inl ⟨e, by simpa using hf⟩
  · rw [List.getElem?_append_right (by simpa using Nat.le_of_not_lt hi)] at h
    simp only [List.length_map] at h
    have : i - fm.names.length = 0 := by
      obtain ⟨hlt, _⟩ := List.getElem?_eq_some_iff.mp h
      simpa using hlt
    rw [this] at h
    simp at h
    exact .inr ⟨by omega, h.symm⟩

theorem kindOf_comp {fm : Fm} {scope : Scope} {cl : List (Str × Addr)} {C : Addr} {x : Str} (O : ScopeOk scope fm.env.scope x) (y : Str) :
    (scope.names.lookup y = some .free → (compEnvC scope cl C fm.env).kindOf y = some .cell) ∧ (scope.names.lookup y = some .local → (compEnvC scope cl C fm.env).kindOf y = some .local) ∧
    ((compEnvC scope cl C fm.env).kindOf y = some .cell → scope.names.lookup y = some .free) := by
  have e : (compEnvC scope cl C fm.env).kindOf y = (scope.names.lookup y).map fun k => if (k == NameKind.free && fm.env.scope.kind == .function && fm.env.scope.names.lookup y == some .cell) then NameKind.cell else k :=
    lookup_relabelS (outer := fm.env.scope) y scope.names
  rw [e]
  refine ⟨fun h => ?_, fun h => ?_, fun h => ?_⟩
  · rw [h]; simp [O.okind, O.free' y h]
  · rw [h]; rfl
  · obtain ⟨k, h1, h2⟩ := Option.map_eq_some_iff.mp h
    split at h2
    · rename_i hc
      simp only [Bool.and_eq_true, beq_iff_eq] at hc
      rw [h1, hc.1.1]
    · subst h2
      exact absurd rfl (O.noCell (y, .cell) (lookup_mem h1))

theorem compFm_ok {fm : Fm} (W : fm.OK cx A) {scope : Scope} {x : Str} (O : ScopeOk scope fm.env.scope x) {cl : List (Str × Addr)} {C : Addr}
    (h1 : ∀ y c, cl.lookup y = some c → fm.env.cells.lookup y = some c) (h2 : ∀ y, scope.names.lookup y = some .free → ∃ c, cl.lookup y = some c)
    (hC : ¬ fm.own C) (hb : cx.base.get? C = none) : (compFm fm scope cl C x).OK cx A where
  frames := W.frames
  kind := O.kind
  globals := W.globals
  builtins := W.builtins
  cellsNe := fun y c hm (e : c = C) => hC (.inr ⟨y, e ▸ h1 y c hm⟩)
  cellsInj := fun y z c e1 e2 => W.cellsInj y z c (h1 _ _ e1) (h1 _ _ e2)
  inj := fun i j y e1 e2 => by
    rcases compFm_names e1 with ⟨a1, a2⟩ | ⟨a1, a2⟩ <;> rcases compFm_names e2 with ⟨b1, b2⟩ | ⟨b1, b2⟩
    · exact W.inj i j y a1 b1
    · subst b2; rw [O.loc] at a2; cases a2
    · subst a2; rw [O.loc] at b2; cases b2
    · rw [a1, b1]
  above := fun a q => by
    rcases q with q | ⟨y, q⟩
    · rw [q]; exact hb
    · exact W.above a (.inr ⟨y, h1 y a q⟩)
  cellAt := fun y q => h2 y ((kindOf_comp (cl := cl) (C := C) O y).2.2 q)

theorem comp_frame {fm : Fm} {H : HP} {μ : List V} {s : Shared} (S : SR cx fm H μ s) {scope : Scope} {x : Str} (O : ScopeOk scope fm.env.scope x) {cl : List (Str × Addr)} {C : Addr}
    (h1 : ∀ y c, cl.lookup y = some c → fm.env.cells.lookup y = some c) (h2 : ∀ y, scope.names.lookup y = some .free → ∃ c, cl.lookup y = some c)
    {m : Str → Option Value} (hn : s.heap.Ns C m) {v : Value} (hv : m x = some v) (hH : H C = none) : SR cx (compFm fm scope cl C x) H (μ ++ [abs v]) s := by
  refine ⟨S.toHS, ⟨?_, ?_, ⟨m, hn⟩, ?_⟩, fun a o e q => ?_, S.ff⟩
  · simp [compNames, S.fr.len]
  · rintro a (q | ⟨y, q⟩)
    · obtain ⟨o, es, ep, e, _⟩ := hn; exact ⟨o, by rw [q]; exact e⟩
    · exact S.fr.live a (.inr ⟨y, h1 y a q⟩)
  · intro i y hy
    rcases compFm_names hy with ⟨a1, a2⟩ | ⟨a1, a2⟩
    · obtain ⟨ov, w, q⟩ := S.fr.var i y a1
      have hil : i < μ.length := by rw [S.fr.len]; exact (List.getElem?_eq_some_iff.mp a1).1
      refine ⟨ov, ?_, by rw [getL_append _ _ _ hil]; exact q⟩
      have hk : fm.env.kindOf y = some .cell := O.free' y a2
      rcases w with ⟨k1, _⟩ | ⟨_, c, hc, hcell⟩
      · rw [hk] at k1; cases k1
      · obtain ⟨d, hd⟩ := h2 y a2
        have := h1 y d hd
        rw [hc] at this; cases this
        exact .inr ⟨(kindOf_comp O y).1 a2, c, hd, hcell⟩
    · subst a2
      refine ⟨some v, .inl ⟨(kindOf_comp O y).2.1 O.loc, m, hn, hv⟩, .inr ⟨v, rfl, ?_⟩⟩
      rw [a1, ← S.fr.len, getL_last]
  · rcases q with q | ⟨y, q⟩
    · have q' : a = C := q
      rw [q', hH] at e; cases e
    · exact S.own a o e (.inr ⟨y, h1 y a q⟩)
end
end Mine
end

section
namespace Mine
open PySem PyProof.Rows PySem.SeqAt

section
variable {cx : Cx} {T : Tbl} {A : Around} {E : Value → Shared → Prop} {n : Nat}

theorem Ns.keep {h h' : Heap} {a : Addr} {m : Str → Option Value} (x : h.Ns a m) (k : ∀ o, h.get? a = some o → h'.get? a = some o) : h'.Ns a m :=
  let ⟨o, es, ep, e, r⟩ := x; ⟨o, es, ep, k o e, r⟩

structure CI (cx : Cx) (fm : Fm) (μ : List V) (s₀ : Shared) (H₀ : HP) (it C D : Addr) (P : Nat → Heap → Prop) (H : HP) (i : Nat) (acc : List V) (s : Shared) : Prop where
  sr : SR cx fm H μ s
  ke : KE s₀ H₀ s H
  pos : P i s.heap
  itH : H it = none
  ns : ∃ m, s.heap.Ns C m
  cH : H C = none
  dl : ∃ ys, s.heap.PlainList D ys ∧ ys.toList.map abs = acc
  dH : H D = none

theorem comp_loop (C : cx.OK) {fm : Fm} {H₀ : HP} {μ : List V} {s₀ : Shared} {Q : V → HP → Prop} (W : fm.OK cx A) {elt iter : Expr} {ifs : List Expr} {x : Str} {px pos : Pos} {scope : Scope}
    (O : ScopeOk scope fm.env.scope x) {cl : List (Str × Addr)} {Ca D it : Addr}
    (h1 : ∀ y c, cl.lookup y = some c → fm.env.cells.lookup y = some c) (h2 : ∀ y, scope.names.lookup y = some .free → ∃ c, cl.lookup y = some c)
    {items : List V} {st : HP → Prop} {P : Nat → Heap → Prop} (I : ∀ E, Iter cx A E it items st P)
    (turn : V → HP → (Option V → HP → Prop) → Prop)
    (hcond : ∀ (E : Value → Shared → Prop) (s : Shared) (H : HP) (v : V) (K : Option V → HP → Prop), SR cx (compFm fm scope cl Ca x) H (μ ++ [v]) s → turn v H K →
      wpAny (model cx.prog cx.w) A (forIn ifs true fun c r => if r = true then do let ok ← isTrue c (compEnvC scope cl Ca fm.env) (eval c (compEnvC scope cl Ca fm.env)); pure (ForInStep.yield ok) else pure (ForInStep.yield r))
        (fun ok s' => ∃ H', HS cx H' s' ∧ KE s H s' H' ∧ (ok = true → wpAny (model cx.prog cx.w) A (eval elt (compEnvC scope cl Ca fm.env)) (EP cx s' H' fun v H => K (some v) H) E s') ∧ (ok = false → K none H')) E s)
    (hfresh : s₀.heap.get? it = none ∧ s₀.heap.get? Ca = none ∧ s₀.heap.get? D = none ∧ Ca ≠ it ∧ D ≠ it ∧ D ≠ Ca)
    (hC : ¬ fm.own Ca ∧ ¬ fm.fr Ca ∧ cx.base.get? Ca = none) (hD : ¬ fm.own D ∧ ¬ fm.fr D ∧ cx.base.get? D = none ∧ cx.Z D = none) (hit : ¬ fm.own it ∧ ¬ fm.fr it ∧ cx.base.get? it = none)
    (hlen : items.length ≤ 16777216) (Inv : List V → List V → HP → Prop) (hst : ∀ done acc H₁, Inv done acc H₁ → st H₁)
    (hturn : ∀ done x rest acc H₁, items = done ++ x :: rest → Inv done acc H₁ → turn x H₁ fun ov H₂ => ∃ H₃, LE H₃ H₂ ∧ Inv (done ++ [x]) (acc ++ ov.toList) H₃)
    (hend : ∀ acc H₁, Inv items acc H₁ → new cx H₁ (.list acc) Q)
    {s : Shared} {H₁ : HP} (hI : Inv [] [] H₁) (hs : CI cx fm μ s₀ H₀ it Ca D P H₁ 0 [] s) {R : Result → Shared → Prop}
    (hR : ∀ s' H', HS cx H' s' → KE s₀ H₀ s' H' → Q (.ref D) H' → H' Ca = none → (∃ m, s'.heap.Ns Ca m) → R (.ok .next) s') :
    codeAny (model cx.prog cx.w) A (.compLoop (.ListComp elt [⟨.Name x px, iter, ifs, 0⟩] scope pos) 0 (.ref it) (.ref D) (compEnvC scope cl Ca fm.env)) R s := by
  refine codeAny_compLoop_tests (fun k s => ∃ done rest acc H, items = done ++ rest ∧ k = rest.length ∧ acc.length ≤ done.length ∧ Inv done acc H ∧ CI cx fm μ s₀ H₀ it Ca D P H done.length acc s) ?_ items.length
    ⟨[], items, [], H₁, rfl, rfl, Nat.le_refl _, hI, hs⟩
  rintro k s ⟨done, rest, acc, H, hitems, rfl, hacc, hInv, B⟩
  have hdl : done.length ≤ items.length := by rw [hitems, List.length_append]; first | lia | omega
  cases rest with
  | nil =>
    rw [List.append_nil] at hitems
    subst hitems
    refine (I _).stop s H _ B.sr.toHS (hst _ _ _ hInv) B.pos fun h' eb => ?_
    have S' := B.sr.aside B.itH hit.1 hit.2.1 hit.2.2 eb s.toks
    obtain ⟨m, hm⟩ := B.ns
    obtain ⟨ys, hys, hya⟩ := B.dl
    obtain ⟨kk, hkk⟩ := hys
    have hD' : h'.get? D = some { cls := .type "list", data := .seq ys kk } := eb D _ hfresh.2.2.2.2.1 hkk
    refine hR _ (upd H D (.list acc)) ⟨fun a o e => ?_, S'.ext, fun a o e => ?_⟩ ⟨fun b o e hb _ => ?_, fun a o e ha _ => ?_, B.ke.os, B.ke.gens⟩ (hend acc H hInv D ⟨B.dH, hD.2.2.1, hD.2.2.2⟩) (by rw [upd_ne _ (Ne.symm hfresh.2.2.2.2.2)]; exact B.cH) ⟨m, Ns.keep hm fun o e => eb Ca o hfresh.2.2.2.1 e⟩
    · by_cases h : a = D
      · subst h; rw [upd_same] at e; cases e; exact rep_list hD' hya
      · rw [upd_ne _ h] at e; exact S'.hr a o e
    · by_cases h : a = D
      · subst h; exact hD.2.2.1
      · rw [upd_ne _ h] at e; exact S'.low a o e
    · obtain ⟨o', e', so⟩ := B.ke.keep b o e hb id
      exact ⟨o', eb b o' (fun q => by subst q; rw [hfresh.1] at e; cases e) e', so⟩
    · rw [upd_ne _ (fun q => by subst q; rw [hfresh.2.2.1] at e; cases e)]
      exact B.ke.dom a o e ha id
  | cons v rest =>
    have hv : items[done.length]? = some v := by rw [hitems]; simp
    refine (I _).next s H done.length v _ B.sr.toHS (hst _ _ _ hInv) B.pos hv fun h₁ tk xv hxa hp₁ sb₁ => ?_
    -- the iterator has gone on
    have S₁ := B.sr.aside B.itH hit.1 hit.2.1 hit.2.2 sb₁.extBut tk
    obtain ⟨m, hm⟩ := B.ns
    have hm₁ : h₁.Ns Ca m := Ns.keep hm fun o e => sb₁.extBut Ca o hfresh.2.2.2.1 e
    refine wpAny_assign_Name (wpAny_storeName_local (m := m) ((kindOf_comp O x).2.1 O.loc) hm₁ (fun h₂ hm₂ sb₂ => ?_) (by show (scope.kind == .class || (scope.kind == .module && _)) = false; rw [O.kind]; rfl))
    have S₂ := S₁.aside B.cH hC.1 hC.2.1 hC.2.2 sb₂.extBut (tk + 1)
    have F₂ := comp_frame S₂ O h1 h2 hm₂ (v := xv) (by simp) B.cH
    rw [hxa] at F₂
    -- all that stood before the turn, but the iterator and the block's names
    have keep₂ : ∀ b o, b ≠ it → b ≠ Ca → s.heap.get? b = some o → h₂.get? b = some o := fun b o n1 n2 e => sb₂.extBut b o n2 (sb₁.extBut b o n1 e)
    have ke₂ : KE s₀ H₀ { s with heap := h₂, toks := tk + 1 } H := ⟨fun b o e hb _ => (let ⟨o', e', so⟩ := B.ke.keep b o e hb id; ⟨o', keep₂ b o' (fun q => by subst q; rw [hfresh.1] at e; cases e) (fun q => by subst q; rw [hfresh.2.1] at e; cases e) e', so⟩), fun a o e ha _ => B.ke.dom a o e ha id, B.ke.os, B.ke.gens⟩
    have pos₂ : P (done.length + 1) h₂ := (I fun _ _ => False).frame _ _ _ hp₁ fun o e => sb₂.extBut it o (Ne.symm hfresh.2.2.2.1) e
    obtain ⟨oit, hoit⟩ := (I fun _ _ => False).live _ _ pos₂
    obtain ⟨ys, hys, hya⟩ := B.dl
    have hys₂ : h₂.PlainList D ys := by obtain ⟨kk, e⟩ := hys; exact ⟨kk, keep₂ D _ hfresh.2.2.2.2.1 hfresh.2.2.2.2.2 e⟩
    refine wpAny_mono (hcond _ _ _ _ _ F₂ (hturn done v rest acc H hitems hInv)) (fun ok s₃ x₃ => ?_) fun _ _ e => e
    obtain ⟨H₃, S₃, k₃, ht, hf⟩ := x₃
    -- an end of a turn, at any later heap
    have fin : ∀ (s₄ : Shared) (H₄ : HP) (acc' : List V) (ys' : Array Value), HS cx H₄ s₄ → KE { s with heap := h₂, toks := tk + 1 } H s₄ H₄ → (∃ H₅, LE H₅ H₄ ∧ Inv (done ++ [v]) acc' H₅) → acc'.length ≤ done.length + 1 →
        ys'.toList.map abs = acc' → ∀ s₅ : Shared, s₅.heap.PlainList D ys' → (∀ b o, b ≠ D → s₄.heap.get? b = some o → s₅.heap.get? b = some o) → s₅.os = s₄.os → s₅.gens = s₄.gens →
        ∃ m, m < (v :: rest).length ∧ ∃ done rest acc H, items = done ++ rest ∧ m = rest.length ∧ acc.length ≤ done.length ∧ Inv done acc H ∧ CI cx fm μ s₀ H₀ it Ca D P H done.length acc s₅ := by
      intro s₄ H₄ acc' ys' S₄ k₄ ⟨H₅, le, hI5⟩ hl hy s₅ hp5 hk5 ho5 hg5
      have S₅ := (S₂.step S₄ k₄).le le
      have dH : H₅ D = none := by
        cases e : H₅ D with
        | none => rfl
        | some o =>
          obtain ⟨kk, e2⟩ := hys₂
          have := k₄.dom D _ e2 B.dH id
          rw [le D o e] at this; cases this
      have itH : H₅ it = none := by
        cases e : H₅ it with
        | none => rfl
        | some o =>
          have := k₄.dom it _ hoit B.itH id
          rw [le it o e] at this; cases this
      have cH : H₅ Ca = none := by
        cases e : H₅ Ca with
        | none => rfl
        | some o =>
          obtain ⟨oc, _, _, e2, _⟩ := hm₂
          have := k₄.dom Ca _ e2 B.cH id
          rw [le Ca o e] at this; cases this
      have S₆ : SR cx fm H₅ μ { s₄ with heap := s₅.heap } := S₅.aside dH hD.1 hD.2.1 hD.2.2.1 hk5 s₄.toks
      refine ⟨rest.length, Nat.lt_succ_self _, done ++ [v], rest, acc', H₅, by rw [hitems]; simp, rfl, by simpa using hl, hI5, ?_⟩
      have S₇ : SR cx fm H₅ μ s₅ := ⟨⟨S₆.hr, S₆.ext, S₆.low⟩, S₆.fr, S₆.own, S₆.ff⟩
      have k5 := (ke₂.trans k₄).le le
      refine ⟨S₇, ⟨fun b o e hb q => (let ⟨o', e', so⟩ := k5.keep b o e hb q; ⟨o', hk5 b o' (fun q => by subst q; rw [hfresh.2.2.1] at e; cases e) e', so⟩), k5.dom, ho5.trans k5.os, hg5.trans k5.gens⟩, ?_, itH, ?_, cH, ⟨ys', hp5, hy⟩, dH⟩
      · rw [List.length_append]
        exact (I fun _ _ => False).frame _ _ _ pos₂ fun o e => hk5 it o (Ne.symm hfresh.2.2.2.2.1) (k₄.same e B.itH id ((I fun _ _ => False).nd _ _ _ pos₂ e))
      · exact ⟨_, Ns.so hm₂ fun oc e => (let ⟨o', e', so⟩ := k₄.keep Ca oc e B.cH id; ⟨o', hk5 Ca o' (Ne.symm hfresh.2.2.2.2.2) e', so⟩)⟩
    cases ok with
    | true =>
      simp only [if_true]
      refine wpAny_mono (ht rfl) (fun y s₄ x₄ => ?_) fun _ _ e => e
      obtain ⟨H₄, S₄, k₄, h₄⟩ := x₄
      have hysn : s₄.heap.PlainList D ys := by
        obtain ⟨kk, e⟩ := hys₂
        have dn := k₃.dom D _ e B.dH id
        exact ⟨kk, k₄.same (k₃.same e B.dH id fun _ _ q => by cases q) dn id fun _ _ q => by cases q⟩
      have hsz : ys.size ≤ sizeLine := by rw [size_of hya, sizeLine_eq]; first | lia | omega
      refine wpAny_list_append_plain hysn (fun h' hp sb => ?_) hsz
      exact fin s₄ H₄ _ (ys.push y) S₄ (k₃.trans k₄) h₄ (by simp; omega) (by rw [Array.toList_push, List.map_append, hya]; rfl) _ hp (fun b o hb e => sb.extBut b o hb e) rfl rfl
    | false =>
      simp only [Bool.false_eq_true, if_false]
      have hysn : s₃.heap.PlainList D ys := by
        obtain ⟨kk, e⟩ := hys₂
        exact ⟨kk, k₃.same e B.dH id fun _ _ q => by cases q⟩
      have := hf rfl
      simp only [Option.toList_none, List.append_nil] at this
      exact fin s₃ H₃ acc ys S₃ k₃ this (by first | lia | omega) hya s₃ hysn (fun _ _ _ e => e) rfl rfl
end
end Mine
end

section
namespace Mine
open PySem PyProof.Rows PySem.SeqAt

section
variable {cx : Cx} {T : Tbl} {A : Around} {E : Value → Shared → Prop} {n : Nat}

theorem comp_block (C : cx.OK) {fm : Fm} {H : HP} {μ : List V} {s : Shared} {Q : V → HP → Prop} (W : fm.OK cx A) (S : SR cx fm H μ s) {elt iter : Expr} {ifs : List Expr} {x : Str} {px pos : Pos} {scope : Scope}
    (O : ScopeOk scope fm.env.scope x) {cl : List (Str × Addr)}
    (h1 : ∀ y c, cl.lookup y = some c → fm.env.cells.lookup y = some c) (h2 : ∀ y, scope.names.lookup y = some .free → ∃ c, cl.lookup y = some c)
    {items : List V} {st : HP → Prop} {P : Nat → Heap → Prop} {it : Addr} {ob : Obj} (I : ∀ E, Iter cx A E it items st P) (hit : s.heap.get? it = none) (hP : P 0 (s.heap.push ob)) 
    (turn : V → HP → (Option V → HP → Prop) → Prop)
    (hcond : ∀ (Ca : Addr) (E : Value → Shared → Prop) (s : Shared) (H : HP) (v : V) (K : Option V → HP → Prop), (compFm fm scope cl Ca x).OK cx A → SR cx (compFm fm scope cl Ca x) H (μ ++ [v]) s → turn v H K →
      wpAny (model cx.prog cx.w) A (forIn ifs true fun c r => if r = true then do let ok ← isTrue c (compEnvC scope cl Ca fm.env) (eval c (compEnvC scope cl Ca fm.env)); pure (ForInStep.yield ok) else pure (ForInStep.yield r))
        (fun ok s' => ∃ H', HS cx H' s' ∧ KE s H s' H' ∧ (ok = true → wpAny (model cx.prog cx.w) A (eval elt (compEnvC scope cl Ca fm.env)) (EP cx s' H' fun v H => K (some v) H) E s') ∧ (ok = false → K none H')) E s)
    (hC : CompP cx items st H turn Q) {RR : Value → Addr → Result → Shared → Prop}
    (hRR : ∀ D Ca s' H', HS cx H' s' → KE s H s' H' → Q (.ref D) H' → H' Ca = none → s.heap.get? Ca = none → (∃ m, s'.heap.Ns Ca m) → RR (.ref D) Ca (.ok .next) s') :
    wpAny (model cx.prog cx.w) A (newList []) (fun acc s₃ => wpAny (model cx.prog cx.w) A (newFunctionEnv scope fm.env.globals cl [] fm.env.qual none .none (some fm.env)) (fun cenv s₄ =>
      codeAny (model cx.prog cx.w) A (.compStart (.ListComp elt [⟨.Name x px, iter, ifs, 0⟩] scope pos) 0 (.ref it) acc { cenv with scope := relabel scope fm.env }) (RR acc cenv.locals) s₄) E s₃) E
      { s with heap := s.heap.push ob } := by
  obtain ⟨hlen, Inv, hI0, hst, hturn, hend⟩ := hC
  refine wpAny_newList ?_ (by simp)
  refine wpAny_newFunctionEnv O.noCell (by intro y hy; cases hy) (fun h₁ hns₁ hsb₁ => ?_) O.kind
  dsimp only at hns₁ hsb₁ ⊢
  obtain ⟨oit, hoit⟩ := (I fun _ _ => False).live _ _ hP
  have hitlt : @LT.lt Nat _ it (s.heap.objs.size + 1) := by have := Heap.lt_size hoit; rwa [Heap.size_push] at this
  -- names for the two new places
  have hD1 : (s.heap.push ob).objs.size = s.heap.objs.size + 1 := Heap.size_push ..
  generalize hDe : (s.heap.push ob).objs.size = D at hns₁ hsb₁ ⊢
  generalize hH2 : (s.heap.push ob).push { cls := .type "list", data := .seq ([] : List Value).toArray } = h2' at hns₁ hsb₁ ⊢
  generalize hCe : h2'.objs.size = Ca at hns₁ hsb₁ ⊢
  have hCa : Ca = D + 1 := by rw [← hCe, ← hH2, Heap.size_push, hDe]
  have hDv : D = s.heap.objs.size + 1 := by rw [← hDe, hD1]
  have hns0 : ∀ b, s.heap.objs.size ≤ b → s.heap.get? b = none := fun b hb => by
    cases e : s.heap.get? b with
    | none => rfl
    | some o => exact absurd (Heap.lt_size e) (Nat.not_lt.mpr hb)
  have hsD : s.heap.get? D = none := hns0 D (by first | lia | omega)
  have hsC : s.heap.get? Ca = none := hns0 Ca (by first | lia | omega)
  have hown : ∀ b, s.heap.get? b = none → ¬ fm.own b := fun b hb q => by
    obtain ⟨o, e⟩ := S.fr.live b q
    rw [hb] at e; cases e
  have hfrn : ∀ b, s.heap.get? b = none → ¬ fm.fr b := fun b hb ⟨e, he, hf⟩ => by
    obtain ⟨_, L, o, _, _, q1, _, _, q4, _⟩ := S.ff e he
    rw [hf] at q1; cases q1; rw [hb] at q4; cases q4
  have nCit : Ca ≠ it := Nat.ne_of_gt (by first | lia | omega)
  have nDit : D ≠ it := Nat.ne_of_gt (by first | lia | omega)
  have nDC : D ≠ Ca := by first | lia | omega
  -- what stood stands
  have k₁ : ∀ b o, s.heap.get? b = some o → h₁.get? b = some o := fun b o e => by
    have hb : @LT.lt Nat _ b _ := Heap.lt_size e
    refine hsb₁.extBut b o (Nat.ne_of_lt (by first | lia | omega)) (Heap.get?_push_of_some _ ?_)
    rw [← hH2]
    exact Heap.get?_push_of_some _ (Heap.get?_push_of_some _ e)
  have kit : ∀ o, (s.heap.push ob).get? it = some o → h₁.get? it = some o := fun o e => by
    refine hsb₁.extBut it o (Ne.symm nCit) (Heap.get?_push_of_some _ ?_)
    rw [← hH2]
    exact Heap.get?_push_of_some _ e
  have hDl : h₁.PlainList D #[] := ⟨0, hsb₁.extBut D _ nDC (Heap.get?_push_of_some _ (by
    rw [← hH2, ← hDe]; exact Heap.get?_push_size _ rfl))⟩
  have S' := S.toHS.grow k₁ (s.toks + ([] : List (Str × Value)).length)
  have K' : KE s H { s with heap := h₁, toks := s.toks + ([] : List (Str × Value)).length } H := KE.grow k₁ _
  have hfr := S.toHS.fresh C hsD
  have loop : codeAny (model cx.prog cx.w) A (.compLoop (.ListComp elt [⟨.Name x px, iter, ifs, 0⟩] scope pos) 0 (.ref it) (.ref D) (compEnvC scope cl Ca fm.env)) (RR (.ref D) Ca)
      { s with heap := h₁, toks := s.toks + ([] : List (Str × Value)).length } := by
    have cok : (compFm fm scope cl Ca x).OK cx A := compFm_ok W O h1 h2 (hown _ hsC) (S.toHS.base_none hsC)
    refine comp_loop (s₀ := s) (H₀ := H) C W O h1 h2 I turn (fun E s H v K F ht => hcond Ca E s H v K cok F ht) ⟨hit, hsC, hsD, nCit, nDit, nDC⟩ ⟨hown _ hsC, hfrn _ hsC, S.toHS.base_none hsC⟩ ⟨hown _ hsD, hfrn _ hsD, hfr.2.1, hfr.2.2⟩ ⟨hown _ hit, hfrn _ hit, S.toHS.base_none hit⟩ hlen
      Inv hst hturn hend hI0 ⟨S.step S' K', K', (I fun _ _ => False).frame _ _ _ hP kit, S.toHS.none_of hit, ⟨_, hns₁⟩, S.toHS.none_of hsC, ⟨#[], hDl, rfl⟩, S.toHS.none_of hsD⟩ ?_
    intro s' H' S₂ k₂ hQ hCn hns
    exact hRR D Ca s' H' S₂ k₂ hQ hCn hsC hns
  exact codeAny_compStart_list loop ((I _).self _ _ ((I fun _ _ => False).frame _ _ _ hP kit) loop)
end
end Mine
end

section
namespace Mine
open PySem PyProof.Rows PySem.SeqAt

section
variable {cx : Cx} {T : Tbl} {A : Around} {E : Value → Shared → Prop} {n : Nat}

noncomputable def ItPost (cx : Cx) (A : Around) (s : Shared) (H : HP) (K : List V → (HP → Prop) → HP → Prop) : Value → Shared → Prop := fun v s₂ =>
  ∃ it P ob s₁ H₁ items st, v = .ref it ∧ HS cx H₁ s₁ ∧ KE s H s₁ H₁ ∧ s₂ = { s₁ with heap := s₁.heap.push ob } ∧ s₁.heap.get? it = none ∧ (∀ E, Iter cx A E it items st P) ∧ P 0 (s₁.heap.push ob) ∧ K items st H₁

theorem iterP_ok (C : cx.OK) (hh : A.handled = none) {H : HP} {s : Shared} (S : HS cx H s) {v : Value} {K : List V → (HP → Prop) → HP → Prop} (h : IterP cx (abs v) H K) :
    wpAny (model cx.prog cx.w) A (pyIter v) (ItPost cx A s H K) E s := by
  obtain ⟨a, ha, h⟩ := onR_inv h
  have := abs_ref ha; subst this
  obtain ⟨vs, hl, h⟩ := onHL_inv h
  exact iter_list C hh S hl fun it P ob h1 h2 h3 => ⟨it, P, ob, s, H, vs, _, rfl, S, Kept.refl _ s H, rfl, h1, h2, h3, h.2⟩

theorem rng_end (hA : AOK A n) {H : HP} {s : Shared} {K : List V → (HP → Prop) → HP → Prop} {s₁ : Shared} {H₁ : HP} {x y : Int} {t u v : Tok} {tk : Nat} (S₁ : HS cx H₁ s₁) (k₁ : KE s H s₁ H₁) (hr : RngP (.int x) (.int y) fun items => K items (fun _ => True) H₁) :
    wpAny (model cx.prog cx.w) A (pyIter (.ref s₁.heap.objs.size)) (ItPost cx A s H K) E { s₁ with heap := s₁.heap.push { cls := .type "range", data := .fields #[.int x t, .int y u, .int 1 v] }, toks := tk } := by
  have kg : ∀ b o, s₁.heap.get? b = some o → (s₁.heap.push { cls := .type "range", data := .fields #[.int x t, .int y u, .int 1 v] }).get? b = some o := fun b o e => Heap.get?_push_of_some _ e
  refine iter_range (s := { s₁ with heap := s₁.heap.push { cls := .type "range", data := .fields #[.int x t, .int y u, .int 1 v] }, toks := tk }) hA.handled (IsRange.new _ _ _ _ _ _ _) hr.1 hr.2.1 fun it P ob h1 h2 h3 => ?_
  exact ⟨it, P, ob, _, H₁, _, _, rfl, S₁.grow kg tk, k₁.trans (KE.grow kg tk), rfl, h1, h2, h3, hr.2.2⟩
theorem rng_inv {v w : Value} {P : List V → Prop} (h : RngP (abs v) (abs w) P) : ∃ x y t u, v = .int x t ∧ w = .int y u ∧ RngP (.int x) (.int y) P := by
  obtain ⟨x, e1, h⟩ := onI_inv h
  obtain ⟨y, e2, h⟩ := onI_inv h
  obtain ⟨t, e1⟩ := abs_int e1
  obtain ⟨u, e2⟩ := abs_int e2
  exact ⟨x, y, t, u, e1, e2, h⟩
noncomputable def RngArgs (cx : Cx) (A : Around) (n : Nat) (fm : Fm) (a b : ME) (as : List Expr) : Prop :=
  (∃ e, as = [e] ∧ a = .cint 0 ∧ kindOK e = true ∧ JE cx A n b fm e) ∨ ∃ e e', as = [e, e'] ∧ kindOK e = true ∧ kindOK e' = true ∧ JE cx A n a fm e ∧ JE cx A n b fm e'
theorem it_rng (C : cx.OK) (TO : T.OK cx) (hA : AOK A n) {fm : Fm} {H : HP} {μ : List V} {s : Shared} (W : fm.OK cx A) (S : SR cx fm H μ s) {np p : Pos} {as : List Expr} {a b : ME}
    (hx : isGlob fm.env.scope "range" = true) (ha : RngArgs cx A n fm a b as)
    {K : List V → (HP → Prop) → HP → Prop} (h : mwpE cx n a μ H fun x H => mwpE cx n b μ H fun y H => RngP x y fun items => K items (fun _ => True) H) :
    wpAny (model cx.prog cx.w) A (eval (.Call (.Name "range" np) as [] p) fm.env) (fun xv s₁ => wpAny (model cx.prog cx.w) A (pyIter xv) (ItPost cx A s H K) E s₁) E s := by
  refine wpAny_Call_ofName (glob_name C W S.toHS hx TO.rng ?_)
  rcases ha with ⟨e, rfl, rfl, ke, i⟩ | ⟨e, e', rfl, ke, ke', i, i'⟩
  · rw [starEach_of ke]
    refine PySem.callWith_type rfl (Calls.evalArgs_plain (Calls.spliced_cons (ep_then (i E H μ s _ S h) fun v s₁ H₁ S₁ k₁ h₁ => Calls.spliced_nil ?_)))
    obtain ⟨y, e2, h2⟩ := onI_inv (v := abs v) h₁
    obtain ⟨t, rfl⟩ := abs_int e2
    exact call_range_1 (rng_end hA S₁ k₁ h2)
  · rw [starEach_of ke, starEach_of ke']
    refine PySem.callWith_type rfl (Calls.evalArgs_plain (Calls.spliced_cons (ep_then (i E H μ s _ S h) fun v s₁ H₁ S₁ k₁ h₁ => ?_)))
    refine Calls.spliced_cons (ep_then (i' E H₁ μ s₁ _ (S.step S₁ k₁) h₁) fun w s₂ H₂ S₂ k₂ h₂ => Calls.spliced_nil ?_)
    obtain ⟨x, y, t, u, rfl, rfl, h₂⟩ := rng_inv h₂
    exact call_range_2 (rng_end hA S₂ (k₁.trans k₂) h₂)

theorem it_val (C : cx.OK) (hA : AOK A n) {fm : Fm} {H : HP} {μ : List V} {s : Shared} (S : SR cx fm H μ s) {e : Expr} {m : ME} (i : JE cx A n m fm e)
    {K : List V → (HP → Prop) → HP → Prop} (h : mwpE cx n m μ H fun v H => IterP cx v H K) :
    wpAny (model cx.prog cx.w) A (eval e fm.env) (fun xv s₁ => wpAny (model cx.prog cx.w) A (pyIter xv) (ItPost cx A s H K) E s₁) E s := by
  refine ep_then (i E H μ s _ S h) fun v s₁ H₁ S₁ k₁ h₁ => wpAny_mono (iterP_ok C hA.handled S₁ h₁) (fun v s₂ x => ?_) fun _ _ e => e
  obtain ⟨it, P, ob, s₃, H₃, items, st, a1, a2, a3, a4⟩ := x
  exact ⟨it, P, ob, s₃, H₃, items, st, a1, a2, k₁.trans a3, a4⟩
end
end Mine
end

section
namespace Mine
open PySem PyProof.Rows PySem.SeqAt

section
variable {cx : Cx} {T : Tbl} {A : Around} {E : Value → Shared → Prop} {n : Nat}

noncomputable def CTests (cx : Cx) (A : Around) (n : Nat) (c : ME) (fm : Fm) (ifs : List Expr) : Prop := (ifs = [] ∧ isTrueM c = true) ∨ ∃ e, ifs = [e] ∧ JT cx A n c fm e
theorem comp_turn {fm : Fm} {μ : List V} {scope : Scope} {x : Str} {cl : List (Str × Addr)} {Ca : Addr} {elt : Expr} {ifs : List Expr} {el cond : ME}
    (ie : JE cx A n el (compFm fm scope cl Ca x) elt) (ic : CTests cx A n cond (compFm fm scope cl Ca x) ifs) (E : Value → Shared → Prop) (s : Shared) (H : HP) (v : V) (K : Option V → HP → Prop) (S : SR cx (compFm fm scope cl Ca x) H (μ ++ [v]) s)
    (h : mwpE cx n cond (μ ++ [v]) H fun c H₂ => onB c fun b => ifB b (mwpE cx n el (μ ++ [v]) H₂ fun v H₃ => K (some v) H₃) (K none H₂)) :
    wpAny (model cx.prog cx.w) A (forIn ifs true fun c r => if r = true then do let ok ← isTrue c (compEnvC scope cl Ca fm.env) (eval c (compEnvC scope cl Ca fm.env)); pure (ForInStep.yield ok) else pure (ForInStep.yield r))
      (fun ok s' => ∃ H', HS cx H' s' ∧ KE s H s' H' ∧ (ok = true → wpAny (model cx.prog cx.w) A (eval elt (compEnvC scope cl Ca fm.env)) (EP cx s' H' fun v H => K (some v) H) E s') ∧ (ok = false → K none H')) E s := by
  rcases ic with ⟨rfl, hc⟩ | ⟨c, rfl, ic⟩
  · refine wpAny_tests_nil ⟨H, S.toHS, Kept.refl _ s H, fun _ => ?_, fun e => by cases e⟩
    cases cond <;> first | (have := hc; subst this; exact ie E H (μ ++ [v]) s _ S h) | exact (Bool.false_ne_true hc).elim
  · refine wpAny_tests_one (wpAny_mono (ic E H (μ ++ [v]) s (fun b H₂ => ifB b (mwpE cx n el (μ ++ [v]) H₂ fun v H₃ => K (some v) H₃) (K none H₂)) S h) (fun b s₁ x => ?_) fun _ _ e => e)
    obtain ⟨H₁, S₁, k₁, h₁⟩ := x
    exact ⟨H₁, S₁, k₁, fun hb => (by subst hb; exact ie E H₁ (μ ++ [v]) s₁ _ (S.step S₁ k₁) h₁), fun hb => by subst hb; exact h₁⟩

noncomputable def CUse (cx : Cx) (A : Around) (E : Value → Shared → Prop) (s : Shared) (H : HP) (Q : V → HP → Prop) (use : Option (Value → Sem Unit)) (Q' : Value → Shared → Prop) : Prop :=
  ∀ (D Ca : Addr) (s' : Shared) (H' : HP), HS cx H' s' → KE s H s' H' → Q (.ref D) H' → H' Ca = none → cx.base.get? Ca = none → (∀ o, s.heap.get? Ca = some o → H Ca = none → False) → (∃ m, s'.heap.Ns Ca m) → compPost (model cx.prog cx.w) A E use Q' (.ref D) Ca (.ok .next) s'
theorem comp_any (C : cx.OK) {fm : Fm} {H : HP} {μ : List V} {s : Shared} {Q : V → HP → Prop} (W : fm.OK cx A) (S : SR cx fm H μ s) {elt iter : Expr} {ifs : List Expr} {x : Str} {px pos p0 : Pos} {scope : Scope} {el cond : ME}
    (O : ScopeOk scope fm.env.scope x) (ki : kindOK iter = true) (ie : ∀ fm' : Fm, fm'.OK cx A → fm'.env.scope = relabelS scope fm.env.scope → fm'.names = compNames scope fm.names x → JE cx A n el fm' elt ∧ CTests cx A n cond fm' ifs)
    {K : List V → (HP → Prop) → HP → Prop} (hK : ∀ items st H₁, K items st H₁ → CompP cx items st H₁ (fun x H₁ K => mwpE cx n cond (μ ++ [x]) H₁ fun c H₂ => onB c fun b => ifB b (mwpE cx n el (μ ++ [x]) H₂ fun v H₃ => K (some v) H₃) (K none H₂)) Q)
    (hw : wpAny (model cx.prog cx.w) A (eval iter fm.env) (fun xv s₁ => wpAny (model cx.prog cx.w) A (pyIter xv) (ItPost cx A s H K) E s₁) E s)
    {use : Option (Value → Sem Unit)} {Q' : Value → Shared → Prop} (huse : CUse cx A E s H Q use Q') :
    wpAny (model cx.prog cx.w) A (comprehension (.ListComp elt [⟨.Name x px, iter, ifs, 0⟩] scope pos) scope fm.env p0 (newList []) false (eval iter fm.env) use) Q' E s := by
  obtain ⟨cl, hcl, h1, h2⟩ := closureFor_ok W O
  refine wpAny_comprehension_free rfl (folded_of ki fm.env) hcl O.kind O.locs (wpAny_mono hw (fun xv s₁ hx => wpAny_mono hx (fun itv s₂ hy => ?_) fun _ _ e => e) fun _ _ e => e)
  obtain ⟨ita, P, ob, s₃, H₁, items, st, rfl, S₁, k₁, rfl, hf, I, hP, hk⟩ := hy
  refine comp_block (RR := compPost (model cx.prog cx.w) A E use Q') C W (S.step S₁ k₁) O h1 h2 I hf hP _ (fun Ca E s H v K cok F ht => comp_turn (ie _ cok rfl rfl).1 (ie _ cok rfl rfl).2 E s H v K F ht) (hK _ _ _ hk) ?_
  intro D Ca s' H' S' k' hQ hCa hCf hns
  exact huse D Ca s' H' S' (k₁.trans k') hQ hCa (S₁.base_none hCf) (fun o e e2 => by obtain ⟨o', e', _⟩ := k₁.keep Ca o e e2 id; rw [e'] at hCf; cases hCf) hns

theorem post_same {H H' : HP} {s s' : Shared} {Ca : Addr} {h' : Heap} (S' : HS cx H' s') (k : KE s H s' H') (hCa : H' Ca = none) (hb : cx.base.get? Ca = none) (hf : ∀ o, s.heap.get? Ca = some o → H Ca = none → False)
    (sb : Heap.SameBut Ca s'.heap h') : HS cx H' { s' with heap := h' } ∧ KE s H { s' with heap := h' } H' :=
  ⟨⟨fun a o e => (S'.hr a o e).of_eq (sb.2 a (fun q => by subst q; rw [hCa] at e; cases e)), fun b o e => (sb.2 b (fun q => by subst q; rw [hb] at e; cases e)).trans (S'.ext b o e), S'.low⟩,
    ⟨fun b o e hn q => (let ⟨o', e', so⟩ := k.keep b o e hn q; ⟨o', (sb.2 b (fun q => by subst q; exact hf o e hn)).trans e', so⟩), k.dom, k.os, k.gens⟩⟩

noncomputable def JC (cx : Cx) (A : Around) (n : Nat) (m : ME) (fm : Fm) (e : Expr) : Prop := ∀ (E : Value → Shared → Prop) (H : HP) (μ : List V) (s : Shared) (Q : V → HP → Prop) (p0 : Pos) (use : Option (Value → Sem Unit)) (Q' : Value → Shared → Prop) (elt : Expr) (gens : List Comprehension) (scope : Scope) (pos : Pos),
  e = .ListComp elt gens scope pos → SR cx fm H μ s → mwpE cx n m μ H Q → CUse cx A E s H Q use Q' → wpAny (model cx.prog cx.w) A (comprehension (.ListComp elt gens scope pos) scope fm.env p0 (newList []) (firstAsync gens) (firstIter gens fm.env) use) Q' E s
theorem jc_value {m : ME} {fm : Fm} {elt : Expr} {gens : List Comprehension} {scope : Scope} {pos : Pos} (i : JC cx A n m fm (.ListComp elt gens scope pos)) : JE cx A n m fm (.ListComp elt gens scope pos) := by
  intro E H μ s Q S h
  rw [eval_ListComp]
  refine i E H μ s Q _ _ _ elt gens scope pos rfl S h ?_
  intro D Ca s' H' S' k hQ hCa hb hf hns
  obtain ⟨m, hm⟩ := hns
  exact ⟨m, hm, fun h' sb => (let ⟨a, b⟩ := post_same S' k hCa hb hf sb; ⟨H', a, b, hQ⟩)⟩
theorem jc_comp (C : cx.OK) (hA : AOK A n) {fm : Fm} (W : fm.OK cx A) {elt iter : Expr} {ifs : List Expr} {x : Str} {px pos : Pos} {scope : Scope} {el it cond : ME}
    (O : ScopeOk scope fm.env.scope x) (ki : kindOK iter = true) (ie : ∀ fm' : Fm, fm'.OK cx A → fm'.env.scope = relabelS scope fm.env.scope → fm'.names = compNames scope fm.names x → JE cx A n el fm' elt ∧ CTests cx A n cond fm' ifs)
    (ii : JE cx A n it fm iter) : JC cx A n (.comp el it cond) fm (.ListComp elt [⟨.Name x px, iter, ifs, 0⟩] scope pos) := by
  intro E H μ s Q p0 use Q' _ _ _ _ e S h hu
  cases e
  exact comp_any C W S O ki ie (fun _ _ _ h => h) (it_val C hA S ii h) hu
theorem jc_compR (C : cx.OK) (TO : T.OK cx) (hA : AOK A n) {fm : Fm} (W : fm.OK cx A) {elt : Expr} {as ifs : List Expr} {x : Str} {px np ip pos : Pos} {scope : Scope} {el a b cond : ME}
    (O : ScopeOk scope fm.env.scope x) (hx : isGlob fm.env.scope "range" = true) (ie : ∀ fm' : Fm, fm'.OK cx A → fm'.env.scope = relabelS scope fm.env.scope → fm'.names = compNames scope fm.names x → JE cx A n el fm' elt ∧ CTests cx A n cond fm' ifs)
    (ha : RngArgs cx A n fm a b as) : JC cx A n (.compR el a b cond) fm (.ListComp elt [⟨.Name x px, .Call (.Name "range" np) as [] ip, ifs, 0⟩] scope pos) := by
  intro E H μ s Q p0 use Q' _ _ _ _ e S h hu
  cases e
  exact comp_any C W S O rfl ie (fun _ _ _ h => h) (it_rng C TO hA W S hx ha h) hu

noncomputable def isComp : Expr → Bool
  | .ListComp .. => true
  | _ => false
structure JJ (cx : Cx) (A : Around) (n : Nat) (m : ME) (fm : Fm) (e : Expr) : Prop where
  v : JE cx A n m fm e
  t : JT cx A n m fm e
  c : isComp e = true → JC cx A n m fm e
  k : kindOK e = true
theorem jj {m : ME} {fm : Fm} {e : Expr} (v : JE cx A n m fm e) (t : JT cx A n m fm e) (hc : isComp e = false) (hk : kindOK e = true) : JJ cx A n m fm e := ⟨v, t, fun q => (Bool.false_ne_true (hc.symm.trans q)).elim, hk⟩
theorem jj1 {m : ME} {fm : Fm} {e : Expr} (hc : isComp e = false) (hk : kindOK e = true) (he : ∀ env whole, isTrue e env whole = (do let v ← whole; standAt e.pos; holding [v] (truthy v))) (v : JE cx A n m fm e) : JJ cx A n m fm e := jj v (t_value v he) hc hk
theorem jjc {m : ME} {fm : Fm} {elt : Expr} {gens : List Comprehension} {scope : Scope} {pos : Pos} (i : JC cx A n m fm (.ListComp elt gens scope pos)) : JJ cx A n m fm (.ListComp elt gens scope pos) := ⟨jc_value i, t_value (jc_value i) fun _ _ => rfl, fun _ => i, rfl⟩
structure JR (cx : Cx) (A : Around) (n : Nat) (ms : MEs) (fm : Fm) (es : List Expr) : Prop where
  l : JL cx A n ms fm es
  b : ∀ op, JB cx A n op ms fm es
  u : ∀ op, JU cx A n op ms fm es
  one : ∀ m e, ms = .cons m .nil → es = [e] → JE cx A n m fm e
  ks : ∀ e ∈ es, kindOK e = true

theorem tests_of {fm : Fm} {c : ME} {ifs : List Expr} (h : (ifs.isEmpty && isTrueM c || l1 ifs fun i => chkE T c fm.env.scope fm.names i) = true) (i : ∀ e, chkE T c fm.env.scope fm.names e = true → JJ cx A n c fm e) : CTests cx A n c fm ifs := by
  rcases or2 h with h | h
  · obtain ⟨h1, h2⟩ := and2 h; exact .inl ⟨nil_of h1, h2⟩
  · obtain ⟨e, h1, h2⟩ := l1_inv h; exact .inr ⟨e, h1, (i e h2).t⟩
theorem zero_of {m : ME} (h : isZeroM m = true) : m = .cint 0 := by
  cases m <;> first | (rw [eq_of_beq (show (_ == (0 : Int)) = true from h)]) | exact (Bool.false_ne_true h).elim
theorem none_of {m : ME} (h : isNoneM m = true) : m = .cnone := by
  cases m <;> first | rfl | exact (Bool.false_ne_true h).elim
theorem rng_of {fm : Fm} {a b : ME} {as : List Expr} (h : ((l1 as fun q => isZeroM a && chkE T b fm.env.scope fm.names q) || l2 as fun p q => chkE T a fm.env.scope fm.names p && chkE T b fm.env.scope fm.names q) = true)
    (ia : ∀ e, chkE T a fm.env.scope fm.names e = true → JJ cx A n a fm e) (ib : ∀ e, chkE T b fm.env.scope fm.names e = true → JJ cx A n b fm e) : RngArgs cx A n fm a b as := by
  rcases or2 h with h | h
  · obtain ⟨e, h1, h2⟩ := l1_inv h
    obtain ⟨h2, h3⟩ := and2 h2
    exact .inl ⟨e, h1, zero_of h2, (ib e h3).k, (ib e h3).v⟩
  · obtain ⟨e, e', h1, h2⟩ := l2_inv h
    obtain ⟨h2, h3⟩ := and2 h2
    exact .inr ⟨e, e', h1, (ia e h2).k, (ib e' h3).k, (ia e h2).v, (ib e' h3).v⟩

theorem notB {b : Bool} (h : (!b) = true) : b = false := by cases b; rfl; cases h
mutual
theorem sE (C : cx.OK) (TO : T.OK cx) (hA : AOK0 A n) (hh : T.q = false → A.handled = none) : ∀ (m : ME) (fm : Fm) (e : Expr), fm.OK cx A → chkE T m fm.env.scope fm.names e = true → JJ cx A n m fm e
  | .cint i, fm, e, W, h => by
    obtain ⟨c, k, p, rfl, h1⟩ := vConst_inv h; exact jj1 rfl rfl (fun _ _ => rfl) (j_int h1)
  | .cbool b, fm, e, W, h => by
    obtain ⟨c, k, p, rfl, h1⟩ := vConst_inv h; exact jj1 rfl rfl (fun _ _ => rfl) (j_bool h1)
  | .cnone, fm, e, W, h => by
    obtain ⟨c, k, p, rfl, h1⟩ := vConst_inv h; exact jj1 rfl rfl (fun _ _ => rfl) (j_none h1)
  | .cstr x, fm, e, W, h => by
    obtain ⟨c, k, p, rfl, h1⟩ := vConst_inv h; exact jj1 rfl rfl (fun _ _ => rfl) (j_str h1)
  | .loc i, fm, e, W, h => by
    replace h := vName_inv h
    obtain ⟨x, p, rfl, h1⟩ := h
    replace h1 := and2 h1
    obtain ⟨h2, h3⟩ := h1
    exact jj1 rfl rfl (fun _ _ => rfl) (j_loc W h2 (eq_of_beq h3))
  | .bin op l r, fm, e, W, h => by
    replace h := vBin_inv h
    obtain ⟨a, o, b, p, rfl, h1⟩ := h
    replace h1 := and2 h1
    obtain ⟨h2, h3⟩ := h1
    replace h3 := and2 h3
    obtain ⟨h3, h4⟩ := h3
    rw [eq_of_beq h2]
    exact jj1 rfl rfl (fun _ _ => rfl) (j_bin C hA (sE C TO hA hh l fm a W h3).v (sE C TO hA hh r fm b W h4).v)
  | .not m, fm, e, W, h => by
    replace h := vUn_inv h
    obtain ⟨o, a, p, rfl, h1⟩ := h
    replace h1 := and2 h1
    obtain ⟨h2, h3⟩ := h1
    rw [eq_of_beq h2]
    exact jj (j_not (sE C TO hA hh m fm a W h3).v) (t_not (sE C TO hA hh m fm a W h3).t) rfl rfl
  | .cmp l op r, fm, e, W, h => by
    replace h := vCmp_inv h
    obtain ⟨a, ops, cs, p, rfl, h1⟩ := h
    replace h1 := l1_inv h1
    obtain ⟨o, rfl, h2⟩ := h1
    replace h2 := l1_inv h2
    obtain ⟨b, rfl, h3⟩ := h2
    replace h3 := and2 h3
    obtain ⟨h4, h5⟩ := h3
    replace h5 := and2 h5
    obtain ⟨h5, h6⟩ := h5
    rw [eq_of_beq h4]
    have il := sE C TO hA hh l fm a W h5
    have ir := sE C TO hA hh r fm b W h6
    exact jj (j_cmp C hA ir.k il.v ir.v) (t_cmp C hA ir.k il.v ir.v) rfl rfl
  | .bop op ms, fm, e, W, h => by
    replace h := vBool_inv h
    obtain ⟨o, es, p, rfl, h1⟩ := h
    replace h1 := and2 h1
    obtain ⟨h2, h3⟩ := h1
    rw [eq_of_beq h2]
    have i := sEs C TO hA hh ms fm es W h3
    exact jj (fun E H μ s Q S h => i.b op E p H μ s Q S h) (fun E H μ s Q S h => wpAny_isTrue_BoolOp (i.u op E H μ s Q S h)) rfl rfl
  | .callf f ms, fm, e, W, h => by
    replace h := and2 h
    obtain ⟨h0, h⟩ := h
    have hA' : AOK A n := ⟨hA, hh (notB h0)⟩
    replace h := nameCall_inv h
    obtain ⟨x, np, as, p, rfl, h1⟩ := h
    replace h1 := and2 h1
    obtain ⟨h2, h3⟩ := h1
    replace h3 := and2 h3
    obtain ⟨h4, h5⟩ := h3
    replace h5 := and2 h5
    obtain ⟨h6, h7⟩ := h5
    cases as with
    | nil => cases ms with
      | nil => exact jj1 rfl rfl (fun _ _ => rfl) (j_callf0 C TO hA' W h2 (eq_of_beq h4) h6)
      | cons => cases h7
    | cons a r => cases ms with
      | nil => cases h7
      | cons m ms =>
        have i := sEs C TO hA hh (.cons m ms) fm (a :: r) W h7
        exact jj1 rfl rfl (fun _ _ => rfl) (j_callf C TO hA' W h2 (eq_of_beq h4) (i.ks a List.mem_cons_self) i.l)
  | .callb b ms, fm, e, W, h => by
    replace h := and2 h
    obtain ⟨h0, h⟩ := h
    replace h := nameCall_inv h
    obtain ⟨x, np, as, p, rfl, h1⟩ := h
    replace h1 := and2 h1
    obtain ⟨h2, h3⟩ := h1
    replace h3 := and2 h3
    obtain ⟨h4, h5⟩ := h3
    replace h5 := and2 h5
    obtain ⟨h6, h7⟩ := h5
    cases as with
    | nil => cases h6
    | cons a r => cases ms with
      | nil => cases h7
      | cons m ms =>
        have i := sEs C TO hA hh (.cons m ms) fm (a :: r) W h7
        exact jj1 rfl rfl (fun _ _ => rfl) (j_callb C TO hA W (fun e => hh (by rw [e] at h0; exact notB h0)) h2 (eq_of_beq h4) i.ks i.l)
  | .isi m t, fm, e, W, h => by
    replace h := nameCall_inv h
    obtain ⟨x, np, as, p, rfl, h1⟩ := h
    replace h1 := and2 h1
    obtain ⟨h2, h3⟩ := h1
    replace h3 := and2 h3
    obtain ⟨h4, h5⟩ := h3
    replace h5 := l2_inv h5
    obtain ⟨a, b, rfl, h6⟩ := h5
    replace h6 := and2 h6
    obtain ⟨h7, h8⟩ := h6
    replace h8 := vName_inv h8
    obtain ⟨y, tp, rfl, h9⟩ := h8
    replace h9 := and2 h9
    obtain ⟨h10, h11⟩ := h9
    rw [eq_of_beq h4] at h2 ⊢
    exact jj1 rfl rfl (fun _ _ => rfl) (j_isi C TO W h2 h10 (eq_of_beq h11) (sE C TO hA hh m fm a W h7).k (sE C TO hA hh m fm a W h7).v)
  | .app o m, fm, e, W, h => by
    replace h := vCall_inv h
    obtain ⟨f, as, ks, p, rfl, h1⟩ := h
    replace h1 := and2 h1
    obtain ⟨h2, h3⟩ := h1
    replace h3 := vAttr_inv h3
    obtain ⟨b, x, ap, rfl, h4⟩ := h3
    replace h4 := and2 h4
    obtain ⟨h4, h5⟩ := h4
    replace h5 := and2 h5
    obtain ⟨h5, h6⟩ := h5
    replace h6 := and2 h6
    obtain ⟨h6, h7⟩ := h6
    replace h7 := l1_inv h7
    obtain ⟨a, rfl, h8⟩ := h7
    replace h4 := and2 h4
    obtain ⟨h9, h10⟩ := h4
    rw [nil_of h2, eq_of_beq h5]
    have i := sE C TO hA hh m fm a W h8
    exact jj1 rfl rfl (fun _ _ => rfl) (j_app h9 h10 i.k (sE C TO hA hh o fm b W h6).v i.v)
  | .sub o i, fm, e, W, h => by
    replace h := vSub_inv h
    obtain ⟨a, b, p, rfl, h1⟩ := h
    replace h1 := and2 h1
    obtain ⟨h2, h3⟩ := h1
    exact jj1 rfl rfl (fun _ _ => rfl) (j_sub C (sE C TO hA hh i fm b W h3).k (sE C TO hA hh o fm a W h2).v (sE C TO hA hh i fm b W h3).v)
  | .slice o lo hi, fm, e, W, h => by
    replace h := vSub_inv h
    obtain ⟨a, b, p, rfl, h1⟩ := h
    replace h1 := and2 h1
    obtain ⟨h2, h3⟩ := h1
    replace h3 := vSlice_inv h3
    obtain ⟨x, y, z, p', rfl, h4⟩ := h3
    replace h4 := and2 h4
    obtain ⟨h5, h6⟩ := h4
    replace h6 := and2 h6
    obtain ⟨h7, h8⟩ := h6
    cases z with
    | some z => cases h5
    | none =>
      refine jj1 rfl rfl (fun _ _ => rfl) (j_slice C (sE C TO hA hh o fm a W h2).v ?_ ?_)
      · cases x with
        | none => exact .inl ⟨rfl, none_of h7⟩
        | some x => exact .inr ⟨x, rfl, (sE C TO hA hh lo fm x W h7).v⟩
      · cases y with
        | none => exact .inl ⟨rfl, none_of h8⟩
        | some y => exact .inr ⟨y, rfl, (sE C TO hA hh hi fm y W h8).v⟩
  | .list ms, fm, e, W, h => by
    replace h := vList_inv h
    obtain ⟨es, p, rfl, h1⟩ := h
    exact jj1 rfl rfl (fun _ _ => rfl) (j_list C (sEs C TO hA hh ms fm es W h1).l)
  | .tup ms, fm, e, W, h => by
    replace h := vTup_inv h
    obtain ⟨es, k, p, rfl, h1⟩ := h
    exact jj1 rfl rfl (fun _ _ => rfl) (j_tup C (sEs C TO hA hh ms fm es W h1).l)
  | .comp el it c, fm, e, W, h => by
    replace h := and2 h
    obtain ⟨h0, h⟩ := h
    have hA' : AOK A n := ⟨hA, hh (notB h0)⟩
    replace h := oneComp_inv h
    obtain ⟨elt, x, px, iter, ifs, scope, p, rfl, hs, h1⟩ := h
    replace h1 := and2 h1
    obtain ⟨h1, h2⟩ := h1
    replace h2 := and2 h2
    obtain ⟨h2, h3⟩ := h2
    refine jjc (jc_comp C hA' W (scopeOk_of hs) (sE C TO hA hh it fm iter W h2).k (fun fm' W' e1 e2 => ?_) (sE C TO hA hh it fm iter W h2).v)
    rw [← e1, ← e2] at h1 h3
    exact ⟨(sE C TO hA hh el fm' elt W' h1).v, tests_of h3 fun e he => sE C TO hA hh c fm' e W' he⟩
  | .compR el a b c, fm, e, W, h => by
    replace h := and2 h
    obtain ⟨h0, h⟩ := h
    have hA' : AOK A n := ⟨hA, hh (notB h0)⟩
    replace h := oneComp_inv h
    obtain ⟨elt, x, px, iter, ifs, scope, p, rfl, hs, h1⟩ := h
    replace h1 := and2 h1
    obtain ⟨a1, a2⟩ := h1
    replace a2 := and2 a2
    obtain ⟨a3, a4⟩ := a2
    replace a3 := nameCall_inv a3
    obtain ⟨y, np, as, ip, rfl, a5⟩ := a3
    replace a5 := and2 a5
    obtain ⟨a6, a7⟩ := a5
    replace a7 := and2 a7
    obtain ⟨a8, a9⟩ := a7
    have := eq_of_beq a8; subst this
    refine jjc (jc_compR C TO hA' W (scopeOk_of hs) a6 (fun fm' W' e1 e2 => ?_) (rng_of a9 (fun e he => sE C TO hA hh a fm e W he) fun e he => sE C TO hA hh b fm e W he))
    rw [← e1, ← e2] at a1 a4
    exact ⟨(sE C TO hA hh el fm' elt W' a1).v, tests_of a4 fun e he => sE C TO hA hh c fm' e W' he⟩
  | .neg m, fm, e, W, h => by
    replace h := vUn_inv h
    obtain ⟨o, a, p, rfl, h1⟩ := h
    replace h1 := and2 h1
    obtain ⟨h2, h3⟩ := h1
    rw [eq_of_beq h2]
    exact jj1 rfl rfl (fun _ _ => rfl) (j_neg (sE C TO hA hh m fm a W h3).v)
  | .cmp2 l o1 m o2 r, fm, e, W, h => by
    replace h := vCmp_inv h
    obtain ⟨a, ops, cs, p, rfl, h1⟩ := h
    replace h1 := l2_inv h1
    obtain ⟨q1, q2, rfl, h2⟩ := h1
    replace h2 := l2_inv h2
    obtain ⟨b, c, rfl, h3⟩ := h2
    replace h3 := and2 h3
    obtain ⟨h4, h5⟩ := h3
    replace h5 := and2 h5
    obtain ⟨h5, h6⟩ := h5
    replace h6 := and2 h6
    obtain ⟨h6, h7⟩ := h6
    replace h4 := and2 h4
    obtain ⟨h8, h9⟩ := h4
    rw [eq_of_beq h8, eq_of_beq h9]
    have il := sE C TO hA hh l fm a W h5
    have im := sE C TO hA hh m fm b W h6
    have ir := sE C TO hA hh r fm c W h7
    exact jj (j_cmp2 C hA ir.k il.v im.v ir.v) (t_cmp2 C hA ir.k il.v im.v ir.v) rfl rfl
  | .gint i, fm, e, W, h => by
    replace h := vName_inv h
    obtain ⟨x, p, rfl, h1⟩ := h
    replace h1 := and2 h1
    obtain ⟨h2, h3⟩ := h1
    exact jj1 rfl rfl (fun _ _ => rfl) (j_gint C TO W h2 (eq_of_beq h3))
  | .attr Cc i x, fm, e, W, h => by
    replace h := vAttr_inv h
    obtain ⟨o, y, p, rfl, h1⟩ := h
    replace h1 := and2 h1
    obtain ⟨h2, h3⟩ := h1
    replace h3 := and2 h3
    obtain ⟨a3, a4⟩ := h3
    replace a4 := vName_inv a4
    obtain ⟨z, np, rfl, h5⟩ := a4
    replace h5 := and2 h5
    obtain ⟨a5, a6⟩ := h5
    rw [eq_of_beq h2]
    exact jj1 rfl rfl (fun _ _ => rfl) (j_attr TO W a3 a5 (eq_of_beq a6))
  | .callm Cc x f i ms, fm, e, W, h => by
    replace h := and2 h
    obtain ⟨h0, h⟩ := h
    have hA' : AOK A n := ⟨hA, hh (notB h0)⟩
    replace h := vCall_inv h
    obtain ⟨g, as, ks, p, rfl, h1⟩ := h
    replace h1 := and2 h1
    obtain ⟨h2, h3⟩ := h1
    replace h3 := vAttr_inv h3
    obtain ⟨o, y, ap, rfl, h4⟩ := h3
    replace h4 := and2 h4
    obtain ⟨a4, a5⟩ := h4
    replace a4 := and2 a4
    obtain ⟨a6, a7⟩ := a4
    replace a5 := and2 a5
    obtain ⟨b5, b8⟩ := a5
    replace b8 := and2 b8
    obtain ⟨c8, c9⟩ := b8
    replace c8 := vName_inv c8
    obtain ⟨z, np, rfl, d1⟩ := c8
    replace d1 := and2 d1
    obtain ⟨d2, d3⟩ := d1
    replace c9 := and2 c9
    obtain ⟨e1, e2⟩ := c9
    rw [nil_of h2, eq_of_beq a7]
    have i := sEs C TO hA hh ms fm as W e2
    exact jj1 rfl rfl (fun _ _ => rfl) (j_callm TO hA' W a6 b5 d2 (eq_of_beq d3) (of_decide_eq_true e1) i.ks e2 i.l)
  | .mk Cc f ms, fm, e, W, h => by
    replace h := and2 h
    obtain ⟨h0, h⟩ := h
    have hA' : AOK A n := ⟨hA, hh (notB h0)⟩
    replace h := nameCall_inv h
    obtain ⟨x, np, as, p, rfl, h1⟩ := h
    replace h1 := and2 h1
    obtain ⟨h2, h3⟩ := h1
    replace h3 := and2 h3
    obtain ⟨h4, h5⟩ := h3
    replace h5 := and2 h5
    obtain ⟨h6, h7⟩ := h5
    cases as with
    | nil => cases h6
    | cons a r => cases ms with
      | nil => cases h7
      | cons m ms =>
        have i := sEs C TO hA hh (.cons m ms) fm (a :: r) W h7
        exact jj1 rfl rfl (fun _ _ => rfl) (j_mk C TO hA' W h2 h4 i.ks i.l)
  | .isx m D sup, fm, e, W, h => by
    replace h := nameCall_inv h
    obtain ⟨x, np, as, p, rfl, h1⟩ := h
    replace h1 := and2 h1
    obtain ⟨h2, h3⟩ := h1
    replace h3 := and2 h3
    obtain ⟨h4, h5⟩ := h3
    replace h5 := l2_inv h5
    obtain ⟨a, b, rfl, h6⟩ := h5
    replace h6 := and2 h6
    obtain ⟨h7, h8⟩ := h6
    replace h8 := vName_inv h8
    obtain ⟨y, tp, rfl, h9⟩ := h8
    replace h9 := and2 h9
    obtain ⟨h10, h11⟩ := h9
    rw [eq_of_beq h4] at h2 ⊢
    have i := sE C TO hA hh m fm a W h7
    exact jj1 rfl rfl (fun _ _ => rfl) (j_isx C TO W h2 h10 (eq_of_beq h11) i.k i.v)
  | .callq f ms, fm, e, W, h => by
    replace h := nameCall_inv h
    obtain ⟨x, np, as, p, rfl, h1⟩ := h
    replace h1 := and2 h1
    obtain ⟨h2, h3⟩ := h1
    replace h3 := and2 h3
    obtain ⟨h4, h5⟩ := h3
    replace h5 := and2 h5
    obtain ⟨h6, h7⟩ := h5
    cases as with
    | nil => cases h6
    | cons a r => cases ms with
      | nil => cases h7
      | cons m ms =>
        have i := sEs C TO hA hh (.cons m ms) fm (a :: r) W h7
        exact jj1 rfl rfl (fun _ _ => rfl) (j_callq C TO hA W h2 (eq_of_beq h4) (i.ks a List.mem_cons_self) i.l)
theorem sEs (C : cx.OK) (TO : T.OK cx) (hA : AOK0 A n) (hh : T.q = false → A.handled = none) : ∀ (ms : MEs) (fm : Fm) (es : List Expr), fm.OK cx A → chkEs T ms fm.env.scope fm.names es = true → JR cx A n ms fm es
  | .nil, fm, es, W, h => by
    have := nil_of h; subst this
    exact ⟨jl_nil, fun _ _ _ _ _ _ _ _ h => False.elim h, fun _ _ _ _ _ _ _ h => False.elim h, fun _ _ q => (by cases q), fun e he => by cases he⟩
  | .cons m .nil, fm, es, W, h => by
    obtain ⟨e, r, rfl, h1, h2⟩ := chkEs_cons h
    have := nil_of h2; subst this
    have i := sE C TO hA hh m fm e W h1
    exact ⟨jl_cons i.k i.v jl_nil, fun _ => jb_one i.v, fun _ => ju_one i.t, fun _ _ q q' => (by cases q; cases q'; exact i.v), fun e he => by rw [List.mem_singleton.mp he]; exact i.k⟩
  | .cons m (.cons m' ms), fm, es, W, h => by
    obtain ⟨e, r, rfl, h1, h2⟩ := chkEs_cons h
    have i := sE C TO hA hh m fm e W h1
    have ir := sEs C TO hA hh (.cons m' ms) fm r W h2
    obtain ⟨e', r', rfl, _, _⟩ := chkEs_cons h2
    refine ⟨jl_cons i.k i.v ir.l, fun op => jb_more i.v (ir.b op), fun op => ju_more i.t (ir.u op), fun _ _ q => (by cases q), fun x hx => ?_⟩
    rcases List.mem_cons.mp hx with rfl | hx
    · exact i.k
    · exact ir.ks x hx
end
end
end Mine
end

section
namespace Mine
open PySem PyProof.Rows PySem.W

section
variable {cx : Cx} {H H' : HP} {s s' : Shared} {l : List Env} {e C T : Addr} {h' : Heap} {A : Around} {E : Value → Shared → Prop} {M : Model} {env : Env}
noncomputable abbrev hid (h : Heap) (e T : Addr) (l : List Env) : Heap := hideAll h (e :: T :: l.filterMap (·.frame))
theorem fun_of (ff : FrL cx.base H' s'.heap l) : ∀ {l' : List Env}, (∀ x ∈ l', x ∈ l) → s'.heap.FunFrames (hid s'.heap e T l) l'
  | [], _ => trivial
  | x :: l', hl => by
    obtain ⟨k, L, o, es, ep, h1, _, _, h4, h5⟩ := ff x (hl x List.mem_cons_self)
    refine ⟨k, ⟨L, o, h1, hideAll_none _ (.tail _ (.tail _ (List.mem_filterMap.mpr ⟨x, hl x List.mem_cons_self, h1⟩))), h4, fun vs q => by rw [h5] at q; cases q⟩, fun_of ff fun y hy => hl y (List.mem_cons_of_mem _ hy)⟩
theorem trans_ok (S : HS cx H' s') (ff : FrL cx.base H' s'.heap l) (e1 : H' e = none) (t1 : H' T = none) (e2 : cx.base.get? e = none) (t2 : cx.base.get? T = none)
    (st : (hid s'.heap e T l).StaysIn h') (up : s'.heap.UpToSlots h') :
    HS cx H' { s' with heap := h' } ∧ (∀ b o, s'.heap.get? b = some o → b ≠ e → b ≠ T → ∃ o', h'.get? b = some o' ∧ SO o o') ∧ FrL cx.base H' h' l := by
  have frm : ∀ b, b ∈ l.filterMap (·.frame) → cx.base.get? b = none ∧ H' b = none ∧ ∃ o es ep, s'.heap.get? b = some o ∧ o.data = .dict es ep := fun b hb => by
    obtain ⟨x, hx, hf⟩ := List.mem_filterMap.mp hb
    obtain ⟨k, L, o, es, ep, h1, h2, h3, h4, h5⟩ := ff x hx
    rw [hf] at h1; cases h1
    exact ⟨h2, h3, o, es, ep, h4, h5⟩
  have ex : ∀ b o, s'.heap.get? b = some o → b ≠ e → b ≠ T → b ∉ l.filterMap (·.frame) → h'.get? b = some o := fun b o hb n1 n2 n3 =>
    st b o (hideAll_get _ hb (by simp only [List.mem_cons, not_or]; exact ⟨n1, n2, n3⟩))
  have sl : ∀ b o es ep, s'.heap.get? b = some o → o.data = .dict es ep → ∃ o', h'.get? b = some o' ∧ SO o o' := fun b o es ep hb hd => by
    obtain ⟨q, hq⟩ := up b o hb fun vs q => by rw [hd] at q; cases q
    exact ⟨_, hq, .inr ⟨⟨es, ep, hd⟩, q, rfl⟩⟩
  refine ⟨⟨fun a o ha => (S.hr a o ha).keep fun ob hb => ex a ob hb (fun q => by subst q; rw [e1] at ha; cases ha) (fun q => by subst q; rw [t1] at ha; cases ha) (fun q => by rw [(frm a q).2.1] at ha; cases ha),
    fun b o hb => ex b o (S.ext b o hb) (fun q => by subst q; rw [e2] at hb; cases hb) (fun q => by subst q; rw [t2] at hb; cases hb) (fun q => by rw [(frm b q).1] at hb; cases hb), S.low⟩, fun b o hb n1 n2 => ?_, fun x hx => ?_⟩
  · by_cases q : b ∈ l.filterMap (·.frame)
    · obtain ⟨_, _, o', es, ep, h4, h5⟩ := frm b q
      rw [hb] at h4; cases h4
      exact sl b o es ep hb h5
    · exact ⟨o, ex b o hb n1 n2 q, .refl o⟩
  · obtain ⟨k, L, o, es, ep, h1, h2, h3, h4, h5⟩ := ff x hx
    obtain ⟨o', h6, h7⟩ := sl L o es ep h4 h5
    exact ⟨k, L, o', es, ep, h1, h2, h3, h6, h7.data.trans h5⟩
theorem Kept.pass {ow : Addr → Prop} (k : Kept ow s H s' H') (hw : ∀ b o, s.heap.get? b = some o → H b = none → b ≠ e ∧ b ≠ T) (hb : ∀ b o, s'.heap.get? b = some o → b ≠ e → b ≠ T → ∃ o', h'.get? b = some o' ∧ SO o o') : Kept ow s H { s' with heap := h' } H' :=
  ⟨fun b o q n w => (let ⟨_, q1, s1⟩ := k.keep b o q n w; let ⟨n1, n2⟩ := hw b o q n; let ⟨o2, q2, s2⟩ := hb b _ q1 n1 n2; ⟨o2, q2, s1.trans s2⟩), k.dom, k.os, k.gens⟩
theorem ExcIn.ne (x : ExcIn cx.base s H H' s'.heap e C T) : ∀ b o, s.heap.get? b = some o → H b = none → b ≠ e ∧ b ≠ T := fun b o q n => ⟨fun z => by subst z; exact x.e0 o q n, fun z => by subst z; exact x.t0 o q n⟩
theorem exc_of (k : KE s H s' H') (S : HS cx H' s') (ff : FrL cx.base H' s'.heap l) (x : ExcIn cx.base s H H' s'.heap e C T) {a0 : Value} (tr : h'.TracedW (hid s'.heap e T l) e (.ref C) a0) (hl : h'.FunFrames (hid s'.heap e T l) l) : ∃ T', ExcIn cx.base s H H' h' e C T' ∧ T' ≠ e := by
  obtain ⟨oe, vs, T', oT, ts, h1, ⟨h2, h3⟩, h4, h5, h6, h7, h8, h9, h10⟩ := tr
  refine ⟨T', ?_, h7⟩
  have nofr : T' ∉ l.filterMap (·.frame) := fun q => by
    obtain ⟨_, o, q1, q2⟩ := hl.mem q
    rw [h8] at q1; cases q1; exact q2 ts h9
  have new : T' ≠ T → s'.heap.get? T' = none := fun n => by
    cases q : s'.heap.get? T' with
    | none => rfl
    | some o =>
      rw [hideAll_get _ q (by simp only [List.mem_cons, not_or]; exact ⟨h7, n, nofr⟩)] at h6; cases h6
  by_cases q : T' = T
  · subst q
    exact ⟨x.e0, x.t0, x.e1, x.t1, x.e2, x.t2, oe, vs, a0, h1, h2, h4, h3, .inr ⟨oT, ts, h5, h7, h8, h9, h10⟩⟩
  · have n := new q
    exact ⟨x.e0, fun o q1 q2 => (by obtain ⟨o', q3, _⟩ := k.keep T' o q1 q2 id; rw [n] at q3; cases q3), x.e1, S.none_of n, x.e2, S.base_none n, oe, vs, a0, h1, h2, h4, h3, .inr ⟨oT, ts, h5, h7, h8, h9, h10⟩⟩
theorem leave_ok {outer : List Env} {L : Addr} (hfr : A.frames = some (env :: outer)) (hf : env.frame = some L) (k : KE s H s' H') (S : HS cx H' s') (ff : FrL cx.base H' s'.heap (env :: outer)) (x : ExcIn cx.base s H H' s'.heap e C T) {Q : Unit → Shared → Prop}
    (hQ : ∀ h'' T', HS cx H' { s' with heap := h'' } → KE s H { s' with heap := h'' } H' → ExcIn cx.base s H H' h'' e C T' → T' ≠ e → Q () { s' with heap := h'' }) : wpAny M A (leaving env (.ref e)) Q E s' := by
  have fin : ∀ h'' a0, Heap.LeftW (hid s'.heap e T (env :: outer)) (env :: outer) e (.ref C) a0 s'.heap h'' → Q () { s' with heap := h'' } := fun h'' a0 ⟨k1, k2, k3, k4⟩ => by
    obtain ⟨S2, hb, _⟩ := trans_ok (T := T) S ff x.e1 x.t1 x.e2 x.t2 k1 k4
    obtain ⟨T', x', nT⟩ := exc_of k S ff x k3 k2
    exact hQ h'' T' S2 (k.pass x.ne hb) x' nT
  obtain ⟨oe, vs, a0, h1, h2, h3, h4, h5⟩ := x.at_
  have hen : (hid s'.heap e T (env :: outer)).get? e = none := hideAll_none _ (.head _)
  have hst : (hid s'.heap e T (env :: outer)).StaysIn s'.heap := fun b o q => of_hideAll _ q
  rcases h5 with ⟨h5, _⟩ | ⟨oT, ts, h5, h6, h7, h8, h9⟩
  · exact wpAny_leaving_firstW hfr (fun_of ff fun _ q => q) hf h1 hst hen h3 h5 h4 fun h'' hL => fin h'' a0 (by rw [h2] at hL; exact hL)
  · exact wpAny_leaving_nextW (cls := .ref C) (a0 := a0) hfr (fun_of ff fun _ q => q) hf ⟨oe, vs, T, oT, ts, h1, ⟨h2, h4⟩, h3, h5, hideAll_none _ (.tail _ (.head _)), h6, h7, h8, h9⟩ hst hen fun h'' hL => fin h'' a0 hL
theorem ExcIn.ne_frame (ff : FrL cx.base H' s'.heap l) (x : ExcIn cx.base s H H' s'.heap e C T) {L : Addr} (h : L ∈ l.filterMap (·.frame)) : L ≠ e := by
  obtain ⟨y, hy, hf⟩ := List.mem_filterMap.mp h
  obtain ⟨k, L', o, es, ep, h1, h2, h3, h4, h5⟩ := ff y hy
  rw [hf] at h1; cases h1
  obtain ⟨oe, vs, a0, q1, _, q3, _⟩ := x.at_
  rintro rfl
  rw [h4] at q1; cases q1
  rw [h5] at q3; cases q3
theorem look_ok {outer : List Env} {L : Addr} (hfr : A.frames = some (env :: outer)) (hf : env.frame = some L) (S : HS cx H' s') (ff : FrL cx.base H' s'.heap (env :: outer)) (x : ExcIn cx.base s H H' s'.heap e C T) {Q : Unit → Shared → Prop}
    (hQ : ∀ h₅ a0, HS cx H' { s' with heap := h₅ } → (∀ b o, s'.heap.get? b = some o → b ≠ e → b ≠ T → ∃ o', h₅.get? b = some o' ∧ SO o o') → FrL cx.base H' h₅ (env :: outer) → Heap.FlyingW (hid s'.heap e T (env :: outer)) (env :: outer) e (.ref C) a0 h₅ → s'.heap.UpToSlots h₅ → Q () { s' with heap := h₅ }) :
    wpAny M A (noteFrame (.ref e) env) (fun _ s₂ => wpAny M A (setFlight (.ref e) none) Q E s₂) E s' := by
  obtain ⟨oe, vs, a0, h1, h2, h3, h4, h5⟩ := x.at_
  have hen : (hid s'.heap e T (env :: outer)).get? e = none := hideAll_none _ (.head _)
  have hst : (hid s'.heap e T (env :: outer)).StaysIn s'.heap := fun b o q => of_hideAll _ q
  have fin : ∀ h₄, Heap.HeldW (hid s'.heap e T (env :: outer)) (env :: outer) e (.ref C) a0 L h₄ → s'.heap.UpToSlots h₄ → wpAny M A (setFlight (.ref e) none) Q E { s' with heap := h₄ } := fun h₄ held u₄ => by
    refine wpAny_landsW held fun h₅ fl₅ u₅ => ?_
    obtain ⟨S5, hb, ff5⟩ := trans_ok (T := T) S ff x.e1 x.t1 x.e2 x.t2 fl₅.1 (u₄.trans u₅)
    exact hQ h₅ a0 S5 hb ff5 fl₅ (u₄.trans u₅)
  rcases h5 with ⟨h5, _⟩ | ⟨oT, ts, h5, h6, h7, h8, h9⟩
  · unfold noteFrame
    simp only [hf]
    refine wpAny_bind (wpAny_field h1 h3 h5 ?_)
    rw [if_neg (by decide)]
    refine wpAny_entryW hfr (fun_of ff fun _ q => q) hf h1 hst hen h3 (Array.getElem?_eq_some_iff.mp h5).1 h4 fun h' hN => ?_
    obtain ⟨k1, k2, k3, k4⟩ := hN
    rw [h2] at k3
    exact fin h' ⟨k1, hen, k2, k3⟩ k4
  · exact wpAny_looks_onW hfr hf ⟨hst, hen, fun_of ff fun _ q => q, oe, vs, T, oT, ts, h1, ⟨h2, h4⟩, h3, h5, hideAll_none _ (.tail _ (.head _)), h6, h7, h8, h9⟩ fun h₄ held u => fin h₄ held u
end
end Mine
end

section
namespace Mine
open PySem PyProof.Rows PySem.SeqAt

noncomputable def wAsg (st : Stmt) (k : List Expr → Expr → Bool) : Bool := match st with
  | .Assign ts v _ => k ts v
  | _ => false
theorem wAsg_inv {st : Stmt} {k : List Expr → Expr → Bool} (h : wAsg st k = true) : ∃ ts v p, st = .Assign ts v p ∧ k ts v = true := by cases st <;> first | exact ⟨_, _, _, rfl, h⟩ | exact (Bool.false_ne_true h).elim
noncomputable def wExpr (st : Stmt) (k : Expr → Bool) : Bool := match st with
  | .Expr v _ => k v
  | _ => false
theorem wExpr_inv {st : Stmt} {k : Expr → Bool} (h : wExpr st k = true) : ∃ v p, st = .Expr v p ∧ k v = true := by cases st <;> first | exact ⟨_, _, rfl, h⟩ | exact (Bool.false_ne_true h).elim
noncomputable def wIf (st : Stmt) (k : Expr → List Stmt → List Stmt → Bool) : Bool := match st with
  | .If c t e _ => k c t e
  | _ => false
theorem wIf_inv {st : Stmt} {k : Expr → List Stmt → List Stmt → Bool} (h : wIf st k = true) : ∃ c t e p, st = .If c t e p ∧ k c t e = true := by cases st <;> first | exact ⟨_, _, _, _, rfl, h⟩ | exact (Bool.false_ne_true h).elim
noncomputable def wFor (st : Stmt) (k : Expr → Expr → List Stmt → List Stmt → Bool) : Bool := match st with
  | .For tg it b o _ => k tg it b o
  | _ => false
theorem wFor_inv {st : Stmt} {k : Expr → Expr → List Stmt → List Stmt → Bool} (h : wFor st k = true) : ∃ tg it b o p, st = .For tg it b o p ∧ k tg it b o = true := by cases st <;> first | exact ⟨_, _, _, _, _, rfl, h⟩ | exact (Bool.false_ne_true h).elim
noncomputable def wWhile (st : Stmt) (k : Expr → List Stmt → List Stmt → Bool) : Bool := match st with
  | .While c b o _ => k c b o
  | _ => false
theorem wWhile_inv {st : Stmt} {k : Expr → List Stmt → List Stmt → Bool} (h : wWhile st k = true) : ∃ c b o p, st = .While c b o p ∧ k c b o = true := by cases st <;> first | exact ⟨_, _, _, _, rfl, h⟩ | exact (Bool.false_ne_true h).elim
noncomputable def wRet (st : Stmt) (k : Option Expr → Bool) : Bool := match st with
  | .Return v _ => k v
  | _ => false
theorem wRet_inv {st : Stmt} {k : Option Expr → Bool} (h : wRet st k = true) : ∃ v p, st = .Return v p ∧ k v = true := by cases st <;> first | exact ⟨_, _, rfl, h⟩ | exact (Bool.false_ne_true h).elim

theorem so_inv {α : Type} {o : Option α} {k : α → Bool} (h : so o k false = true) : ∃ a, o = some a ∧ k a = true := by
  cases o with
  | none => cases h
  | some a => exact ⟨a, rfl, h⟩
noncomputable def wRaise0 (st : Stmt) (k : Option Expr → Option Expr → Bool) : Bool := match st with
  | .Raise a b _ => k a b
  | _ => false
theorem wRaise0_inv {st : Stmt} {k : Option Expr → Option Expr → Bool} (h : wRaise0 st k = true) : ∃ a b p, st = .Raise a b p ∧ k a b = true := by cases st <;> first | exact ⟨_, _, _, rfl, h⟩ | exact (Bool.false_ne_true h).elim
noncomputable def wRaise (st : Stmt) (k : Str → Expr → Bool) : Bool := wRaise0 st fun a b => b.isNone && so a (fun e => nameCall e fun x as => l1 as fun a => k x a) false
theorem wRaise_inv {st : Stmt} {k : Str → Expr → Bool} (h : wRaise st k = true) : ∃ x np a cp p, st = .Raise (some (.Call (.Name x np) [a] [] cp)) none p ∧ k x a = true := by
  obtain ⟨a, b, p, rfl, h⟩ := wRaise0_inv h
  obtain ⟨h1, h2⟩ := and2 h
  obtain ⟨e, rfl, h2⟩ := so_inv h2
  obtain ⟨x, np, as, cp, rfl, h3⟩ := nameCall_inv h2
  obtain ⟨a, rfl, h4⟩ := l1_inv h3
  cases b with
  | none => exact ⟨_, _, _, _, _, rfl, h4⟩
  | some _ => cases h1
noncomputable def wTry0 (st : Stmt) (k : List Stmt → List ExceptHandler → List Stmt → List Stmt → Bool) : Bool := match st with
  | .Try a b c d _ => k a b c d
  | _ => false
theorem wTry0_inv {st : Stmt} {k : List Stmt → List ExceptHandler → List Stmt → List Stmt → Bool} (h : wTry0 st k = true) : ∃ a b c d p, st = .Try a b c d p ∧ k a b c d = true := by cases st <;> first | exact ⟨_, _, _, _, _, rfl, h⟩ | exact (Bool.false_ne_true h).elim
noncomputable def wHan (h : ExceptHandler) (k : Option Expr → Option Str → List Stmt → Bool) : Bool := match h with
  | .ExceptHandler t n b _ => k t n b
theorem wHan_inv {h : ExceptHandler} {k : Option Expr → Option Str → List Stmt → Bool} (e : wHan h k = true) : ∃ t n b p, h = .ExceptHandler t n b p ∧ k t n b = true := by cases h; exact ⟨_, _, _, _, rfl, e⟩
noncomputable def chkHs (T : Tbl) : MHs → Scope → List (Option Str) → List ExceptHandler → Bool
  | .nil, _, _, hd => hd.isEmpty
  | .cons K i h r, sc, nm, hd => match hd with
    | x :: rest => (wHan x fun t n b => so t (fun t => vName t fun c => isGlob sc c && T.exs.lookup c == some K) false && (so n (fun y => nm[i]? == some (some y) && sc.names.lookup y == some .local) false &&
        l1 b fun st => wRet st fun v => so v (fun e => chkE { T with q := true } h sc nm e) false)) && chkHs T r sc nm rest
    | [] => false
noncomputable def isConsM : MEs → Bool
  | .nil => false
  | .cons _ _ => true
noncomputable def chkX (T : Tbl) (k : XK) (ms : MEs) (sc : Scope) (nm : List (Option Str)) (e : Expr) : Bool := match k with
  | .fn f => isConsM ms && chkE T (.callf f ms) sc nm e
  | .mt C x f j => chkE T (.callm C x f j ms) sc nm e
  | .mk C f => chkE T (.mk C f ms) sc nm e

mutual
noncomputable def chkS (T : Tbl) : MS → Scope → List (Option Str) → Stmt → Bool
  | .assign i m, sc, nm, st => wAsg st fun ts v => l1 ts fun t => vName t fun x => nm[i]? == some (some x) && chkE T m sc nm v
  | .setSub o i m, sc, nm, st => wAsg st fun ts v => l1 ts fun t => vSub t fun a b => !isComp v && (chkE T m sc nm v && (chkE T o sc nm a && chkE T i sc nm b))
  | .expr m, sc, nm, st => wExpr st fun v => !isComp v && chkE T m sc nm v
  | .ite c t e, sc, nm, st => wIf st fun d a b => chkE T c sc nm d && (chkSs T t sc nm a && chkSs T e sc nm b)
  | .for_ i m b, sc, nm, st => !T.q && wFor st fun tg it bd o => o.isEmpty && (chkSs T b sc nm bd && (chkE T m sc nm it && vName tg fun x => nm[i]? == some (some x)))
  | .forR i a c b, sc, nm, st => !T.q && wFor st fun tg it bd o => o.isEmpty && (chkSs T b sc nm bd && ((vName tg fun x => nm[i]? == some (some x)) && nameCall it fun y as => isGlob sc y && (y == ("range" : Str) &&
      ((l1 as fun q => isZeroM a && chkE T c sc nm q) || l2 as fun p q => chkE T a sc nm p && chkE T c sc nm q))))
  | .while_ c b, sc, nm, st => !T.q && wWhile st fun d bd o => o.isEmpty && (chkE T c sc nm d && chkSs T b sc nm bd)
  | .ret m, sc, nm, st => wRet st fun v => so v (fun e => chkE T m sc nm e) false
  | .setAttr C i x m, sc, nm, st => wAsg st fun ts v => l1 ts fun t => vAttr t fun o y _ => (y == x && T.ats.contains (C, x)) && (!isComp v && (chkE T m sc nm v && vName o fun z => !(z == ("__debug__" : Str)) && nm[i]? == some (some z)))
  | .raiseS C m, sc, nm, st => !T.q && wRaise st fun x a => isGlob sc x && (T.exs.lookup x == some C && chkE T m sc nm a)
  | .xdo d k ms, sc, nm, st => match d with
    | some i => wAsg st fun ts v => l1 ts fun t => vName t fun x => nm[i]? == some (some x) && chkX T k ms sc nm v
    | none => wExpr st fun v => chkX T k ms sc nm v
  | .try_ b hs, sc, nm, st => !T.q && wTry0 st fun bd hd o f => (o.isEmpty && f.isEmpty) && (!hd.isEmpty && (chkSs T b sc nm bd && chkHs T hs sc nm hd))
noncomputable def chkSs (T : Tbl) : MSs → Scope → List (Option Str) → List Stmt → Bool
  | .nil, _, _, ss => ss.isEmpty
  | .cons m ms, sc, nm, ss => match ss with
    | s :: r => chkS T m sc nm s && chkSs T ms sc nm r
    | [] => false
end

noncomputable def SP (cx : Cx) (fm : Fm) (s : Shared) (H : HP) (N : List V → HP → Prop) (R : V → HP → Prop) : Flow → Shared → Prop := fun f s' =>
  ∃ H' μ', SR cx fm H' μ' s' ∧ Kept fm.own s H s' H' ∧ (match f with | .next => N μ' H' | .ret v => R (abs v) H' | _ => False)
structure XM (cx : Cx) (A : Around) (fm : Fm) (R : V → HP → Prop) (E : Value → Shared → Prop) (s : Shared) (H : HP) : Prop where
  x : ∀ (e C T : Addr) (H' : HP) (μ' : List V) (s' : Shared), SR cx fm H' μ' s' → Kept fm.own s H s' H' → ExcIn cx.base s H H' s'.heap e C T → ¬ fm.own e → ¬ fm.own T → R (.exc C) H' → E (.ref e) s'
  p : PassesOwn (model cx.prog cx.w) A fm.env E
theorem XM.from {cx : Cx} {A : Around} {fm : Fm} {R : V → HP → Prop} {E : Value → Shared → Prop} {s s₁ : Shared} {H H₁ : HP} (X : XM cx A fm R E s H) (k : Kept fm.own s H s₁ H₁) : XM cx A fm R E s₁ H₁ := ⟨fun e C T H' μ' s' S' k' x n1 n2 r =>
  X.x e C T H' μ' s' S' (k.trans k') ⟨fun o q q2 => (let ⟨o', e1, _⟩ := k.keep e o q q2 n1; x.e0 o' e1 (k.dom e o q q2 n1)), fun o q q2 => (let ⟨o', e1, _⟩ := k.keep T o q q2 n2; x.t0 o' e1 (k.dom T o q q2 n2)), x.e1, x.t1, x.e2, x.t2, x.at_⟩ n1 n2 r, X.p⟩
noncomputable def JS (cx : Cx) (A : Around) (n : Nat) (m : MS) (fm : Fm) (st : Stmt) : Prop := ∀ (E : Value → Shared → Prop) (H : HP) (μ : List V) (s : Shared) (N : List V → HP → Prop) (R : V → HP → Prop),
  SR cx fm H μ s → XM cx A fm R E s H → mwpS cx n m μ H N R → wpAny (model cx.prog cx.w) A (exec st fm.env) (SP cx fm s H N R) E s
noncomputable def JSs (cx : Cx) (A : Around) (n : Nat) (m : MSs) (fm : Fm) (ss : List Stmt) : Prop := ∀ (E : Value → Shared → Prop) (H : HP) (μ : List V) (s : Shared) (N : List V → HP → Prop) (R : V → HP → Prop),
  SR cx fm H μ s → XM cx A fm R E s H → mwpSs cx n m μ H N R → wpAny (model cx.prog cx.w) A (execs ss fm.env) (SP cx fm s H N R) E s

section
variable {cx : Cx} {T : Tbl} {A : Around} {E : Value → Shared → Prop} {n : Nat} {fm : Fm}

theorem sp_from {s s₁ : Shared} {H H₁ : HP} {N : List V → HP → Prop} {R : V → HP → Prop} {M : Model} {t : Sem Flow} (k : Kept fm.own s H s₁ H₁) (h : wpAny M A t (SP cx fm s₁ H₁ N R) E s₁) : wpAny M A t (SP cx fm s H N R) E s₁ :=
  wpAny_mono h (fun _ _ ⟨H', μ', a, b, c⟩ => ⟨H', μ', a, k.trans b, c⟩) fun _ _ e => e
theorem swaps_of {v : Expr} (h : isComp v = false) (hk : kindOK v = true) (t : Option Expr) (l : Nat) (env : Env) : swapsWith v t l env = pure false := by
  cases v <;> first | rfl | exact (Bool.false_ne_true hk).elim | exact (Bool.false_ne_true h.symm).elim
theorem swaps_comp (elt : Expr) (gens : List Comprehension) (scope : Scope) (p : Pos) (x : Str) (px : Pos) (l : Nat) (env : Env) : ∃ b, swapsWith (.ListComp elt gens scope p) (some (.Name x px)) l env = pure b := ⟨_, rfl⟩

theorem s_plain (W : fm.OK cx A) {m : ME} {v : Expr} {x : Str} {i : Nat} {px p : Pos} (hi : fm.names[i]? = some (some x)) (iv : JE cx A n m fm v) (hs : swapsWith v (some (.Name x px)) p.line fm.env = pure false) : JS cx A n (.assign i m) fm (.Assign [.Name x px] v p) := by
  intro E H μ s N R S X h
  refine wpAny_Assign_Name (ep_then (iv E H μ s _ S h) fun y s₁ H₁ S₁ k₁ h₁ => store_loc W (S.step S₁ k₁) hi fun s₂ S₂ k₂ => ?_) hs
  exact ⟨H₁, _, S₂, (k₁.any _).trans k₂, h₁⟩
theorem s_swap (W : fm.OK cx A) {m : ME} {elt : Expr} {gens : List Comprehension} {scope : Scope} {vp : Pos} {x : Str} {i : Nat} {px p : Pos} (hi : fm.names[i]? = some (some x)) (ic : JC cx A n m fm (.ListComp elt gens scope vp))
    (hs : swapsWith (.ListComp elt gens scope vp) (some (.Name x px)) p.line fm.env = pure true) : JS cx A n (.assign i m) fm (.Assign [.Name x px] (.ListComp elt gens scope vp) p) := by
  intro E H μ s N R S X h
  rw [exec_Assign_Name_used _ _ _ _ hs]
  refine wpAny_bind (wpAny_standAt (wpAny_bind ?_))
  show wpAny _ A (do let _ ← comprehension (.ListComp elt gens scope vp) scope fm.env _ (newList []) (firstAsync gens) (firstIter gens fm.env) (some (assign (.Name x px) fm.env))) _ _ s
  refine wpAny_bind (wpAny_mono (ic _ H μ s _ _ _ (fun _ s' => SP cx fm s H N R .next s') elt gens scope vp rfl S h ?_) (fun _ s' hq => wpAny_pure (wpAny_pure hq)) fun _ _ e => e)
  intro D Ca s' H' S' k hQ hCa hbase hf hns
  show wpAny _ A (assign (.Name x px) fm.env (.ref D)) _ _ _
  refine wpAny_assign_Name (store_loc W (S.step S' k) hi fun s₂ S₂ k₂ => ?_)
  have hown : ¬ fm.own Ca := fun q => by rw [W.above Ca q] at hbase; exact absurd (S.fr.live Ca q) (by
    rintro ⟨o, e⟩
    cases e2 : H Ca with
    | none => exact hf o e e2
    | some oo => exact S.own Ca oo e2 q)
  obtain ⟨m, hm⟩ := hns
  have hm₂ : s₂.heap.Ns Ca m := Ns.so hm fun o e => k₂.keep Ca o e hCa hown
  have hfr : ¬ fm.fr Ca := fun ⟨e, he, hff⟩ => by
    obtain ⟨_, L, o, _, _, q1, _, q3, q4, _⟩ := S.ff e he
    rw [hff] at q1; cases q1; exact hf o q4 q3
  refine ⟨m, hm₂, fun h' sb => ?_⟩
  have S₃ : SR cx fm H' (setL μ i (.ref D)) { s₂ with heap := h' } := S₂.aside hCa hown hfr hbase sb.extBut s₂.toks
  have k₃ := (k.any fm.own).trans k₂
  exact ⟨H', _, S₃, ⟨fun b o e hn hw => (let ⟨o', e', so⟩ := k₃.keep b o e hn hw; ⟨o', sb.extBut b o' (fun q => by subst q; exact hf o e hn) e', so⟩), k₃.dom, k₃.os, k₃.gens⟩, hQ⟩
theorem s_asg (W : fm.OK cx A) {m : ME} {v : Expr} {x : Str} {i : Nat} {px p : Pos} (hi : fm.names[i]? = some (some x)) (kv : kindOK v = true) (iv : JJ cx A n m fm v) : JS cx A n (.assign i m) fm (.Assign [.Name x px] v p) := by
  cases hv : isComp v with
  | false => exact s_plain W hi iv.v (swaps_of hv kv _ _ _)
  | true =>
    have ic := iv.c hv
    cases v <;> first | exact (Bool.false_ne_true hv).elim | skip
    rename_i elt gens scope vp
    obtain ⟨b, hb⟩ := swaps_comp elt gens scope vp x px p.line fm.env
    cases b with
    | false => exact s_plain W hi iv.v hb
    | true => exact s_swap W hi ic hb
theorem s_sub {o i m : ME} {a b v : Expr} {sp p : Pos} (hc : isComp v = false) (kv : kindOK v = true) (iv : JE cx A n m fm v) (io : JE cx A n o fm a) (ii : JE cx A n i fm b) : JS cx A n (.setSub o i m) fm (.Assign [.Subscript a b sp] v p) := by
  intro E H μ s N R S X h
  refine wpAny_Assign_Subscript (ep_then (iv E H μ s _ S h) fun vv s₁ H₁ S₁ k₁ h₁ => ep_then (io E H₁ μ s₁ _ (S.step S₁ k₁) h₁) fun ov s₂ H₂ S₂ k₂ h₂ => ?_) (swaps_of hc kv _ _ _)
  have k12 := k₁.trans k₂
  refine ep_then (ii E H₂ μ s₂ _ (S.step S₂ k12) h₂) fun iv s₃ H₃ S₃ k₃ h₃ => wpAny_mono (setSub_ok S₃ h₃) (fun _ s₄ q => ?_) fun _ _ e => e
  obtain ⟨H₄, S₄, k₄, h₄⟩ := q
  have k := k12.trans (k₃.trans k₄)
  exact ⟨H₄, μ, S.step S₄ k, KE.any k _, h₄⟩
theorem s_exp (W : fm.OK cx A) {m : ME} {v : Expr} {p : Pos} (hc : isComp v = false) (kv : kindOK v = true) (iv : JE cx A n m fm v) : JS cx A n (.expr m) fm (.Expr v p) := by
  intro E H μ s N R S X h
  refine wpAny_Expr_any (ep_then (iv E H μ s _ S h) fun vv s₁ H₁ S₁ k₁ h₁ => ?_) (by unfold interactive; rw [W.kind]; rfl) (swaps_of hc kv _ _ _)
  exact ⟨H₁, μ, S.step S₁ k₁, k₁.any _, h₁⟩
theorem s_retE {m : ME} {v : Expr} {p : Pos} (iv : JE cx A n m fm v) : JS cx A n (.ret m) fm (.Return (some v) p) := by
  intro E H μ s N R S X h
  refine wpAny_Return_some (ep_then (iv E H μ s _ S h) fun vv s₁ H₁ S₁ k₁ h₁ => ?_)
  exact ⟨H₁, μ, S.step S₁ k₁, k₁.any _, h₁⟩
theorem s_attrJ (TO : T.OK cx) (W : fm.OK cx A) {C : Addr} {i : Nat} {x z : Str} {m : ME} {v : Expr} {np ap p : Pos} (ht : T.ats.contains (C, x) = true) (hd : (!(z == ("__debug__" : Str))) = true) (hi : fm.names[i]? = some (some z)) (hc : isComp v = false) (kv : kindOK v = true) (iv : JE cx A n m fm v) :
    JS cx A n (.setAttr C i x m) fm (.Assign [.Attribute (.Name z np) x ap] v p) := by
  intro E H μ s N R S X h
  refine plainObj_wpAny_Assign_Attribute (ep_then (iv E H μ s _ S h) fun vv s₁ H₁ S₁ k₁ h₁ => name_ok W (S.step S₁ k₁) hd hi (ref_ne h₁) fun o ho => ?_) (swaps_of hc kv _ _ _)
  refine wpAny_mono (setAttr_ok TO.kin (TO.at_ C x ht) S₁ (by rw [ho]; exact h₁)) (fun _ s₂ q => ?_) fun _ _ e => e
  obtain ⟨H₂, S₂, k₂, h₂⟩ := q
  have k := k₁.trans k₂
  exact ⟨H₂, μ, S.step S₂ k, KE.any k _, h₂⟩
theorem ss_nilJ : JSs cx A n .nil fm [] := fun E H μ s N R S _ h => wpAny_execs_nil ⟨H, μ, S, Kept.refl _ _ _, h⟩
theorem ss_consJ {m : MS} {ms : MSs} {st : Stmt} {r : List Stmt} (i : JS cx A n m fm st) (ir : JSs cx A n ms fm r) : JSs cx A n (.cons m ms) fm (st :: r) := by
  intro E H μ s N R S X h
  refine wpAny_execs_cons (wpAny_mono (i E H μ s _ R S X h) (fun f s₁ q => ?_) fun _ _ e => e)
  obtain ⟨H₁, μ₁, S₁, k₁, h₁⟩ := q
  cases f with
  | next => exact sp_from k₁ (ir _ H₁ μ₁ s₁ N R S₁ (X.from k₁) h₁)
  | ret v => exact ⟨H₁, μ₁, S₁, k₁, h₁⟩
  | brk => exact h₁.elim
  | cont => exact h₁.elim
theorem s_if {c : ME} {t e : MSs} {d : Expr} {a b : List Stmt} {p : Pos} (ic : JT cx A n c fm d) (it : JSs cx A n t fm a) (ie : JSs cx A n e fm b) : JS cx A n (.ite c t e) fm (.If d a b p) := by
  intro E H μ s N R S X h
  refine wpAny_If (wpAny_mono (ic E H μ s (fun b' H => ifB b' (mwpSs cx n t μ H N R) (mwpSs cx n e μ H N R)) S h) (fun v s₁ q => ?_) fun _ _ e => e)
  obtain ⟨H₁, S₁, k₁, h₁⟩ := q
  cases v with
  | true => exact sp_from (k₁.any _) (it E H₁ μ s₁ N R (S.step S₁ k₁) (X.from (k₁.any _)) h₁)
  | false => exact sp_from (k₁.any _) (ie E H₁ μ s₁ N R (S.step S₁ k₁) (X.from (k₁.any _)) h₁)
theorem s_whileJ {c : ME} {b : MSs} {d : Expr} {bd : List Stmt} {p : Pos} (ic : JT cx A n c fm d) (ib : JSs cx A n b fm bd) : JS cx A n (.while_ c b) fm (.While d bd [] p) := by
  intro E H μ s N R S X h
  obtain ⟨I, ⟨k0, hI⟩, hstep⟩ := h
  refine wpAny_While (codeAny_whileLoop (fun k s' => ∃ μ' H', I k μ' H' ∧ SR cx fm H' μ' s' ∧ Kept fm.own s H s' H') ?_ k0 ⟨μ, H, hI, S, Kept.refl _ _ _⟩)
  rintro k s' ⟨μ', H', hI', S', k'⟩
  refine wpAny_mono (ic _ H' μ' s' (fun b' H₁ => ifB b' (mwpSs cx n b μ' H₁ (fun μ' H' => ∃ H₃, LE H₃ H' ∧ ∃ m, m < k ∧ I m μ' H₃) R) (N μ' H₁)) S' (hstep k μ' H' hI')) (fun v s₁ q => ?_) fun _ _ e => e
  obtain ⟨H₁, S₁, k₁, h₁⟩ := q
  have kk := k'.trans (k₁.any fm.own)
  cases v with
  | true =>
    refine wpAny_passesOwn X.p (wpAny_mono (ib E H₁ μ' s₁ _ R (S'.step S₁ k₁) (X.from kk) h₁) (fun f s₂ q => ?_) fun _ _ e => e)
    obtain ⟨H₂, μ₂, S₂, k₂, h₂⟩ := q
    cases f with
    | next =>
      obtain ⟨H₃, le, m, hm, hI3⟩ := h₂
      exact ⟨m, hm, μ₂, H₃, hI3, S₂.le le, (kk.trans k₂).le le⟩
    | ret v => exact ⟨H₂, μ₂, S₂, kk.trans k₂, h₂⟩
    | brk => exact h₂.elim
    | cont => exact h₂.elim
  | false => exact wpAny_execs_nil ⟨H₁, μ', S'.step S₁ k₁, kk, h₁⟩

theorem for_loop {fm : Fm} {H : HP} {μ : List V} {s : Shared} {N : List V → HP → Prop} {R : V → HP → Prop} (W : fm.OK cx A) {x : Str} {px : Pos} {i : Nat} (hi : fm.names[i]? = some (some x)) {body : List Stmt} {b : MSs} (ib : JSs cx A n b fm body)
    (X : XM cx A fm R E s H) {s₁ : Shared} {H₁ : HP} (S₁ : SR cx fm H₁ μ s₁) (k₁ : KE s H s₁ H₁) {it : Addr} {P : Nat → Heap → Prop} {ob : Obj} {items : List V} {st : HP → Prop} (I : ∀ E, Iter cx A E it items st P) (hf : s₁.heap.get? it = none) (hP : P 0 (s₁.heap.push ob))
    (hF : ForP items st μ H₁ (fun x μ H K => mwpSs cx n b (setL μ i x) H K R) N) :
    codeAny (model cx.prog cx.w) A (.forLoop (.Name x px) (.ref it) body [] fm.env) (fun r s' => match r with | .ok f => SP cx fm s H N R f s' | .error e => cameBackBy (model cx.prog cx.w) A fm.env E e s') { s₁ with heap := s₁.heap.push ob } := by
  obtain ⟨Inv, hI0, hst, hturn, hend⟩ := hF
  have kg : ∀ b o, s₁.heap.get? b = some o → (s₁.heap.push ob).get? b = some o := fun b o e => Heap.get?_push_of_some _ e
  have hown : ¬ fm.own it := fun q => by obtain ⟨o, e⟩ := S₁.fr.live it q; rw [hf] at e; cases e
  have hbase : cx.base.get? it = none := S₁.toHS.base_none hf
  have hfr : ¬ fm.fr it := fun ⟨e, he, hff⟩ => by
    obtain ⟨_, L, o, _, _, q1, _, _, q4, _⟩ := S₁.ff e he
    rw [hff] at q1; cases q1; rw [hf] at q4; cases q4
  refine codeAny_forLoop (fun k s' => ∃ done rest μ' H', items = done ++ rest ∧ k = rest.length ∧ Inv done μ' H' ∧ SR cx fm H' μ' s' ∧ Kept fm.own s H s' H' ∧ P done.length s'.heap ∧ H' it = none) ?_ items.length
    ⟨[], items, μ, H₁, rfl, rfl, hI0, S₁.step (S₁.toHS.grow kg _) (KE.grow kg _), KE.any (k₁.trans (KE.grow kg _)) _, hP, S₁.toHS.none_of hf⟩
  rintro k s' ⟨done, rest, μ', H', hitems, rfl, hInv, S', k', hp, hit⟩
  -- an object that lives at s and is not the abstract heap's is not the iterator
  have nit : ∀ b o, s.heap.get? b = some o → H b = none → b ≠ it := fun b o e hn q => by
    subst q; obtain ⟨o', e', _⟩ := k₁.keep _ o e hn id; rw [e'] at hf; cases hf
  cases rest with
  | nil =>
    rw [List.append_nil] at hitems
    subst hitems
    refine (I _).stop s' H' _ S'.toHS (hst _ _ _ hInv) hp fun h' eb => ?_
    exact wpAny_execs_nil ⟨H', μ', S'.aside hit hown hfr hbase eb s'.toks, ⟨fun b o e hn hw => (let ⟨o', e', so⟩ := k'.keep b o e hn hw; ⟨o', eb b o' (nit b o e hn) e', so⟩), k'.dom, k'.os, k'.gens⟩, hend μ' H' hInv⟩
  | cons v rest =>
    have hv : items[done.length]? = some v := by rw [hitems]; simp
    refine (I _).next s' H' done.length v _ S'.toHS (hst _ _ _ hInv) hp hv fun h₂ tk xv hxa hp₂ sb₂ => ?_
    have S₂ := S'.aside hit hown hfr hbase sb₂.extBut tk
    have k₂ : Kept fm.own s H { s' with heap := h₂, toks := tk } H' := ⟨fun b o e hn hw => (let ⟨o', e', so⟩ := k'.keep b o e hn hw; ⟨o', sb₂.extBut b o' (nit b o e hn) e', so⟩), k'.dom, k'.os, k'.gens⟩
    refine wpAny_assign_Name (store_loc W S₂ hi fun s₃ S₃ k₃ => ?_)
    rw [hxa] at S₃
    obtain ⟨oi, hoi⟩ := (I fun _ _ => False).live _ _ hp₂
    have hp₃ : P (done.length + 1) s₃.heap := (I fun _ _ => False).frame _ _ _ hp₂ fun o e => k₃.same e hit hown ((I fun _ _ => False).nd _ _ _ hp₂ e)
    refine wpAny_passesOwn X.p (wpAny_mono (ib E H' (setL μ' i v) s₃ _ R S₃ (X.from (k₂.trans k₃)) (hturn done v rest μ' H' hitems hInv)) (fun f s₄ q => ?_) fun _ _ e => e)
    obtain ⟨H₄, μ₄, S₄, k₄, h₄⟩ := q
    have kk := (k₂.trans k₃).trans k₄
    cases f with
    | next =>
      obtain ⟨H₅, le, hI5⟩ := h₄
      have hoi₃ := k₃.same hoi hit hown ((I fun _ _ => False).nd _ _ _ hp₂ hoi)
      refine ⟨rest.length, Nat.lt_succ_self _, done ++ [v], rest, μ₄, H₅, by rw [hitems]; simp, rfl, hI5, S₄.le le, kk.le le, ?_, ?_⟩
      · rw [List.length_append]
        exact (I fun _ _ => False).frame _ _ _ hp₃ fun o e => k₄.same e hit hown ((I fun _ _ => False).nd _ _ _ hp₃ e)
      · cases e : H₅ it with
        | none => rfl
        | some o =>
          have := k₄.dom it oi hoi₃ hit hown
          rw [le it o e] at this; cases this
    | ret v => exact ⟨H₄, μ₄, S₄, kk, h₄⟩
    | brk => exact h₄.elim
    | cont => exact h₄.elim

theorem s_forJ (C : cx.OK) (hA : AOK A n) (W : fm.OK cx A) {i : Nat} {m : ME} {b : MSs} {x : Str} {px p : Pos} {it : Expr} {bd : List Stmt} (hi : fm.names[i]? = some (some x)) (ki : kindOK it = true) (ii : JE cx A n m fm it) (ib : JSs cx A n b fm bd) :
    JS cx A n (.for_ i m b) fm (.For (.Name x px) it bd [] p) := by
  intro E H μ s N R S X h
  refine wpAny_For (wpAny_mono (it_val (K := fun items st H₁ => ForP items st μ H₁ (fun x μ H K => mwpSs cx n b (setL μ i x) H K R) N) C hA S ii h) (fun xv s₁ hx => wpAny_mono hx (fun itv s₂ hy => ?_) fun _ _ e => e) fun _ _ e => e) (folded_of ki fm.env)
  obtain ⟨ita, P, ob, s₃, H₁, items, st, rfl, S₁, k₁, rfl, hf, I, hP, hk⟩ := hy
  exact for_loop W hi ib X (S.step S₁ k₁) k₁ I hf hP hk
theorem s_forRJ (C : cx.OK) (TO : T.OK cx) (hA : AOK A n) (W : fm.OK cx A) {i : Nat} {a c : ME} {b : MSs} {x : Str} {px np ip p : Pos} {as : List Expr} {bd : List Stmt} (hi : fm.names[i]? = some (some x)) (hg : isGlob fm.env.scope "range" = true) (ha : RngArgs cx A n fm a c as) (ib : JSs cx A n b fm bd) :
    JS cx A n (.forR i a c b) fm (.For (.Name x px) (.Call (.Name "range" np) as [] ip) bd [] p) := by
  intro E H μ s N R S X h
  refine wpAny_For (wpAny_mono (it_rng (K := fun items st H₁ => ForP items st μ H₁ (fun x μ H K => mwpSs cx n b (setL μ i x) H K R) N) C TO hA W S hg ha h) (fun xv s₁ hx => wpAny_mono hx (fun itv s₂ hy => ?_) fun _ _ e => e) fun _ _ e => e) (folded_of rfl fm.env)
  obtain ⟨ita, P, ob, s₃, H₁, items, st, rfl, S₁, k₁, rfl, hf, I, hP, hk⟩ := hy
  exact for_loop W hi ib X (S.step S₁ k₁) k₁ I hf hP hk

theorem s_raiseJ (C : cx.OK) (TO : T.OK cx) (hA : AOK A n) (W : fm.OK cx A) {D : Addr} {m : ME} {x : Str} {np cp p : Pos} {a : Expr} (hx : isGlob fm.env.scope x = true) (ht : T.exs.lookup x = some D) (ka : kindOK a = true) (ia : JE cx A n m fm a) :
    JS cx A n (.raiseS D m) fm (.Raise (some (.Call (.Name x np) [a] [] cp)) none p) := by
  intro E H μ s N R S X h
  obtain ⟨hg, hC, _⟩ := TO.ex x D ht
  obtain ⟨bm, N', nm, q, bs, hdct, sn, sub, ab, col, dd, k0, k1, k2, k3, k5, mN, hD, hN, hq, Tl⟩ := hC.obj
  refine wpAny_Raise_call_subT (C := D) (nm := nm) (q := q) (N := N') (bs := bs) (bm := bm) (hdct := hdct) (sn := sn) (sub := sub) (ab := ab) (col := col) (dd := dd) (k0 := k0) (k1 := k1) (k2 := k2) (k3 := k3) (k5 := k5)
    PySem.F.excBase_ValueError (mN := mN) (Tl.tail.hasType rfl) hA.handled (by rw [starEach_of ka]; rfl) (hq _ (.head _)) (glob_name C W S.toHS hx hg ⟨rfl, ?_⟩)
  rw [starEach_of ka]
  refine Calls.evalArgs_plain (Calls.spliced_cons (ep_then (ia E H μ s _ S h) fun v s₁ H₁ S₁ k₁ h₁ => Calls.spliced_nil ⟨rfl, by simp [sizeLine_eq], S₁.ext _ _ hD, hN.keeps S₁.ext, Tl.tail.keeps S₁.ext, fun h' e hm => ?_⟩))
  have kg := k₁.trans (KE.grow hm.keeps s₁.toks)
  have S' := S.step (S₁.grow hm.keeps s₁.toks) kg
  obtain ⟨t, h1, _, _⟩ := hm.there
  have ne : ∀ o, s.heap.get? e = some o → H e = none → False := fun o q q2 => by
    obtain ⟨o', q3, _⟩ := k₁.keep e o q q2 id
    rw [hm.new] at q3; cases q3
  have no : ¬ fm.own e := fun q => by
    obtain ⟨o, q2⟩ := (S.step S₁ k₁).fr.live e q
    rw [hm.new] at q2; cases q2
  exact X.x e D e H₁ μ _ S' (KE.any kg _) ⟨ne, ne, S₁.none_of hm.new, S₁.none_of hm.new, S₁.base_none hm.new, S₁.base_none hm.new, _, _, _, h1, rfl, rfl, rfl, .inl ⟨rfl, rfl⟩⟩ no no h₁
theorem SR.notown {H H' : HP} {μ : List V} {s : Shared} (S : SR cx fm H μ s) {a : Addr} (h : ∀ o, s.heap.get? a = some o → H a = none → False) : ¬ fm.own a := fun q => by
  obtain ⟨o, e⟩ := S.fr.live a q
  cases e2 : H a with
  | none => exact h o e e2
  | some oo => exact S.own a oo e2 q
theorem XM.xe {R Q : V → HP → Prop} {H : HP} {μ : List V} {s : Shared} (X : XM cx A fm R E s H) (S : SR cx fm H μ s) (h : ∀ C H', Q (.exc C) H' → R (.exc C) H') : XE cx E s H Q := fun e C T H' s' S' k x _ r =>
  X.x e C T H' μ s' (S.step S' k) (KE.any k _) x (S.notown (H' := H') x.e0) (S.notown (H' := H') x.t0) (h C H' r)
theorem x_val (C : cx.OK) (TO : T.OK cx) (hA : AOK0 A n) (hh : T.q = false → A.handled = none) (W : fm.OK cx A) {k : XK} {ms : MEs} {v : Expr} (hc : chkX T k ms fm.env.scope fm.names v = true) {H : HP} {μ : List V} {s : Shared} {Q : V → HP → Prop} (S : SR cx fm H μ s) (h0 : xpre k μ H)
    (h : mwpEs cx n ms μ H fun vs H => xdoP cx n k μ vs H Q) (hE : XE cx E s H Q) : kindOK v = true ∧ isComp v = false ∧ wpAny (model cx.prog cx.w) A (eval v fm.env) (EP cx s H Q) E s := by
  cases k with
  | fn f =>
    obtain ⟨hms, hc⟩ := and2 hc
    obtain ⟨hq, hc⟩ := and2 (show (!T.q && _) = true from hc)
    obtain ⟨x, np, as, p, rfl, h1⟩ := nameCall_inv hc
    obtain ⟨h2, h3⟩ := and2 h1
    obtain ⟨h4, h5⟩ := and2 h3
    obtain ⟨h6, h7⟩ := and2 h5
    cases as with
    | nil => cases ms with
      | nil => cases hms
      | cons => cases h7
    | cons a r =>
      have i := sEs C TO hA hh ms fm (a :: r) W h7
      exact ⟨rfl, rfl, callf_any C TO hA (fun _ => hh (notB hq)) W h2 (eq_of_beq h4) (i.ks a List.mem_cons_self) i.l S h hE⟩
  | mt D x f j =>
    obtain ⟨hq, hc⟩ := and2 (show (!T.q && _) = true from hc)
    obtain ⟨g, as, ks, p, rfl, h1⟩ := vCall_inv hc
    obtain ⟨h2, h3⟩ := and2 h1
    obtain ⟨o, y, ap, rfl, h4⟩ := vAttr_inv h3
    obtain ⟨a4, a5⟩ := and2 h4
    obtain ⟨a6, a7⟩ := and2 a4
    obtain ⟨b5, b8⟩ := and2 a5
    obtain ⟨c8, c9⟩ := and2 b8
    obtain ⟨z, np, rfl, d1⟩ := vName_inv c8
    obtain ⟨d2, d3⟩ := and2 d1
    obtain ⟨e1, e2⟩ := and2 c9
    rw [nil_of h2, eq_of_beq a7]
    have i := sEs C TO hA hh ms fm as W e2
    exact ⟨rfl, rfl, callm_any TO W a6 b5 d2 (eq_of_beq d3) (of_decide_eq_true e1) i.ks e2 i.l S h0 h fun v vs s₁ H₁ hv S₁ k₁ h₁ => ep_from k₁ (call_ok (q := false) hA.toACall0 (fun _ => hh (notB hq)) S₁ ((S.step S₁ k₁).frs W) (by show CallX cx n f (abs v :: vs.map abs) H₁ Q; rw [hv]; exact h₁) (hE.from k₁))⟩
  | mk D f =>
    obtain ⟨hq, hc⟩ := and2 (show (!T.q && _) = true from hc)
    obtain ⟨x, np, as, p, rfl, h1⟩ := nameCall_inv hc
    obtain ⟨h2, h3⟩ := and2 h1
    obtain ⟨h4, h5⟩ := and2 h3
    obtain ⟨h6, h7⟩ := and2 h5
    cases as with
    | nil => cases h6
    | cons a r =>
      have i := sEs C TO hA hh ms fm (a :: r) W h7
      exact ⟨rfl, rfl, mk_any C TO ⟨hA, hh (notB hq)⟩ W h2 h4 i.ks i.l S h hE⟩
theorem onX_abs {v : Value} {k : V → Prop} {x : Addr → Prop} (h : onX (abs v) k x) : k (abs v) := by cases v <;> exact h
theorem s_xdoJ (C : cx.OK) (TO : T.OK cx) (hA : AOK0 A n) (hh : T.q = false → A.handled = none) (W : fm.OK cx A) {d : Option Nat} {k : XK} {ms : MEs} {st : Stmt} (hc : chkS T (.xdo d k ms) fm.env.scope fm.names st = true) : JS cx A n (.xdo d k ms) fm st := by
  intro E H μ s N R S X h
  have hE : XE cx E s H fun v H => onX v (fun v => N (setO μ d v) H) fun D => R (.exc D) H := X.xe S fun _ _ r => r
  cases d with
  | some i =>
    obtain ⟨ts, v, p, rfl, h1⟩ := wAsg_inv hc
    obtain ⟨t, rfl, h2⟩ := l1_inv h1
    obtain ⟨x, px, rfl, h3⟩ := vName_inv h2
    obtain ⟨h4, h5⟩ := and2 h3
    obtain ⟨kv, ic, hv⟩ := x_val C TO hA hh W h5 S h.1 h.2 hE
    refine wpAny_Assign_Name (ep_then hv fun y s₁ H₁ S₁ k₁ h₁ => store_loc W (S.step S₁ k₁) (eq_of_beq h4) fun s₂ S₂ k₂ => ?_) (swaps_of ic kv _ _ _)
    exact ⟨H₁, _, S₂, (k₁.any _).trans k₂, onX_abs h₁⟩
  | none =>
    obtain ⟨v, p, rfl, h1⟩ := wExpr_inv hc
    obtain ⟨kv, ic, hv⟩ := x_val C TO hA hh W h1 S h.1 h.2 hE
    refine wpAny_Expr_any (ep_then hv fun y s₁ H₁ S₁ k₁ h₁ => ?_) (by unfold interactive; rw [W.kind]; rfl) (swaps_of ic kv _ _ _)
    exact ⟨H₁, μ, S.step S₁ k₁, k₁.any _, onX_abs h₁⟩
theorem getL_unb {args : List V} (k : Nat) : ∀ {i : Nat}, args.length ≤ i → getL (args ++ List.replicate k .unb) i = .unb := by
  induction args with
  | nil =>
    intro i _
    simp only [List.nil_append]
    induction k generalizing i with
    | zero => cases i <;> rfl
    | succ k ih => cases i with
      | zero => rfl
      | succ i => exact ih (Nat.zero_le _)
  | cons x l ih =>
    intro i h
    cases i with
    | zero => simp at h
    | succ i => exact ih (by simpa using h)

theorem SR.blank {H : HP} {μ : List V} {s : Shared} (W : fm.OK cx A) (S : SR cx fm H μ s) {h' : Heap} {m' : Str → Option Value} (hn : h'.Ns fm.env.locals m') (sb : Heap.SameBut fm.env.locals s.heap h') (tk : Nat) :
    SR cx fm H (List.replicate fm.names.length .unb) { s with heap := h', toks := tk } ∧ Kept fm.own s H { s with heap := h', toks := tk } H := by
  refine ⟨⟨⟨fun b o e => (S.hr b o e).of_eq (sb.2 b (fun x => S.own b o e (.inl x))), fun b o e => (sb.2 b (fun q => by subst q; rw [W.above _ (.inl rfl)] at e; cases e)).trans (S.ext b o e), S.low⟩, ⟨by simp, fun b q => ?_, ⟨_, hn⟩, fun i x hi => ?_⟩, S.own, fun e he => ?_⟩,
    fun b o e _ hw => ⟨o, (sb.2 b (fun x => hw (.inl x))).trans e, .refl o⟩, fun _ _ _ e _ => e, rfl, rfl⟩
  · by_cases h : b = fm.env.locals
    · subst h; obtain ⟨o, _, _, e, _⟩ := hn; exact ⟨o, e⟩
    · obtain ⟨o, e⟩ := S.fr.live b q
      exact ⟨o, (sb.2 b h).trans e⟩
  · obtain ⟨ov, w, _⟩ := S.fr.var i x hi
    have hu : getL (List.replicate fm.names.length V.unb) i = .unb := getL_unb (args := []) _ (Nat.zero_le _)
    rcases w with ⟨k, m, _, _⟩ | ⟨k, c, hc, o, e, hd⟩
    · exact ⟨m' x, .inl ⟨k, m', hn, rfl⟩, .inl hu⟩
    · exact ⟨ov, .inr ⟨k, c, hc, o, (sb.2 c (W.cellsNe x c hc)).trans e, hd⟩, .inl hu⟩
  · obtain ⟨kd, L, o, es, ep, h1, h2, h3, h4, h5⟩ := S.ff e he
    by_cases h : L = fm.env.locals
    · subst h
      obtain ⟨o', es', ep', e1, e2, _⟩ := hn
      exact ⟨kd, _, o', es', ep', h1, h2, h3, e1, e2⟩
    · exact ⟨kd, L, o, es, ep, h1, h2, h3, (sb.2 L h).trans h4, h5⟩
theorem Tbl.OK.qt {T : Tbl} (h : T.OK cx) : Tbl.OK cx { T with q := true } := ⟨h.fn, h.bf, h.ty, h.isi, h.rng, h.kin, h.at_, h.mt, h.mkc, h.gi, h.ex, h.su, h.xc⟩
theorem SR.exo {H : HP} {μ : List V} {s : Shared} (S : SR cx fm H μ s) {e C : Addr} {ob : Obj} (h1 : s.heap.get? e = some ob) (h2 : ob.cls = .ref C) (h3 : cx.base.get? e = none) (h4 : ¬ fm.own e) (h5 : ∀ y ∈ fm.l, y.frame ≠ some e) : SR cx fm (upd H e (.exo C)) μ s := by
  refine ⟨⟨fun a o q => ?_, S.ext, fun a o q => ?_⟩, S.fr, fun a o q => ?_, fun y hy => ?_⟩
  · by_cases h : a = e
    · subst h; rw [upd_same] at q; cases q; exact ⟨ob, h1, h2⟩
    · rw [upd_ne _ h] at q; exact S.hr a o q
  · by_cases h : a = e
    · subst h; exact h3
    · rw [upd_ne _ h] at q; exact S.low a o q
  · by_cases h : a = e
    · subst h; exact h4
    · rw [upd_ne _ h] at q; exact S.own a o q
  · obtain ⟨kd, L, o, es, ep, q1, q2, q3, q4, q5⟩ := S.ff y hy
    exact ⟨kd, L, o, es, ep, q1, q2, by rw [upd_ne _ (fun q => h5 y hy (by rw [q1, q]))]; exact q3, q4, q5⟩
theorem handle_ok (C : cx.OK) (TO : T.OK cx) (hA : AOK A n) (W : fm.OK cx A) {e Ce : Addr} {hb : Heap} {a0 : Value} {s : Shared} {H H' : HP} {N : List V → HP → Prop} {R : V → HP → Prop}
    (e0 : ∀ o, s.heap.get? e = some o → H e = none → False) (e1 : H' e = none) (e2 : cx.base.get? e = none) (no : ¬ fm.own e) (nf : ∀ y ∈ fm.l, y.frame ≠ some e) :
    ∀ (hs : MHs) (hd : List ExceptHandler) (μ : List V) (s₅ : Shared), chkHs T hs fm.env.scope fm.names hd = true → hanP cx n μ.length H' R Ce hs → SR cx fm H' μ s₅ → Kept fm.own s H s₅ H' → (∀ h', hb.StaysIn h' → s₅.heap.UpToSlots h' → SR cx fm H' μ { s₅ with heap := h' } ∧ Kept fm.own s H { s₅ with heap := h' } H') →
      Heap.FlyingW hb fm.l e (.ref Ce) a0 s₅.heap → Ce ∈ cx.exs → wpAny (model cx.prog cx.w) A (handleBy (.ref e) fm.env hd) (SP cx fm s H N R) E s₅
  | .nil, _, _, _, _, h, _, _, _, _, _ => h.elim
  | .cons K i hm r, [], _, _, hc, _, _, _, _, _, _ => (Bool.false_ne_true hc).elim
  | .cons K i hm r, x :: rest, μ, s₅, hc, h, S, k, tr, fl, hCe => by
    obtain ⟨c1, c2⟩ := and2 hc
    obtain ⟨t, nm, b, hp, rfl, c3⟩ := wHan_inv c1
    obtain ⟨c4, c5⟩ := and2 c3
    obtain ⟨c6, c7⟩ := and2 c5
    obtain ⟨t, rfl, c4⟩ := so_inv c4
    obtain ⟨c, cp, rfl, c4⟩ := vName_inv c4
    obtain ⟨g1, g2⟩ := and2 c4
    obtain ⟨y, rfl, c6⟩ := so_inv c6
    obtain ⟨y1, y2⟩ := and2 c6
    obtain ⟨st, rfl, c7⟩ := l1_inv c7
    obtain ⟨v, rp, rfl, c7⟩ := wRet_inv c7
    obtain ⟨ex, rfl, c7⟩ := so_inv c7
    obtain ⟨hg, _, hK⟩ := TO.ex c K (eq_of_beq g2)
    have hnb : Value.ref e ≠ byPass := by intro q; cases q
    have A0 : AOK0 (A.mark (some (.ref e))) n := ⟨⟨hA.depth, hA.units, hA.frames, hA.guards⟩, hA.top⟩
    have W' : fm.OK cx (A.mark (some (.ref e))) := ⟨W.frames, W.kind, W.globals, W.builtins, W.cellsNe, W.cellsInj, W.inj, W.above, W.cellAt⟩
    obtain ⟨ob, o1, o2⟩ := fl.there
    refine wpAny_handleBy_cons (codeAny_handlers_test (glob_name C W' S.toHS g1 hg ?_)) hnb
    refine exc_match (TO.kin.keeps S.ext) o1 o2 (TO.xc K hK).1 ((TO.xc Ce hCe).2.2.1 K hK) ?_
    by_cases q : Ce = K
    · rw [show (Ce == K) = true from beq_iff_eq.mpr q]
      refine codeAny_handlers_suite_as (lands_againW fl fun h₆ fl₆ u₆ => ?_)
      obtain ⟨S6, k6⟩ := tr h₆ fl₆.1 u₆
      obtain ⟨ob6, p1, p2⟩ := fl₆.there
      refine store_loc W' S6 (eq_of_beq y1) fun s₇ S₇ k₇ => ?_
      have p1' : s₇.heap.get? e = some ob6 := k₇.same p1 e1 no (fun es ep hd => by
        obtain ⟨_, _, _, oe, vs, _, _, _, he, _, hdd, _⟩ := fl₆
        rw [p1] at he; cases he
        rw [hdd] at hd; cases hd)
      have S8 := S₇.exo p1' p2 e2 no nf
      have hz : cx.Z e = none := by
        cases hz : cx.Z e with
        | none => rfl
        | some l => obtain ⟨_, q⟩ := (C.z e l hz).get; rw [e2] at q; cases q
      have hm' := h.1 q e ⟨e1, e2, hz⟩ μ rfl
      refine wpAny_execs_cons (wpAny_Return_some (ep_then ((sE C (Tbl.OK.qt TO) A0 (fun q => (Bool.false_ne_true q.symm).elim) hm fm ex W' c7).v _ _ _ s₇ _ S8 hm') fun vv s₉ H₉ S₉ k₉ h₉ => ?_))
      have S9 := S8.step S₉ k₉
      have k8 : Kept fm.own s H s₇ (upd H' e (.exo Ce)) := by
        have k67 := k6.trans k₇
        exact ⟨k67.keep, fun a o e' hn hw => (by rw [upd_ne _ (fun q => by subst q; exact e0 o e' hn)]; exact k67.dom a o e' hn hw), k67.os, k67.gens⟩
      obtain ⟨m, hn⟩ := S9.fr.ns
      refine wpAny_nameGoes (by show fm.env.scope.names.lookup _ = _; exact eq_of_beq y2) hn (by rw [W.kind]; rfl) fun h' m' hn' sb => ?_
      obtain ⟨S10, k10⟩ := S9.blank W hn' sb (s₉.toks + 1)
      exact ⟨H₉, _, S10, (k8.trans (KE.any k₉ _)).trans k10, h₉⟩
    · rw [show (Ce == K) = false from beq_eq_false_iff_ne.mpr q]
      exact handle_ok C TO hA W e0 e1 e2 no nf r rest μ s₅ c2 (h.2 q) S k tr fl hCe
theorem hanP_mem {len : Nat} {H : HP} {R : V → HP → Prop} {Ce : Addr} (TO : T.OK cx) {sc : Scope} {nm : List (Option Str)} : ∀ (hs : MHs) (hd : List ExceptHandler), chkHs T hs sc nm hd = true → hanP cx n len H R Ce hs → Ce ∈ cx.exs
  | .nil, _, _, h => h.elim
  | .cons K i hm r, [], hc, _ => (Bool.false_ne_true hc).elim
  | .cons K i hm r, x :: rest, hc, h => by
    obtain ⟨c1, c2⟩ := and2 hc
    by_cases q : Ce = K
    · obtain ⟨t, _, b, hp, rfl, c3⟩ := wHan_inv c1
      obtain ⟨c4, _⟩ := and2 c3
      obtain ⟨t, rfl, c4⟩ := so_inv c4
      obtain ⟨c, cp, rfl, c4⟩ := vName_inv c4
      rw [q]; exact (TO.ex c K (eq_of_beq (and2 c4).2)).2.2
    · exact hanP_mem TO r rest c2 (h.2 q)
theorem s_tryJ (C : cx.OK) (TO : T.OK cx) (hA : AOK A n) (W : fm.OK cx A) (htop : ∃ o, fm.l = fm.env :: o) {b : MSs} {hs : MHs} {bd : List Stmt} {hd : List ExceptHandler} {p : Pos} (hne : (!hd.isEmpty) = true) (ib : JSs cx A n b fm bd) (hc : chkHs T hs fm.env.scope fm.names hd = true) :
    JS cx A n (.try_ b hs) fm (.Try bd hd [] [] p) := by
  intro E H μ s N R S X h
  obtain ⟨outer, ho⟩ := htop
  cases hd with
  | nil => cases hne
  | cons h₀ hd =>
    refine wpAny_Try_except (wpAny_mono (ib (fun e s₁ => wpAny (model cx.prog cx.w) A (noteFrame e fm.env) (fun _ s₂ => wpAny (model cx.prog cx.w) A (setFlight e none) (fun _ s₃ => wpAny (model cx.prog cx.w) A (handleBy e fm.env (h₀ :: hd)) (SP cx fm s H N R) E s₃) E s₂) E s₁) H μ s N _ S ⟨?_, PassesOwn.looking⟩ h) (fun f s₁ q => ?_) fun _ _ e => e)
    · intro e Ce T' H' μ' s' S' k' x no nT r
      have hfr := W.frames
      rw [ho] at hfr
      obtain ⟨_, L, _, _, _, hf, _⟩ := S.ff fm.env (by rw [ho]; exact List.mem_cons_self)
      have ff := S'.ff
      rw [ho] at ff
      have nf : ∀ y ∈ fm.l, y.frame ≠ some e := fun y hy q => x.ne_frame ff (L := e) (List.mem_filterMap.mpr ⟨y, by rw [← ho]; exact hy, q⟩) rfl
      have hlen : μ'.length = μ.length := by rw [S'.fr.len, S.fr.len]
      have r' : hanP cx n μ'.length H' R Ce hs := by rw [hlen]; exact r
      have hCe := hanP_mem TO hs (h₀ :: hd) hc r'
      refine look_ok hfr hf S'.toHS ff x fun h₅ a0 S5 hb5 ff5 fl u => ?_
      have tr : ∀ h', (hid s'.heap e T' (fm.env :: outer)).StaysIn h' → s'.heap.UpToSlots h' → SR cx fm H' μ' { s' with heap := h' } ∧ Kept fm.own s H { s' with heap := h' } H' := fun h' st up => by
        obtain ⟨S6, hb6, ff6⟩ := trans_ok (T := T') S'.toHS ff x.e1 x.t1 x.e2 x.t2 st up
        exact ⟨⟨S6, S'.fr.keep (fun b o q e => hb6 b o e (fun z => no (z ▸ q)) (fun z => nT (z ▸ q))), S'.own, by rw [ho]; exact ff6⟩, k'.pass x.ne hb6⟩
      obtain ⟨t1, t2⟩ := tr h₅ fl.1 u
      exact handle_ok C TO hA W x.e0 x.e1 x.e2 no nf hs (h₀ :: hd) μ' { s' with heap := h₅ } hc r' t1 t2 (fun h' st up => tr h' st (u.trans up)) (by rw [ho]; exact fl) hCe
    · obtain ⟨H₁, μ₁, S₁, k₁, h₁⟩ := q
      cases f with
      | next => exact wpAny_execs_nil ⟨H₁, μ₁, S₁, k₁, h₁⟩
      | ret v => exact ⟨H₁, μ₁, S₁, k₁, onX_abs h₁⟩
      | brk => exact h₁.elim
      | cont => exact h₁.elim
mutual
theorem sS (C : cx.OK) (TO : T.OK cx) (hA : AOK0 A n) (hh : T.q = false → A.handled = none) (W : fm.OK cx A) (htop : ∃ o, fm.l = fm.env :: o) : ∀ (m : MS) (st : Stmt), chkS T m fm.env.scope fm.names st = true → JS cx A n m fm st
  | .assign i m, st, h => by
    replace h := wAsg_inv h
    obtain ⟨ts, v, p, rfl, h1⟩ := h
    replace h1 := l1_inv h1
    obtain ⟨t, rfl, h2⟩ := h1
    replace h2 := vName_inv h2
    obtain ⟨x, px, rfl, h3⟩ := h2
    replace h3 := and2 h3
    obtain ⟨h4, h5⟩ := h3
    exact s_asg W (eq_of_beq h4) (sE C TO hA hh m fm v W h5).k (sE C TO hA hh m fm v W h5)
  | .setSub o i m, st, h => by
    replace h := wAsg_inv h
    obtain ⟨ts, v, p, rfl, h1⟩ := h
    replace h1 := l1_inv h1
    obtain ⟨t, rfl, h2⟩ := h1
    replace h2 := vSub_inv h2
    obtain ⟨a, b, sp, rfl, h3⟩ := h2
    replace h3 := and2 h3
    obtain ⟨h4, h5⟩ := h3
    replace h5 := and2 h5
    obtain ⟨h6, h7⟩ := h5
    replace h7 := and2 h7
    obtain ⟨h8, h9⟩ := h7
    exact s_sub (notB h4) (sE C TO hA hh m fm v W h6).k (sE C TO hA hh m fm v W h6).v (sE C TO hA hh o fm a W h8).v (sE C TO hA hh i fm b W h9).v
  | .expr m, st, h => by
    replace h := wExpr_inv h
    obtain ⟨v, p, rfl, h1⟩ := h
    replace h1 := and2 h1
    obtain ⟨h2, h3⟩ := h1
    exact s_exp W (notB h2) (sE C TO hA hh m fm v W h3).k (sE C TO hA hh m fm v W h3).v
  | .ite c t e, st, h => by
    replace h := wIf_inv h
    obtain ⟨d, a, b, p, rfl, h1⟩ := h
    replace h1 := and2 h1
    obtain ⟨h2, h3⟩ := h1
    replace h3 := and2 h3
    obtain ⟨h4, h5⟩ := h3
    exact s_if (sE C TO hA hh c fm d W h2).t (sSs C TO hA hh W htop t a h4) (sSs C TO hA hh W htop e b h5)
  | .for_ i m b, st, h => by
    replace h := and2 h
    obtain ⟨h0, h⟩ := h
    have hA' : AOK A n := ⟨hA, hh (notB h0)⟩
    replace h := wFor_inv h
    obtain ⟨tg, it, bd, o, p, rfl, h1⟩ := h
    replace h1 := and2 h1
    obtain ⟨h2, h3⟩ := h1
    replace h3 := and2 h3
    obtain ⟨h4, h5⟩ := h3
    replace h5 := and2 h5
    obtain ⟨h6, h7⟩ := h5
    replace h7 := vName_inv h7
    obtain ⟨x, px, rfl, h8⟩ := h7
    rw [nil_of h2]
    exact s_forJ C hA' W (eq_of_beq h8) (sE C TO hA hh m fm it W h6).k (sE C TO hA hh m fm it W h6).v (sSs C TO hA hh W htop b bd h4)
  | .forR i a c b, st, h => by
    replace h := and2 h
    obtain ⟨h0, h⟩ := h
    have hA' : AOK A n := ⟨hA, hh (notB h0)⟩
    replace h := wFor_inv h
    obtain ⟨tg, it, bd, o, p, rfl, h1⟩ := h
    replace h1 := and2 h1
    obtain ⟨h2, h3⟩ := h1
    replace h3 := and2 h3
    obtain ⟨h4, h5⟩ := h3
    replace h5 := and2 h5
    obtain ⟨h6, h7⟩ := h5
    replace h6 := vName_inv h6
    obtain ⟨x, px, rfl, h8⟩ := h6
    replace h7 := nameCall_inv h7
    obtain ⟨y, np, as, ip, rfl, h9⟩ := h7
    replace h9 := and2 h9
    obtain ⟨h10, h11⟩ := h9
    replace h11 := and2 h11
    obtain ⟨h12, h13⟩ := h11
    rw [eq_of_beq h12] at h10 ⊢
    rw [nil_of h2]
    exact s_forRJ C TO hA' W (eq_of_beq h8) h10 (rng_of h13 (fun e he => sE C TO hA hh a fm e W he) fun e he => sE C TO hA hh c fm e W he) (sSs C TO hA hh W htop b bd h4)
  | .while_ c b, st, h => by
    replace h := and2 h
    obtain ⟨h0, h⟩ := h
    replace h := wWhile_inv h
    obtain ⟨d, bd, o, p, rfl, h1⟩ := h
    replace h1 := and2 h1
    obtain ⟨h2, h3⟩ := h1
    replace h3 := and2 h3
    obtain ⟨h4, h5⟩ := h3
    rw [nil_of h2]
    exact s_whileJ (sE C TO hA hh c fm d W h4).t (sSs C TO hA hh W htop b bd h5)
  | .ret m, st, h => by
    replace h := wRet_inv h
    obtain ⟨v, p, rfl, h1⟩ := h
    cases v with
    | none => cases h1
    | some v => exact s_retE (sE C TO hA hh m fm v W h1).v
  | .setAttr Cc i x m, st, h => by
    replace h := wAsg_inv h
    obtain ⟨ts, v, p, rfl, h1⟩ := h
    replace h1 := l1_inv h1
    obtain ⟨t, rfl, h2⟩ := h1
    replace h2 := vAttr_inv h2
    obtain ⟨o, y, ap, rfl, h3⟩ := h2
    replace h3 := and2 h3
    obtain ⟨h4, h5⟩ := h3
    replace h4 := and2 h4
    obtain ⟨h6, h7⟩ := h4
    replace h5 := and2 h5
    obtain ⟨h8, h9⟩ := h5
    replace h9 := and2 h9
    obtain ⟨h10, h11⟩ := h9
    replace h11 := vName_inv h11
    obtain ⟨z, np, rfl, h12⟩ := h11
    replace h12 := and2 h12
    obtain ⟨a1, a2⟩ := h12
    rw [eq_of_beq h6]
    exact s_attrJ TO W h7 a1 (eq_of_beq a2) (notB h8) (sE C TO hA hh m fm v W h10).k (sE C TO hA hh m fm v W h10).v
  | .raiseS D m, st, h => by
    replace h := and2 h
    obtain ⟨h0, h⟩ := h
    have hA' : AOK A n := ⟨hA, hh (notB h0)⟩
    replace h := wRaise_inv h
    obtain ⟨x, np, a, cp, p, rfl, h1⟩ := h
    replace h1 := and2 h1
    obtain ⟨h2, h3⟩ := h1
    replace h3 := and2 h3
    obtain ⟨h3, h4⟩ := h3
    exact s_raiseJ C TO hA' W h2 (eq_of_beq h3) (sE C TO hA hh m fm a W h4).k (sE C TO hA hh m fm a W h4).v
  | .xdo d k ms, st, h => s_xdoJ C TO hA hh W h
  | .try_ b hs, st, h => by
    replace h := and2 h
    obtain ⟨h0, h⟩ := h
    replace h := wTry0_inv h
    obtain ⟨bd, hd, o, f, p, rfl, h1⟩ := h
    replace h1 := and2 h1
    obtain ⟨h2, h3⟩ := h1
    replace h2 := and2 h2
    obtain ⟨h4, h5⟩ := h2
    replace h3 := and2 h3
    obtain ⟨h6, h7⟩ := h3
    replace h7 := and2 h7
    obtain ⟨h8, h9⟩ := h7
    rw [nil_of h4, nil_of h5]
    exact s_tryJ C TO ⟨hA, hh (notB h0)⟩ W htop h6 (sSs C TO hA hh W htop b bd h8) h9
theorem sSs (C : cx.OK) (TO : T.OK cx) (hA : AOK0 A n) (hh : T.q = false → A.handled = none) (W : fm.OK cx A) (htop : ∃ o, fm.l = fm.env :: o) : ∀ (ms : MSs) (ss : List Stmt), chkSs T ms fm.env.scope fm.names ss = true → JSs cx A n ms fm ss
  | .nil, ss, h => by
    have := nil_of h; subst this; exact ss_nilJ
  | .cons m ms, [], h => (Bool.false_ne_true h).elim
  | .cons m ms, st :: r, h => by
    replace h := and2 h
    obtain ⟨h1, h2⟩ := h
    exact ss_consJ (sS C TO hA hh W htop m st h1) (sSs C TO hA hh W htop ms r h2)
end
end
end Mine
end

section
namespace Mine
open PySem PyProof.Rows PySem.SeqAt

section
variable {cx : Cx} {T : Tbl} {A : Around} {E : Value → Shared → Prop} {n : Nat}

theorem cells_mem {x : Str} : ∀ (names : List (Str × NameKind)) (k : Nat) (acc : List (Str × Addr)), ((x, NameKind.cell) ∈ names ∨ ∃ c, (x, c) ∈ acc) → ∃ c, (x, c) ∈ cellsFrom k names acc
  | [], _, _, h => h.elim (fun q => nomatch q) id
  | (y, kd) :: r, k, acc, h => by
    unfold cellsFrom
    split
    · rename_i hk
      refine cells_mem r _ _ ?_
      rcases h with h | ⟨c, h⟩
      · rcases List.mem_cons.mp h with q | h
        · cases q; exact .inr ⟨k, List.mem_cons_self⟩
        · exact .inl h
      · exact .inr ⟨c, List.mem_cons_of_mem _ h⟩
    · rename_i hk
      refine cells_mem r _ _ ?_
      rcases h with h | h
      · rcases List.mem_cons.mp h with q | h
        · cases q; simp at hk
        · exact .inl h
      · exact .inr h

theorem pairwise_inj {l : List (Str × Addr)} (h : l.Pairwise fun x y => x.2 ≠ y.2) {x y : Str} {c : Addr} (hx : (x, c) ∈ l) (hy : (y, c) ∈ l) : x = y := by
  induction l with
  | nil => cases hx
  | cons p l ih =>
    rw [List.pairwise_cons] at h
    rcases List.mem_cons.mp hx with e | hx'
    · rcases List.mem_cons.mp hy with e' | hy'
      · rw [← e] at e'; cases e'; rfl
      · exact absurd (show p.2 = c from by rw [← e]) (h.1 (y, c) hy')
    · rcases List.mem_cons.mp hy with e' | hy'
      · exact absurd (show p.2 = c from by rw [← e']) (h.1 (x, c) hx')
      · exact ih h.2 hx' hy'

theorem bindL_other (kd : Str → Option NameKind) {x : Str} : ∀ (b : List (Str × Value)) (m : Str → Option Value), (∀ p ∈ b, p.1 ≠ x) → bindL kd b m x = m x
  | [], _, _ => rfl
  | (y, v) :: r, m, h => by
    unfold bindL
    rw [bindL_other kd r _ (fun p hp => h p (List.mem_cons_of_mem _ hp))]
    have hy : x ≠ y := fun e => h (y, v) List.mem_cons_self e.symm
    split
    · simp [hy]
    · rfl
theorem bindC_other (kd : Str → Option NameKind) {x : Str} : ∀ (b : List (Str × Value)) (m : Str → Option Value), (∀ p ∈ b, p.1 ≠ x) → bindC kd b m x = m x
  | [], _, _ => rfl
  | (y, v) :: r, m, h => by
    unfold bindC
    rw [bindC_other kd r _ (fun p hp => h p (List.mem_cons_of_mem _ hp))]
    have hy : x ≠ y := fun e => h (y, v) List.mem_cons_self e.symm
    split
    · rfl
    · simp [hy]

theorem bind_at (kd : Str → Option NameKind) : ∀ (ps : List Str) (vs : List Value) (m : Str → Option Value) (i : Nat) (x : Str) (v : Value), ps.Nodup → ps[i]? = some x → vs[i]? = some v →
    (kd x = some .local → bindL kd (ps.zip vs) m x = some v) ∧ (kd x ≠ some .local → bindC kd (ps.zip vs) m x = some v)
  | [], _, _, i, x, v, _, h, _ => by simp at h
  | _ :: _, [], _, i, x, v, _, _, h => by simp at h
  | p :: ps, w :: vs, m, 0, x, v, hn, h1, h2 => by
    simp at h1 h2
    subst h1; subst h2
    rw [List.nodup_cons] at hn
    have ho : ∀ q ∈ ps.zip vs, q.1 ≠ p := fun q hq e => hn.1 (e ▸ (List.of_mem_zip hq).1)
    refine ⟨fun hk => ?_, fun hk => ?_⟩
    · show bindL kd ((p, w) :: ps.zip vs) m p = some w
      unfold bindL; rw [if_pos hk, bindL_other kd _ _ ho]; simp
    · show bindC kd ((p, w) :: ps.zip vs) m p = some w
      unfold bindC; rw [if_neg hk, bindC_other kd _ _ ho]; simp
  | p :: ps, w :: vs, m, i + 1, x, v, hn, h1, h2 => by
    rw [List.nodup_cons] at hn
    rw [List.getElem?_cons_succ] at h1 h2
    have hL := fun m => (bind_at kd ps vs m i x v hn.2 h1 h2).1
    have hC := fun m => (bind_at kd ps vs m i x v hn.2 h1 h2).2
    refine ⟨fun hk => ?_, fun hk => ?_⟩
    · show bindL kd ((p, w) :: ps.zip vs) m x = some v
      unfold bindL; exact hL _ hk
    · show bindC kd ((p, w) :: ps.zip vs) m x = some v
      unfold bindC; exact hC _ hk

theorem getL_args {args : List V} : ∀ {i : Nat} {a : V} (r : List V), args[i]? = some a → getL (args ++ r) i = a := by
  induction args with
  | nil => intro i a r h; simp at h
  | cons x l ih =>
    intro i a r h
    cases i with
    | zero => simpa [getL] using h
    | succ i => exact ih r (by simpa using h)
structure Def (cx : Cx) (f : Addr) (ps : List Str) (body : List Stmt) (scope : Scope) : Prop where
  fd : ∃ o fd, cx.base.get? f = some o ∧ o.data = .func fd ∧ fd.body = .stmts body ∧ fd.scope = scope ∧ fd.globals = mainGlobals ∧ fd.builtins = builtinsNs ∧ fd.closure = [] ∧ cx.base.CodeRec fd.code fd.qualname ∧
    ∀ vs : List Value, vs.length = ps.length → bindArgs fd ⟨vs, []⟩ = pure (ps.zip vs)
  kind : scope.kind = .function
  co : scope.isCoroutine = false
  gen : scope.isGenerator = false

noncomputable def namesFit (scope : Scope) (nm : List Str) : Bool := nm.all fun x => scope.names.lookup x == some .local || scope.names.lookup x == some .cell

theorem none_le {H H' : HP} (le : LE H H') {a : Addr} (h : H' a = none) : H a = none := by
  cases q : H a with
  | none => rfl
  | some o => rw [le a o q] at h; cases h
theorem call_introX (C : cx.OK) (TO : T.OK cx) {f : Addr} {ps rest : List Str} {body : List Stmt} {scope : Scope} (D : Def cx f ps body scope) {ms : MSs} (hnd : (ps ++ rest).Nodup) (hfit : namesFit scope (ps ++ rest) = true)
    (hcomp : chkSs T ms scope ((ps ++ rest).map some) body = true) {args : List V} (hlen : args.length = ps.length) {H : HP} {Q : V → HP → Prop}
    (h : mwpSs cx n ms (args ++ List.replicate rest.length .unb) H (fun _ H' => ∃ H₂, LE H₂ H' ∧ Q .none H₂) (fun v H' => ∃ H₂, LE H₂ H' ∧ Q v H₂)) : CallY T.q cx (n + 1) f args H Q := by
  intro A s vs hA hq S hfl hvs
  obtain ⟨o, fd, ho, hd, hb, hsc, hgl, hbi, hcl, hcode, hbind⟩ := D.fd
  have hlv : vs.length = ps.length := by rw [← hlen, ← hvs]; simp
  have hd1 := hA.depth
  have hu1 := hA.units
  refine codeAny_call_function (by unfold recursionLimit; omega) (S.ext _ _ ho) hd (by rw [hsc]; exact D.co) (by rw [hsc]; exact D.gen) hb (hcode.keeps S.ext) ?_
  rw [hbind vs hlv]
  refine wpAny_pure ?_
  rw [hcl, hsc]
  have hkinds : ∀ x ∈ ps ++ rest, scope.names.lookup x = some .local ∨ scope.names.lookup x = some .cell := fun x hx => by
    have := List.all_eq_true.mp hfit x hx
    simpa using this
  have hcells : ∀ x, scope.names.lookup x = some .cell → ∃ c, (cellsFrom (s.heap.objs.size + 1) scope.names []).lookup x = some c := fun x hx => by
    obtain ⟨c, hc⟩ := cells_mem scope.names (s.heap.objs.size + 1) [] (.inl (lookup_mem hx))
    exact lookup_of_mem hc
  refine wpAny_newFunctionEnv_cells D.kind (fun p hp => ?_) fun env he s' B => ?_
  · have hx := hkinds p.1 (List.mem_append_left _ (List.of_mem_zip hp).1)
    rcases hx with hx | hx
    · exact .inl hx
    · obtain ⟨c, hc⟩ := hcells p.1 hx
      exact .inr ⟨hx, by rw [hc]; rfl⟩
  · obtain ⟨hh, tk, hs'⟩ := B.toInCall.same
    have keep := B.toInCall.keep
    refine ⟨(C.nolimit.keeps S.ext).keeps keep, codeAny_func ?_⟩
    subst he
    generalize henv : newEnv scope s.heap.objs.size fd.globals (cellsFrom (s.heap.objs.size + 1) scope.names []) (fd.qualname ++ ".<locals>.") (some f) fd.code none fd.builtins = env at B ⊢
    have e1 : env.scope = scope := by rw [← henv]; rfl
    have e2 : env.locals = s.heap.objs.size := by rw [← henv]; rfl
    have e3 : env.cells = cellsFrom (s.heap.objs.size + 1) scope.names [] := by rw [← henv]; rfl
    have e4 : env.globals = mainGlobals := by rw [← henv]; exact hgl
    have e5 : env.builtins = builtinsNs := by rw [← henv]; exact hbi
    obtain ⟨l, hl⟩ := hA.frames
    have e6 : env.frame = some s.heap.objs.size := by rw [← henv]; rfl
    have hnew : ∀ a : Nat, s.heap.objs.size ≤ a → s.heap.get? a = none := fun a ha => by
      cases e : s.heap.get? a with
      | none => rfl
      | some o => exact absurd (Heap.lt_size e) (Nat.not_lt.mpr ha)
    have hownnew : ∀ a, (⟨env, (ps ++ rest).map some, env :: l⟩ : Fm).own a → s.heap.get? a = none := fun a q => by
      rcases q with q | ⟨x, q⟩
      · rw [q]; show s.heap.get? env.locals = none; rw [e2]; exact hnew _ (Nat.le_refl _)
      · have := B.above x a (lookup_mem q)
        rw [e2] at this
        exact hnew a (Nat.le_of_lt this)
    have W : Fm.OK cx (A.deeper env) ⟨env, (ps ++ rest).map some, env :: l⟩ := by
      refine ⟨by show A.frames.map (env :: ·) = _; rw [hl]; rfl, by rw [e1]; exact D.kind, e4, e5, fun x c hm e => ?_, fun x y c h1 h2 => ?_, fun i j x h1 h2 => ?_, fun a q => S.base_none (hownnew a q), fun x hx => ?_⟩
      · exact absurd (B.above x c (lookup_mem hm)) (by rw [e]; exact Nat.lt_irrefl _)
      · exact pairwise_inj B.apart (lookup_mem h1) (lookup_mem h2)
      · rw [List.getElem?_map, Option.map_eq_some_iff] at h1 h2
        obtain ⟨y, a1, a2⟩ := h1
        obtain ⟨z, b1, b2⟩ := h2
        cases a2; cases b2
        exact (List.getElem?_inj (List.getElem?_eq_some_iff.mp a1).1 hnd).mp (a1.trans b1.symm)
      · show ∃ c, env.cells.lookup x = some c
        rw [e3]; refine hcells x ?_
        have hx' : env.scope.names.lookup x = some .cell := hx
        rw [e1] at hx'; exact hx'
    have S' : SR cx ⟨env, (ps ++ rest).map some, env :: l⟩ H (args ++ List.replicate rest.length .unb) s' := by
      have hs0 : HS cx H s' := ⟨fun a o e => (S.hr a o e).keep (keep a), fun b o e => keep b o (S.ext b o e), S.low⟩
      refine ⟨hs0, ⟨by simp [hlen], fun a q => ?_, ⟨_, B.toInCall.ns⟩, fun i x hi => ?_⟩, fun a o e q => ?_, fun e he => ?_⟩
      · rcases q with q | ⟨x, q⟩
        · obtain ⟨o, _, _, e, _⟩ := B.toInCall.ns
          exact ⟨o, by rw [q]; exact e⟩
        · obtain ⟨o, e, _⟩ := B.cell x a q
          exact ⟨o, e⟩
      · rw [List.getElem?_map, Option.map_eq_some_iff] at hi
        obtain ⟨y, a1, a2⟩ := hi
        cases a2
        have hx := hkinds x (List.mem_of_getElem? a1)
        have hk : env.kindOf x = scope.names.lookup x := by show env.scope.names.lookup x = _; rw [e1]
        by_cases hip : i < ps.length
        · rw [List.getElem?_append_left hip] at a1
          have hiv : i < vs.length := by rw [hlv]; exact hip
          have hv : vs[i]? = some vs[i] := List.getElem?_eq_getElem hiv
          have hg : getL (args ++ List.replicate rest.length .unb) i = abs vs[i] := getL_args _ (by rw [← hvs, List.getElem?_map, hv]; rfl)
          obtain ⟨b1, b2⟩ := bind_at env.kindOf ps vs (fun _ => none) i x vs[i] (List.nodup_append.mp hnd).1 a1 hv
          rcases hx with hx | hx
          · exact ⟨some vs[i], .inl ⟨by rw [hk]; exact hx, _, B.toInCall.ns, b1 (by rw [hk]; exact hx)⟩, .inr ⟨_, rfl, hg.symm⟩⟩
          · obtain ⟨c, hc⟩ := hcells x hx
            have hc' : env.cells.lookup x = some c := by rw [e3]; exact hc
            exact ⟨some vs[i], .inr ⟨by rw [hk]; exact hx, c, hc', b2 (by rw [hk, hx]; simp) ▸ B.cell x c hc'⟩, .inr ⟨_, rfl, hg.symm⟩⟩
        · have hg : getL (args ++ List.replicate rest.length .unb) i = .unb := getL_unb _ (by rw [hlen]; exact Nat.le_of_not_lt hip)
          rcases hx with hx | hx
          · exact ⟨_, .inl ⟨by rw [hk]; exact hx, _, B.toInCall.ns, rfl⟩, .inl hg⟩
          · obtain ⟨c, hc⟩ := hcells x hx
            have hc' : env.cells.lookup x = some c := by rw [e3]; exact hc
            exact ⟨_, .inr ⟨by rw [hk]; exact hx, c, hc', B.cell x c hc'⟩, .inl hg⟩
      · obtain ⟨ob, e'⟩ := (S.hr a o e).get
        rw [hownnew a q] at e'; cases e'
      · rcases List.mem_cons.mp he with rfl | he
        · obtain ⟨o, es, ep, q1, q2, _⟩ := B.toInCall.ns
          refine ⟨by rw [e1, D.kind]; decide, _, o, es, ep, e6, S.base_none (get_size _), S.none_of (get_size _), by rw [← e2]; exact q1, q2⟩
        · obtain ⟨kd, L, o, es, ep, q1, q2, q3, q4, q5⟩ := hfl l hl e he
          exact ⟨kd, L, o, es, ep, q1, q2, q3, keep L o q4, q5⟩
    have hA' : AOK0 (A.deeper env) n := by
      refine ⟨⟨by show A.depth + 1 + n < 850; omega, by show A.units + 3 + 16 * n < 9000; omega, ⟨env :: l, by show A.frames.map (env :: ·) = _; rw [hl]; rfl⟩, hA.guards⟩, env, l, by show A.frames.map (env :: ·) = _; rw [hl]; rfl, by rw [e1]; exact D.gen, by rw [e1]; exact D.co, e5, e4⟩
    have hno : ∀ b o, s.heap.get? b = some o → ¬ (⟨env, (ps ++ rest).map some, env :: l⟩ : Fm).own b := fun b o e q => by rw [hownnew b q] at e; cases e
    have kk : ∀ s₁ H₁, Kept (⟨env, (ps ++ rest).map some, env :: l⟩ : Fm).own s' H s₁ H₁ → KE s H s₁ H₁ := fun s₁ H₁ k2 =>
      ⟨fun b o e hn _ => k2.keep b o (keep b o e) hn (hno b o e), fun a o e hn _ => k2.dom a o (keep a o e) hn (hno a o e), by rw [k2.os, hs'], by rw [k2.gens, hs']⟩
    refine wpAny_mono (sSs (fm := ⟨env, (ps ++ rest).map some, env :: l⟩) C TO hA' hq W ⟨l, rfl⟩ ms body (by show chkSs T ms env.scope _ body = _; rw [e1]; exact hcomp) _ H _ s' _ _ S' ?_ h) (fun fl s₁ q => ?_) fun _ _ e => e
    · refine ⟨?_, PassesOwn.leaving⟩
      intro e C' T' H₁ μ₁ s₁ S₁ k₁ x n1 n2 r
      obtain ⟨H₂, le, hq⟩ := r
      have x' : ExcIn cx.base s H H₁ s₁.heap e C' T' := ⟨fun o q => x.e0 o (keep e o q), fun o q => x.t0 o (keep T' o q), x.e1, x.t1, x.e2, x.t2, x.at_⟩
      refine leave_ok (outer := l) W.frames e6 (kk s₁ H₁ k₁) S₁.toHS S₁.ff x' fun h'' T'' S3 k3 x3 nT => .inr ⟨e, C', T'', H₂, rfl, S3.le le, k3.le le, ?_, nT, hq⟩
      exact ⟨x3.e0, x3.t0, none_le le x3.e1, none_le le x3.t1, x3.e2, x3.t2, x3.at_⟩
    obtain ⟨H₁, μ₁, S₁, k₁, h₁⟩ := q
    cases fl with
    | next =>
      obtain ⟨H₂, le, hq⟩ := h₁
      exact .inl ⟨.none, H₂, rfl, S₁.toHS.le le, (kk s₁ H₁ k₁).le le, hq⟩
    | ret v =>
      obtain ⟨H₂, le, hq⟩ := h₁
      exact .inl ⟨v, H₂, rfl, S₁.toHS.le le, (kk s₁ H₁ k₁).le le, hq⟩
    | brk => exact h₁.elim
    | cont => exact h₁.elim
theorem call_intro (C : cx.OK) (TO : T.OK cx) {f : Addr} {ps rest : List Str} {body : List Stmt} {scope : Scope} (D : Def cx f ps body scope) {ms : MSs} (hnd : (ps ++ rest).Nodup) (hfit : namesFit scope (ps ++ rest) = true)
    (hcomp : chkSs T ms scope ((ps ++ rest).map some) body = true) {args : List V} (hlen : args.length = ps.length) {H : HP} {Q : V → HP → Prop}
    (h : mwpSs cx n ms (args ++ List.replicate rest.length .unb) H (fun _ H' => ∃ H₂, LE H₂ H' ∧ nx Q .none H₂) (fun v H' => ∃ H₂, LE H₂ H' ∧ nx Q v H₂)) : CallY T.q cx (n + 1) f args H (nx Q) :=
  call_introX C TO D hnd hfit hcomp hlen h
end
end Mine
end

section
namespace Mine
open PySem PyProof.Rows

section
variable {cx : Cx} {n : Nat} {H H' : HP} {a r x y : Addr} {o : O} {Q : V → HP → Prop} {vs ws : List V} {i j : Int} {v w : V}

theorem CallY.mono {q : Bool} {f : Addr} {args : List V} {Q' : V → HP → Prop} (h : CallY q cx n f args H Q) (m : ∀ v H, Q v H → Q' v H) : CallY q cx n f args H Q' :=
  fun A s vs hA hq S hf e => codeAny_mono (h A s vs hA hq S hf e) fun _ _ x => x.imp (fun ⟨v, H', a, b, c, d⟩ => ⟨v, H', a, b, c, m _ _ d⟩) fun ⟨e, C, T, H', a, b, c, d, t, f⟩ => ⟨e, C, T, H', a, b, c, d, t, m _ _ f⟩
theorem S_cons {s : MS} {r : MSs} {μ : List V} {N : List V → HP → Prop} {R : V → HP → Prop} (h : mwpS cx n s μ H (fun μ H => mwpSs cx n r μ H N R) R) : mwpSs cx n (.cons s r) μ H N R := h
theorem S_nil {μ : List V} {N : List V → HP → Prop} {R : V → HP → Prop} (h : N μ H) : mwpSs cx n .nil μ H N R := h

theorem lk_same : lk cx (upd H r o) r = some o := by simp [lk, upd_same]
theorem lk_ne (h : a ≠ r) : lk cx (upd H r o) a = lk cx H a := by simp [lk, upd_ne _ h]
theorem Fresh.lk_none (hr : Fresh cx H r) : lk cx H r = none := by simp [lk, hr.1, hr.2.2]
theorem Fresh.ne (hr : Fresh cx H r) {o : O} (h : lk cx H a = some o) : a ≠ r := fun e => by subst e; rw [hr.lk_none] at h; cases h
theorem Fresh.ne' (hr : Fresh cx H r) {o : O} (h : H a = some o) : a ≠ r := fun e => by subst e; rw [hr.1] at h; cases h
theorem lk_fresh (hr : Fresh cx H r) {o' : O} (h : lk cx H a = some o') : lk cx (upd H r o) a = some o' := by rw [lk_ne (hr.ne h)]; exact h
theorem lk_of (h : H a = some o) : lk cx H a = some o := by simp [lk, h]

noncomputable def RQ (Q : V → HP → Prop) : V → HP → Prop := fun v H' => ∃ H₂, LE H₂ H' ∧ Q v H₂
noncomputable def NQ (Q : V → HP → Prop) : List V → HP → Prop := fun _ H' => ∃ H₂, LE H₂ H' ∧ Q .none H₂
theorem RQ.here {v : V} (h : Q v H) : RQ Q v H := ⟨H, LE.refl H, h⟩
theorem NQ.here {μ : List V} (h : Q .none H) : NQ Q μ H := ⟨H, LE.refl H, h⟩

theorem onO_of {α : Type} {o : Option α} {x : α} {k : α → Prop} (h : o = some x) (q : k x) : onO o k := by subst h; exact q
theorem onHL_of {o : Option O} {k : List V → Prop} (h : o = some (.list vs)) (q : k vs) : onHL o k := by subst h; exact q
theorem onIn_of {C dx : Addr} {o : Option O} {k : Addr → Prop} (h : o = some (.inst C dx)) (q : k dx) : onIn C o k := by subst h; exact ⟨rfl, q⟩
theorem onFl_of {fs : List (Str × V)} {o : Option O} {k : List (Str × V) → Prop} (h : o = some (.flds fs)) (q : k fs) : onFl o k := by subst h; exact q
theorem sq_l (h : lk cx H a = some (.list vs)) : sq cx H a = some vs := by unfold sq; rw [h]
theorem sq_t (h : lk cx H a = some (.tup vs)) : sq cx H a = some vs := by unfold sq; rw [h]
theorem lst_l (h : lk cx H a = some (.list vs)) : lst cx H a = some vs := by unfold lst; rw [h]
theorem W_sub (h : sq cx H a = some vs) (h1 : 0 ≤ i) (h2 : vs.length ≤ 16777216) (h3 : vs[i.toNat]? = some v) (q : Q v H) : subP cx (.ref a) (.int i) H Q := onO_of h ⟨h1, h2, onO_of h3 q⟩
theorem W_len (h : sq cx H a = some vs) (h2 : vs.length ≤ 16777216) (q : Q (.int vs.length) H) : callbP cx .len [.ref a] H Q := onO_of h ⟨h2, q⟩
theorem W_list (h : sq cx H a = some vs) (h2 : vs.length ≤ 16777216) (q : new cx H (.list vs) Q) : callbP cx .list [.ref a] H Q := onO_of h ⟨h2, q⟩
theorem W_attr {C dx : Addr} {x : Str} {fs : List (Str × V)} (h1 : H a = some (.inst C dx)) (h2 : H dx = some (.flds fs)) (h3 : fs.lookup x = some v) (h4 : v ≠ .other) (q : Q v H) : attrP C (.ref a) x H Q := onIn_of (k := fun dx => onFl (H dx) fun fs => onO (fs.lookup x) fun v => v ≠ .other ∧ Q v H) h1 (onFl_of h2 (onO_of h3 ⟨h4, q⟩))
theorem W_inst {C dx : Addr} {x : Str} {fs : List (Str × V)} (h1 : H a = some (.inst C dx)) (h2 : H dx = some (.flds fs)) (h3 : fs.lookup x = none) : instP C (.ref a) x H := onIn_of (k := fun dx => onFl (H dx) fun fs => fs.lookup x = none) h1 (onFl_of h2 h3)
theorem W_setAttr {C dx : Addr} {x : Str} {fs : List (Str × V)} {P : HP → Prop} (h1 : H a = some (.inst C dx)) (h2 : H dx = some (.flds fs)) (h3 : fs.length < 100) (q : P (upd H dx (.flds (putF x v fs)))) : setAttrP C (.ref a) x v H P := onIn_of (k := fun dx => onFl (H dx) fun fs => fs.length < 100 ∧ P (upd H dx (.flds (putF x v fs)))) h1 (onFl_of h2 ⟨h3, q⟩)
theorem W_la (h : H a = some (.list vs)) : listAt (.ref a) H := onHL_of h trivial
theorem W_app (h : H a = some (.list vs)) (h2 : vs.length ≤ 16777216) (q : Q .none (upd H a (.list (vs ++ [v])))) : appP (.ref a) v H Q := onHL_of h ⟨h2, q⟩
theorem W_cat (h1 : lst cx H x = some vs) (h2 : lst cx H y = some ws) (h3 : vs.length + ws.length ≤ 16777216) (q : new cx H (.list (vs ++ ws)) Q) : binP cx .Add (.ref x) (.ref y) H Q := onO_of h1 (onO_of h2 ⟨h3, q⟩)
theorem W_rep (h1 : lst cx H x = some vs) (h2 : -16777216 < i) (h3 : i < 16777216) (h4 : vs.length * i.toNat ≤ 16777216) (q : new cx H (.list (List.replicate i.toNat vs).flatten) Q) : binP cx .Mult (.ref x) (.int i) H Q := onO_of h1 ⟨h2, h3, h4, q⟩
theorem W_slice {l h : Nat} (h1 : lk cx H a = some (.list vs)) (h2 : cutLo vs.length v = some l) (h3 : cutHi vs.length w = some h) (h4 : vs.length ≤ 16777216) (q : new cx H (.list (cut vs l h)) Q) : sliceP cx (.ref a) v w H Q := by
  show onSq (lk cx H a) _ _
  rw [h1]; exact onO_of h2 (onO_of h3 ⟨h4, q⟩)
theorem W_setSub {P : HP → Prop} (h : H a = some (.list vs)) (h1 : 0 ≤ i) (h2 : vs.length ≤ 16777216) (h3 : i.toNat < vs.length) (q : P (upd H a (.list (vs.set i.toNat v)))) : setSubP (.ref a) (.int i) v H P := onHL_of h ⟨h1, h2, h3, q⟩
theorem W_iter {P : List V → (HP → Prop) → HP → Prop} (h : lk cx H a = some (.list vs)) (h2 : vs.length ≤ 16777216) (q : P vs (fun H' => lk cx H' a = some (.list vs)) H) : IterP cx (.ref a) H P := onHL_of h ⟨h2, q⟩

theorem l_n {k : V → Prop} : onL .none k = k .none := rfl
theorem l_b {b : Bool} {k : V → Prop} : onL (.bool b) k = k (.bool b) := rfl
theorem l_i {k : V → Prop} : onL (.int i) k = k (.int i) := rfl
theorem l_s {x : Str} {k : V → Prop} : onL (.str x) k = k (.str x) := rfl
theorem l_r {k : V → Prop} : onL (.ref a) k = k (.ref a) := rfl
theorem o_b {b : Bool} {k : Bool → Prop} : onB (.bool b) k = k b := rfl
theorem o_i {k : Int → Prop} : onI (.int i) k = k i := rfl
theorem o_r {k : Addr → Prop} : onR (.ref a) k = k a := rfl
theorem o_s {α : Type} {x : α} {k : α → Prop} : onO (some x) k = k x := rfl
theorem if_t {P P' : Prop} : ifB true P P' = P := rfl
theorem if_f {P P' : Prop} : ifB false P P' = P' := rfl
theorem bin_add : binP cx .Add (.int i) (.int j) H Q = Q (.int (i + j)) H := rfl
theorem bin_sub : binP cx .Sub (.int i) (.int j) H Q = Q (.int (i - j)) H := rfl
theorem bin_mul : binP cx .Mult (.int i) (.int j) H Q = (IntMulOk i j ∧ Q (.int (i * j)) H) := rfl
theorem bin_div : binP cx .FloorDiv (.int i) (.int j) H Q = (j ≠ 0 ∧ Q (.int (i.fdiv j)) H) := rfl
theorem bin_mod : binP cx .Mod (.int i) (.int j) H Q = (j ≠ 0 ∧ Q (.int (i.fmod j)) H) := rfl
theorem bin_pow : binP cx .Pow (.int i) (.int j) H Q = (0 ≤ j ∧ (Builtin.Int.intBits i : Int) * j ≤ 2 ^ 27 ∧ Q (.int (i ^ j.toNat)) H) := rfl
theorem bin_str {x : Str} : binP cx .Mult (.str x) (.int i) H Q = ((i = 0 ∨ i = 1) ∧ Q (.str (if i = 1 then x else Str.empty)) H) := rfl
theorem cm_lt : cmpP cx .Lt (.int i) (.int j) H = some (decide (i < j)) := rfl
theorem cm_le : cmpP cx .LtE (.int i) (.int j) H = some (decide (i ≤ j)) := rfl
theorem cm_gt : cmpP cx .Gt (.int i) (.int j) H = some (decide (j < i)) := rfl
theorem cm_eq : cmpP cx .Eq (.int i) (.int j) H = some (PyData.eqv (.int i) (.int j)) := rfl
theorem cm_ne : cmpP cx .NotEq (.int i) (.int j) H = some (!PyData.eqv (.int i) (.int j)) := rfl
theorem cm_isn : cmpP cx .Is v w H = isP v w := rfl
theorem cm_isnn : cmpP cx .IsNot v w H = (isP v w).map fun c => !c := rfl
theorem eqv_int (i j : Int) : PyData.eqv (.int i) (.int j) = (i == j) := by unfold PyData.eqv; rfl
theorem rn_i (P : List V → Prop) : RngP (.int i) (.int j) P = ((-1152921504606846976 < i ∧ i < 1152921504606846976) ∧ (-1152921504606846976 < j ∧ j < 1152921504606846976) ∧ P (intsV (rangeL i j))) := rfl
theorem cb_int {b : Bool} : callbP cx .int [.bool b] H Q = Q (.int (if b then 1 else 0)) H := rfl
theorem cb_abs : callbP cx .abs [.int i] H Q = Q (.int (if i < 0 then -i else i)) H := rfl
theorem cb_max : callbP cx .max [.int i, .int j] H Q = Q (.int (if i < j then j else i)) H := rfl
theorem x_fn {f : Addr} {μ : List V} : xdoP cx n (.fn f) μ vs H Q = CallX cx n f vs H Q := rfl
theorem x_mt {C f : Addr} {x : Str} {j : Nat} {μ : List V} : xdoP cx n (.mt C x f j) μ vs H Q = CallX cx n f (getL μ j :: vs) H Q := rfl
theorem x_mk {C f : Addr} {μ : List V} : xdoP cx n (.mk C f) μ vs H Q = mkX cx n C f vs H Q := rfl
theorem p_fn {f : Addr} {μ : List V} : xpre (.fn f) μ H = True := rfl
theorem p_mt {C f : Addr} {x : Str} {j : Nat} {μ : List V} : xpre (.mt C x f j) μ H = instP C (getL μ j) x H := rfl
theorem p_mk {C f : Addr} {μ : List V} : xpre (.mk C f) μ H = True := rfl
theorem s_so {μ : List V} {k : Nat} : setO μ (some k) v = setL μ k v := rfl
theorem s_no {μ : List V} : setO μ none v = μ := rfl
theorem ox_e {C : Addr} {k : V → Prop} {z : Addr → Prop} : onX (.exc C) k z = z C := rfl
theorem ox_n {k : V → Prop} {z : Addr → Prop} : onX .none k z = k .none := rfl
theorem ox_r {k : V → Prop} {z : Addr → Prop} : onX (.ref a) k z = k (.ref a) := rfl
theorem ox_i {k : V → Prop} {z : Addr → Prop} : onX (.int i) k z = k (.int i) := rfl
theorem ox_b {b : Bool} {k : V → Prop} {z : Addr → Prop} : onX (.bool b) k z = k (.bool b) := rfl
theorem ox_s {x : Str} {k : V → Prop} {z : Addr → Prop} : onX (.str x) k z = k (.str x) := rfl
theorem n_t : (!true) = false := rfl
theorem n_f : (!false) = true := rfl
theorem is_nn : isP .none .none = some true := rfl
theorem is_in : isP (.int i) .none = some false := rfl
theorem is_rn : isP (.ref a) .none = some false := rfl
theorem is_ib {b : Bool} : isP (.int i) (.bool b) = some false := rfl
theorem is_bb {b c : Bool} : isP (.bool b) (.bool c) = some (b == c) := rfl
end
end Mine
end

section
namespace Mine

noncomputable abbrev Th := Bool × Int
noncomputable abbrev Bx := List (List Th)

noncomputable def pl (B : Bx) (k : Nat) : Nat := ((B.take k).map (fun f => 1 + f.length)).sum
theorem pl_zero (B : Bx) : pl B 0 = 0 := by simp [pl]
theorem pl_nil (k : Nat) : pl [] k = 0 := by simp [pl]
theorem pl_cons (f : List Th) (B : Bx) (k : Nat) : pl (f :: B) (k + 1) = 1 + f.length + pl B k := by simp [pl]
theorem pl_succ : ∀ {B : Bx} {k : Nat} {f : List Th}, B[k]? = some f → pl B (k + 1) = pl B k + 1 + f.length
  | [], _, _, h => by simp at h
  | g :: B, 0, f, h => by
    simp at h; subst h
    rw [pl_cons, pl_zero, pl_zero]; first | lia | omega
  | g :: B, k + 1, f, h => by
    simp at h
    rw [pl_cons, pl_cons, pl_succ h]; first | lia | omega
theorem pl_step (B : Bx) (k : Nat) : pl B k ≤ pl B (k + 1) := by
  cases h : B[k]? with
  | some f => rw [pl_succ h]; first | lia | omega
  | none =>
    have : B.length ≤ k := List.getElem?_eq_none_iff.mp h
    simp [pl, List.take_of_length_le this, List.take_of_length_le (show B.length ≤ k + 1 by first | lia | omega)]
theorem pl_mono {B : Bx} {i j : Nat} (h : i ≤ j) : pl B i ≤ pl B j := by
  induction h with
  | refl => exact Nat.le_refl _
  | step _ ih => exact Nat.le_trans ih (pl_step B _)
theorem pl_lt {B : Bx} {i j : Nat} (hi : i < B.length) (h : i < j) : pl B i < pl B j := by
  have e := pl_succ (List.getElem?_eq_getElem hi)
  have := pl_mono (B := B) (show i + 1 ≤ j from h)
  first | lia | omega
theorem pl_inj {B : Bx} {i j : Nat} (hi : i < B.length) (hj : j < B.length) (h : pl B i = pl B j) : i = j := by
  rcases Nat.lt_trichotomy i j with q | q | q
  · have := pl_lt hi q; first | lia | omega
  · exact q
  · have := pl_lt hj q; first | lia | omega
theorem pl_ne {B : Bx} {k j i : Nat} {f : List Th} (h : B[k]? = some f) (hj : j < f.length) : pl B k + 1 + j ≠ pl B i := by
  intro e
  have e2 := pl_succ h
  rcases Nat.lt_or_ge k i with q | q
  · have := pl_mono (B := B) (show k + 1 ≤ i from q); first | lia | omega
  · have := pl_mono (B := B) q; first | lia | omega

noncomputable def word (g : Nat → Nat) (t : Th) : Int := if t.1 = true then 2 * (g t.2.toNat : Int) + 1 else 2 * t.2
noncomputable def cellsOf (g : Nat → Nat) (f : List Th) : List Int := (4 * (f.length : Int)) :: f.map (word g)
noncomputable def rowOf (g : Nat → Nat) (B : Bx) : List Int := (B.map (cellsOf g)).flatten
theorem rowOf_cons (g : Nat → Nat) (f : List Th) (B : Bx) : rowOf g (f :: B) = cellsOf g f ++ rowOf g B := by simp [rowOf]
theorem cellsOf_length (g : Nat → Nat) (f : List Th) : (cellsOf g f).length = 1 + f.length := by simp [cellsOf]; first | lia | omega
theorem rowOf_length (g : Nat → Nat) : ∀ B : Bx, (rowOf g B).length = pl B B.length
  | [] => by simp [rowOf, pl]
  | f :: B => by rw [rowOf_cons, List.length_append, cellsOf_length, rowOf_length g B, List.length_cons, pl_cons]
theorem rowOf_append (g : Nat → Nat) (B C : Bx) : rowOf g (B ++ C) = rowOf g B ++ rowOf g C := by simp [rowOf]
theorem rowOf_at (g : Nat → Nat) (zs : List Int) : ∀ {B : Bx} {k : Nat} {f : List Th} (j : Nat), B[k]? = some f → j < 1 + f.length → (rowOf g B ++ zs)[pl B k + j]? = (cellsOf g f)[j]?
  | [], _, _, _, h, _ => by simp at h
  | e :: B, 0, f, j, h, hj => by
    simp at h; subst h
    rw [pl_zero, rowOf_cons, List.append_assoc, Nat.zero_add, List.getElem?_append_left (by rw [cellsOf_length]; exact hj)]
  | e :: B, k + 1, f, j, h, hj => by
    simp at h
    rw [pl_cons, rowOf_cons, List.append_assoc, List.getElem?_append_right (by rw [cellsOf_length]; omega), cellsOf_length]
    rw [show 1 + e.length + pl B k + j - (1 + e.length) = pl B k + j from by first | lia | omega]
    exact rowOf_at g zs j h hj
theorem rowOf_head (g : Nat → Nat) (zs : List Int) {B : Bx} {k : Nat} {f : List Th} (h : B[k]? = some f) : (rowOf g B ++ zs)[pl B k]? = some (4 * (f.length : Int)) := by
  have := rowOf_at g zs 0 h (by first | lia | omega)
  simpa [cellsOf] using this
theorem rowOf_field (g : Nat → Nat) (zs : List Int) {B : Bx} {k j : Nat} {f : List Th} {t : Th} (h : B[k]? = some f) (hj : f[j]? = some t) : (rowOf g B ++ zs)[pl B k + 1 + j]? = some (word g t) := by
  have hl : j < f.length := (List.getElem?_eq_some_iff.mp hj).1
  have := rowOf_at g zs (1 + j) h (by first | lia | omega)
  rw [show pl B k + 1 + j = pl B k + (1 + j) from by first | lia | omega, this, Nat.add_comm 1 j]
  simp [cellsOf, hj]

structure Shp (B : Bx) (xs : List Int) : Prop where
  len : xs.length ≤ 1000
  hd : ∀ {k : Nat} {f : List Th}, B[k]? = some f → xs[pl B k]? = some (4 * (f.length : Int))
  fld : ∀ {k j : Nat} {f : List Th} {t : Th}, B[k]? = some f → f[j]? = some t → xs[pl B k + 1 + j]? = some (word (pl B) t)
structure WFB (B : Bx) : Prop where
  pos : 0 < B.length
  tgt : ∀ f ∈ B, ∀ t ∈ f, t.1 = true → ∃ j : Nat, t.2 = (j : Int) ∧ j < B.length
theorem shp_rowOf {B : Bx} {zs : List Int} (h : (rowOf (pl B) B ++ zs).length ≤ 1000) : Shp B (rowOf (pl B) B ++ zs) :=
  ⟨h, fun h => rowOf_head _ _ h, fun h hj => rowOf_field _ _ h hj⟩

inductive Reach (B : Bx) : Nat → Prop
  | zero : Reach B 0
  | step {k j : Nat} {f : List Th} : Reach B k → B[k]? = some f → (true, (j : Int)) ∈ f → Reach B j
theorem Reach.lt {B : Bx} (w : WFB B) {k : Nat} (h : Reach B k) : k < B.length := by
  cases h with
  | zero => exact w.pos
  | step _ hf ht =>
    obtain ⟨j, e, hj⟩ := w.tgt _ (List.mem_of_getElem? hf) _ ht rfl
    have : _ = j := Int.ofNat.inj e
    first | lia | omega

theorem nodup_bound : ∀ (n : Nat) {l : List Nat}, l.Nodup → (∀ k ∈ l, k < n) → l.length ≤ n
  | 0, l, _, h => by
    cases l with
    | nil => simp
    | cons a l => exact absurd (h a List.mem_cons_self) (by first | lia | omega)
  | n + 1, l, hn, h => by
    by_cases q : n ∈ l
    · have h1 := nodup_bound n (l := l.erase n) (hn.erase n) (fun k hk => by
        have h2 := h k (List.mem_of_mem_erase hk)
        have h3 : k ≠ n := fun e => by subst e; exact (List.Nodup.not_mem_erase hn) hk
        omega)
      rw [List.length_erase_of_mem q] at h1
      first | lia | omega
    · have := nodup_bound n hn (fun k hk => by
        have h2 := h k hk
        have h3 : k ≠ n := fun e => by subst e; exact q hk
        omega)
      first | lia | omega

noncomputable def bump (xs : List Int) (cs : List Nat) : List Int := xs.mapIdx fun i x => if i ∈ cs then x + 2 else x
theorem bump_length (xs : List Int) (cs : List Nat) : (bump xs cs).length = xs.length := by simp [bump]
theorem bump_get (xs : List Int) (cs : List Nat) (i : Nat) : (bump xs cs)[i]? = xs[i]?.map fun x => if i ∈ cs then x + 2 else x := by simp [bump]
theorem bump_nil (xs : List Int) : bump xs [] = xs := by
  apply List.ext_getElem?; intro i; rw [bump_get]; simp
theorem bump_congr (xs : List Int) {cs ds : List Nat} (h : ∀ i, i ∈ cs ↔ i ∈ ds) : bump xs cs = bump xs ds := by
  apply List.ext_getElem?; intro i; rw [bump_get, bump_get]; simp [h]
theorem bump_set {xs : List Int} {cs : List Nat} {c : Nat} {x : Int} (hx : xs[c]? = some x) : (bump xs cs).set c (x + 2) = bump xs (c :: cs) := by
  apply List.ext_getElem?; intro i
  rw [List.getElem?_set, bump_get, bump_get, bump_length]
  by_cases h : c = i
  · subst h
    have : c < xs.length := (List.getElem?_eq_some_iff.mp hx).1
    simp [this, (List.getElem?_eq_some_iff.mp hx).2]
  · have : ¬ i = c := fun e => h e.symm
    simp [h, this]

theorem getD_of {B : Bx} {k : Nat} {fl : List Th} (h : B[k]? = some fl) : B.getD k [] = fl := by simp [List.getD, h]
theorem tgt_of {B : Bx} (w : WFB B) {i f : Nat} {fi : List Th} {v : Int} (h : B[i]? = some fi) (hf : fi[f]? = some (true, v)) : ∃ j : Nat, v = (j : Int) ∧ j < B.length :=
  w.tgt _ (List.mem_of_getElem? h) _ (List.mem_of_getElem? hf) rfl
end Mine
end

section
namespace Mine

noncomputable def kl (p : Nat → Bool) (n : Nat) : List Nat := (List.range n).filter p
theorem kl_succ (p : Nat → Bool) (n : Nat) : kl p (n + 1) = kl p n ++ if p n then [n] else [] := by
  simp [kl, List.range_succ, List.filter_append, List.filter_cons]
theorem kl_mem {p : Nat → Bool} {n x : Nat} : x ∈ kl p n ↔ x < n ∧ p x = true := by simp [kl]
theorem kl_sorted (p : Nat → Bool) (n : Nat) : (kl p n).Pairwise (· < ·) := List.Pairwise.filter _ List.pairwise_lt_range

end Mine
end

section
namespace Mine
noncomputable def rowN (N : Nat) (B : Bx) : List Int := rowOf (pl B) B ++ List.replicate (N - pl B B.length) 0
theorem rowN_length {N : Nat} {B : Bx} (h : pl B B.length ≤ N) : (rowN N B).length = N := by
  rw [rowN, List.length_append, rowOf_length, List.length_replicate]; first | lia | omega
theorem shp_N {N : Nat} {B : Bx} (h : pl B B.length ≤ N) (h4 : N ≤ 400) : Shp B (rowN N B) := shp_rowOf (by
  have := rowN_length h
  unfold rowN at this
  rw [this]; first | lia | omega)
noncomputable def plt (B : Bx) (t : Th) : Th := if t.1 = true then (true, (pl B t.2.toNat : Int)) else t
noncomputable def wordP (t : Th) : Int := if t.1 = true then 2 * t.2 + 1 else 2 * t.2
theorem word_plt (B : Bx) (t : Th) : wordP (plt B t) = word (pl B) t := by
  unfold wordP plt word
  by_cases h : t.1 = true
  · simp [h]
  · simp [h]
theorem plt_1 (B : Bx) (t : Th) : (plt B t).1 = t.1 := by
  unfold plt; split <;> simp_all
noncomputable def OkT (B : Bx) (t : Th) : Prop := t.1 = true → ∃ j : Nat, t.2 = (j : Int) ∧ j < B.length
theorem rowOf_congr {g g' : Nat → Nat} {B : Bx} (h : ∀ f ∈ B, ∀ t ∈ f, word g t = word g' t) : rowOf g B = rowOf g' B := by
  unfold rowOf
  congr 1
  apply List.map_congr_left
  intro f hf
  unfold cellsOf
  congr 1
  exact List.map_congr_left fun t ht => h f hf t ht
theorem pl_app (B : Bx) (f : List Th) {k : Nat} (h : k ≤ B.length) : pl (B ++ [f]) k = pl B k := by
  unfold pl
  rw [List.take_append_of_le_length h]
theorem pl_app_len (B : Bx) (f : List Th) : pl (B ++ [f]) (B ++ [f]).length = pl B B.length + 1 + f.length := by
  have : (B ++ [f])[B.length]? = some f := by simp
  rw [List.length_append, List.length_singleton, pl_succ this, pl_app B f (Nat.le_refl _)]
theorem word_app {B : Bx} {f : List Th} {t : Th} (h : OkT B t) : word (pl (B ++ [f])) t = word (pl B) t := by
  unfold word
  by_cases q : t.1 = true
  · obtain ⟨j, e, hj⟩ := h q
    rw [if_pos q, if_pos q, e, Int.toNat_natCast, pl_app B f (by first | lia | omega)]
  · rw [if_neg q, if_neg q]
theorem wfb_app {B : Bx} {f : List Th} (w : WFB B) (h : ∀ t ∈ f, OkT B t) : WFB (B ++ [f]) := by
  refine ⟨by simp, fun g hg t ht e => ?_⟩
  rw [List.length_append, List.length_singleton]
  rcases List.mem_append.mp hg with q | q
  · obtain ⟨j, a, b⟩ := w.tgt g q t ht e
    exact ⟨j, a, by first | lia | omega⟩
  · rw [List.mem_singleton] at q; subst q
    obtain ⟨j, a, b⟩ := h t ht e
    exact ⟨j, a, by first | lia | omega⟩
theorem rowN_app {N : Nat} {B : Bx} {f : List Th} (w : WFB B) (hle : pl B B.length + 1 + f.length ≤ N) (h : ∀ t ∈ f, OkT B t) :
    (rowN N B).take (pl B B.length) ++ ((4 * (f.length : Int)) :: f.map (word (pl B))) ++ (rowN N B).drop (pl B B.length + 1 + f.length) = rowN N (B ++ [f]) := by
  have hr : (rowOf (pl B) B).length = pl B B.length := rowOf_length _ _
  have h1 : rowOf (pl (B ++ [f])) (B ++ [f]) = rowOf (pl B) B ++ ((4 * (f.length : Int)) :: f.map (word (pl B))) := by
    rw [rowOf_append, rowOf_congr (g' := pl B) (B := B) fun g hg t ht => word_app (w.tgt g hg t ht), rowOf_congr (g' := pl B) (B := [f]) fun g hg t ht => by
      rw [List.mem_singleton] at hg; subst hg; exact word_app (h t ht)]
    simp [rowOf, cellsOf]
  rw [rowN, rowN, pl_app_len, h1, List.take_append_of_le_length (by rw [hr]; exact Nat.le_refl _), List.take_of_length_le (by rw [hr]; exact Nat.le_refl _), List.drop_append, hr, List.drop_of_length_le (by rw [hr]; first | lia | omega), List.nil_append, List.drop_replicate]
  congr 2
  first | lia | omega
theorem pl_set {B : Bx} {k : Nat} {g f : List Th} (h : B[k]? = some f) (hl : g.length = f.length) (i : Nat) : pl (B.set k g) i = pl B i := by
  unfold pl
  rw [List.take_set, List.map_set, show 1 + g.length = 1 + f.length by rw [hl]]
  congr 1
  apply List.ext_getElem?
  intro m
  rw [List.getElem?_set]
  by_cases q : k = m
  · subst q
    simp only [if_pos, List.length_map, List.length_take, List.getElem?_map]
    by_cases q2 : k < min i B.length
    · rw [if_pos q2, List.getElem?_take_of_lt (by first | lia | omega), h]; rfl
    · rw [if_neg q2]
      have : (B.take i)[k]? = none := by rw [List.getElem?_eq_none_iff, List.length_take]; first | lia | omega
      rw [this]; rfl
  · rw [if_neg q]
theorem pl_set_len {B : Bx} {k : Nat} {g f : List Th} (h : B[k]? = some f) (hl : g.length = f.length) : pl (B.set k g) (B.set k g).length = pl B B.length := by
  rw [pl_set h hl, List.length_set]
theorem wfb_set {B : Bx} {k j : Nat} {f : List Th} {t : Th} (w : WFB B) (hk : B[k]? = some f) (h : OkT B t) : WFB (B.set k (f.set j t)) := by
  refine ⟨by rw [List.length_set]; exact w.pos, fun g hg u hu e => ?_⟩
  rw [List.length_set]
  rcases List.mem_or_eq_of_mem_set hg with q | q
  · exact w.tgt g q u hu e
  · subst q
    rcases List.mem_or_eq_of_mem_set hu with q | q
    · exact w.tgt f (List.mem_of_getElem? hk) u q e
    · subst q; exact h e
theorem rowOf_set (g : Nat → Nat) (t : Th) : ∀ {B : Bx} {k j : Nat} {f : List Th}, B[k]? = some f → j < f.length → rowOf g (B.set k (f.set j t)) = (rowOf g B).set (pl B k + 1 + j) (word g t)
  | [], _, _, _, h, _ => by simp at h
  | e :: B, 0, j, f, h, hj => by
    simp at h; subst h
    rw [List.set_cons_zero, rowOf_cons, rowOf_cons, pl_zero, show 0 + 1 + j = j + 1 from by first | lia | omega, List.set_append_left _ _ (by rw [cellsOf_length]; first | lia | omega)]
    congr 1
    simp [cellsOf, List.map_set]
  | e :: B, k + 1, j, f, h, hj => by
    simp at h
    rw [List.set_cons_succ, rowOf_cons, rowOf_cons, pl_cons, rowOf_set g t h hj, List.set_append_right _ _ (by rw [cellsOf_length]; first | lia | omega), cellsOf_length]
    congr 2
    first | lia | omega
theorem rowN_set {N : Nat} {B : Bx} {k j : Nat} {f : List Th} {t : Th} (hk : B[k]? = some f) (hj : j < f.length) : (rowN N B).set (pl B k + 1 + j) (word (pl B) t) = rowN N (B.set k (f.set j t)) := by
  have hp : pl (B.set k (f.set j t)) = pl B := by funext i; exact pl_set hk (by simp) i
  have h1 := pl_succ hk
  have h2 := pl_mono (B := B) (show k + 1 ≤ B.length from (List.getElem?_eq_some_iff.mp hk).1)
  rw [rowN, rowN, hp, rowOf_set _ _ hk hj, List.length_set, List.set_append_left _ _ (by rw [rowOf_length]; first | lia | omega)]
theorem pl_room (d : Nat) : pl [List.replicate d (false, 0)] 1 = d + 1 := by simp [pl]; first | lia | omega
theorem wfb_room (d : Nat) : WFB [List.replicate d (false, 0)] := by
  refine ⟨by simp, fun f hf t ht e => ?_⟩
  rw [List.mem_singleton] at hf; subst hf
  have := List.eq_of_mem_replicate ht
  subst this; cases e
theorem rowN_room {N d : Nat} (h : d + 1 ≤ N) : (4 * (d : Int)) :: List.replicate (N - 1) 0 = rowN N [List.replicate d (false, 0)] := by
  rw [rowN, List.length_singleton, pl_room]
  simp only [rowOf, List.map_cons, List.map_nil, List.flatten_cons, List.flatten_nil, List.append_nil, cellsOf, List.length_replicate, List.map_replicate, List.cons_append]
  rw [show word (pl [List.replicate d (false, 0)]) (false, 0) = 0 from by simp [word], List.replicate_append_replicate]
  congr 2
  first | lia | omega
end Mine
end

namespace Mine
open PySem PyProof.Rows
structure Ext (cx : Cx) (H H' : HP) : Prop where
  le : LE H H'
  z : ∀ a l, cx.Z a = some l → H a = none → H' a = none
section
variable {cx : Cx} {H H' H'' : HP} {n : Nat} {a r : Addr} {o : O} {Q : V → HP → Prop}
theorem Ext.refl (cx : Cx) (H : HP) : Ext cx H H := ⟨LE.refl H, fun _ _ _ h => h⟩
theorem Ext.trans (x : Ext cx H H') (y : Ext cx H' H'') : Ext cx H H'' := ⟨x.le.trans y.le, fun a l h1 h2 => y.z a l h1 (x.z a l h1 h2)⟩
theorem Ext.lk (x : Ext cx H H') (h : lk cx H a = some o) : Mine.lk cx H' a = some o := by
  unfold Mine.lk at h ⊢
  cases e : H a with
  | some o' => rw [e] at h; rw [x.le a o' e]; exact h
  | none =>
    rw [e] at h
    cases e2 : cx.Z a with
    | none => rw [e2] at h; cases h
    | some l => rw [e2] at h; rw [x.z a l e2 e]; exact h
theorem Ext.upd (x : Ext cx H H') (h1 : H r = none) (h2 : cx.Z r = none) (o : O) : Ext cx H (upd H' r o) := by
  refine ⟨fun b o' e => ?_, fun b l e1 e2 => ?_⟩
  · have : b ≠ r := fun q => by subst q; rw [h1] at e; cases e
    rw [upd_ne _ this]; exact x.le b o' e
  · have : b ≠ r := fun q => by subst q; rw [h2] at e1; cases e1
    rw [upd_ne _ this]; exact x.z b l e1 e2
theorem Ext.new (hr : Fresh cx H r) (o : O) : Ext cx H (Mine.upd H r o) := (Ext.refl cx H).upd hr.1 hr.2.2 o
theorem Ext.new' (x : Ext cx H H') (hr : Fresh cx H' r) (o : O) : Ext cx H (Mine.upd H' r o) := x.trans (Ext.new hr o)
theorem Ext.fresh (x : Ext cx H H') (hr : Fresh cx H' r) : Fresh cx H r := by
  refine ⟨?_, hr.2⟩
  cases e : H r with
  | none => rfl
  | some o => have := x.le r o e; rw [hr.1] at this; cases this

noncomputable def All2 {α β : Type} (R : α → β → Prop) (xs : List α) (ys : List β) : Prop := xs.length = ys.length ∧ ∀ (i : Nat) (x : α) (y : β), xs[i]? = some x → ys[i]? = some y → R x y
theorem All2.nil {α β : Type} {R : α → β → Prop} : All2 R [] [] := ⟨rfl, fun i x y h => by simp at h⟩
theorem All2.snoc {α β : Type} {R : α → β → Prop} {xs : List α} {ys : List β} (h : All2 R xs ys) {x : α} {y : β} (hr : R x y) : All2 R (xs ++ [x]) (ys ++ [y]) := by
  refine ⟨by simp [h.1], fun i u v hu hv => ?_⟩
  by_cases q : i < xs.length
  · rw [List.getElem?_append_left q] at hu
    rw [List.getElem?_append_left (by rw [← h.1]; exact q)] at hv
    exact h.2 i u v hu hv
  · rw [List.getElem?_append_right (by omega)] at hu
    rw [List.getElem?_append_right (by rw [← h.1]; omega), ← h.1] at hv
    cases e : i - xs.length with
    | zero => rw [e] at hu hv; simp at hu hv; subst hu; subst hv; exact hr
    | succ m => rw [e] at hu; simp at hu
theorem All2.imp {α β : Type} {R S : α → β → Prop} {xs : List α} {ys : List β} (h : All2 R xs ys) (f : ∀ x y, R x y → S x y) : All2 S xs ys := ⟨h.1, fun i x y a b => f x y (h.2 i x y a b)⟩
theorem All2.get {α β : Type} {R : α → β → Prop} {xs : List α} {ys : List β} (h : All2 R xs ys) {i : Nat} {x : α} (hx : xs[i]? = some x) : ∃ y, ys[i]? = some y ∧ R x y := by
  have hl := (List.getElem?_eq_some_iff.mp hx).1
  have hl' : i < ys.length := by rw [← h.1]; exact hl
  have hy : ys[i]? = some ys[i] := List.getElem?_eq_getElem hl'
  exact ⟨_, hy, h.2 i x _ hx hy⟩
theorem All2.get' {α β : Type} {R : α → β → Prop} {xs : List α} {ys : List β} (h : All2 R xs ys) {i : Nat} {y : β} (hy : ys[i]? = some y) : ∃ x, xs[i]? = some x ∧ R x y := by
  have hl := (List.getElem?_eq_some_iff.mp hy).1
  have hl' : i < xs.length := by rw [h.1]; exact hl
  have hx : xs[i]? = some xs[i] := List.getElem?_eq_getElem hl'
  exact ⟨_, hx, h.2 i _ y hx hy⟩

noncomputable def natsV (l : List Nat) : List V := intsV (l.map fun k : Nat => (k : Int))
theorem natsV_length (l : List Nat) : (natsV l).length = l.length := by simp [natsV, intsV]
theorem natsV_get? (l : List Nat) (i : Nat) : (natsV l)[i]? = l[i]?.map fun k : Nat => V.int (k : Int) := by simp [natsV, intsV]; rfl
theorem natsV_snoc (l : List Nat) (k : Nat) : natsV l ++ [.int (k : Int)] = natsV (l ++ [k]) := by simp [natsV, intsV]

noncomputable def thV (t : Th) : List V := [.str (Str.ofString (if t.1 = true then "box" else "number")), .int t.2]
noncomputable def ThAt (cx : Cx) (H : HP) (v : V) (t : Th) : Prop := ∃ b, v = .ref b ∧ lk cx H b = some (.tup (thV t))
theorem ThAt.ext (x : Ext cx H H') {v : V} {t : Th} : ThAt cx H v t → ThAt cx H' v t := fun ⟨b, h1, h2⟩ => ⟨b, h1, x.lk h2⟩
end
theorem len_le_pl (B : Bx) : ∀ {k}, k ≤ B.length → k ≤ pl B k
  | 0, _ => Nat.zero_le _
  | k + 1, h => by
    have := len_le_pl B (show k ≤ B.length by first | lia | omega)
    have := pl_lt (B := B) (i := k) (j := k + 1) (by first | lia | omega) (by first | lia | omega)
    first | lia | omega
theorem fld_le_pl {B : Bx} {k : Nat} {f : List Th} (h : B[k]? = some f) : f.length < pl B B.length := by
  have hk := (List.getElem?_eq_some_iff.mp h).1
  have h1 := pl_succ h
  have := pl_mono (B := B) (show k + 1 ≤ B.length from hk)
  first | lia | omega


section
variable {cx : Cx} {H H' : HP} {n : Nat} {a r : Addr} {o : O} {Q : V → HP → Prop}

theorem mulOk_l {a b : Int} (h : Builtin.Int.intBits a ≤ 64) : IntMulOk a b := by
  unfold IntMulOk
  have : decide (Builtin.Int.intBits a > shortFactorBits) = false := decide_eq_false (by unfold shortFactorBits; omega)
  rw [this]; simp
theorem ints_length (xs : List Int) : (intsV xs).length = xs.length := by simp [intsV]
theorem ints_get? (xs : List Int) (i : Nat) : (intsV xs)[i]? = xs[i]?.map V.int := by simp [intsV]
theorem ints_set (xs : List Int) (i : Nat) (v : Int) : (intsV xs).set i (.int v) = intsV (xs.set i v) := by simp [intsV, List.map_set]
theorem cutLo_nn {m : Nat} {i : Int} (h : 0 ≤ i) : cutLo m (.int i) = some (min i.toNat m) := if_pos h
theorem cutHi_nn {m : Nat} {i : Int} (h : 0 ≤ i) : cutHi m (.int i) = some (min i.toNat m) := if_pos h
theorem cut_length_le (vs : List V) (l h : Nat) : (cut vs l h).length ≤ vs.length := by simp [cut]; first | lia | omega
theorem cut_ints (xs : List Int) (l h : Nat) : cut (intsV xs) l h = intsV ((xs.take h).drop l) := by simp [cut, intsV]
theorem ints_append (xs ys : List Int) : intsV xs ++ intsV ys = intsV (xs ++ ys) := by simp [intsV]
theorem fmod_pos_bounds (a : Int) {b : Int} (hb : 0 < b) : 0 ≤ a.fmod b ∧ a.fmod b < b := ⟨Int.fmod_nonneg_of_pos a hb, Int.fmod_lt_of_pos a hb⟩
theorem fdiv2 (a : Int) : a.fdiv 2 = a / 2 := Int.fdiv_eq_ediv_of_nonneg _ (by decide)
theorem fdiv4 (a : Int) : a.fdiv 4 = a / 4 := Int.fdiv_eq_ediv_of_nonneg _ (by decide)
theorem fmod2 (a : Int) : a.fmod 2 = a % 2 := Int.fmod_eq_emod_of_nonneg _ (by decide)
theorem rangeL_len (x y : Int) : (intsV (rangeL x y)).length = (y - x).toNat := by simp [intsV, rangeL]

end
end Mine
local macro_rules | `(tactic| walk_at "st") => `(tactic| (try dsimp only [Mine.e_cint, Mine.e_cbool, Mine.e_cnone, Mine.e_cstr, Mine.e_loc, Mine.e_bin, Mine.e_not, Mine.e_cmp, Mine.e_bop, Mine.e_callf, Mine.e_callb, Mine.e_isi, Mine.e_app, Mine.e_sub, Mine.e_slice, Mine.e_list, Mine.e_tup, Mine.e_comp, Mine.e_compR, Mine.e_neg, Mine.e_cmp2, Mine.e_gint, Mine.e_attr, Mine.e_callm, Mine.e_mk, Mine.e_isx, Mine.e_callq, Mine.es_nil, Mine.es_cons, Mine.b_one, Mine.b_and, Mine.b_or, Mine.s_assign, Mine.s_setSub, Mine.s_expr, Mine.s_ite, Mine.s_for, Mine.s_forR, Mine.s_ret, Mine.s_setAttr, Mine.s_raiseS, Mine.s_xdo, Mine.s_try, Mine.getL, Mine.setL, Mine.l_n, Mine.l_b, Mine.l_i, Mine.l_s, Mine.l_r, Mine.o_b, Mine.o_i, Mine.o_r, Mine.o_s, Mine.if_t, Mine.if_f, Mine.bin_add, Mine.bin_sub, Mine.bin_mul, Mine.bin_div, Mine.bin_mod, Mine.bin_pow, Mine.bin_str, Mine.cm_lt, Mine.cm_le, Mine.cm_gt, Mine.cm_eq, Mine.cm_ne, Mine.cm_isn, Mine.cm_isnn, Mine.rn_i, Mine.cb_int, Mine.cb_abs, Mine.cb_max, Mine.x_fn, Mine.x_mt, Mine.x_mk, Mine.p_fn, Mine.p_mt, Mine.p_mk, Mine.s_so, Mine.s_no, Mine.ox_e, Mine.ox_n, Mine.ox_r, Mine.ox_i, Mine.ox_b, Mine.ox_s, Mine.is_nn, Mine.is_in, Mine.is_rn, Mine.is_ib, Mine.is_bb, List.cons_append, List.nil_append, Mine.n_t, Mine.n_f]))
namespace Mine
open PySem PyProof.Rows
section
variable {cx : Cx} {H H' : HP} {n : Nat} {a r : Addr} {o : O} {Q : V → HP → Prop}
noncomputable def m_number_word : MSs :=
  (.cons (.ret (.bin .Mult (.cint (2)) (.loc 0)))
  .nil)
noncomputable def m_link_word : MSs :=
  (.cons (.ret (.bin .Add (.bin .Mult (.cint (2)) (.loc 0)) (.cint (1))))
  .nil)
noncomputable def m_head_word : MSs :=
  (.cons (.ite (.loc 1) (.cons (.ret (.bin .Add (.bin .Mult (.cint (4)) (.loc 0)) (.cint (2))))
    .nil) .nil)
  (.cons (.ret (.bin .Mult (.cint (4)) (.loc 0)))
  .nil))
noncomputable def m_is_link : MSs :=
  (.cons (.ret (.cmp (.bin .Mod (.loc 0) (.cint (2))) .Eq (.cint (1))))
  .nil)
noncomputable def m_told_by : MSs :=
  (.cons (.ret (.bin .FloorDiv (.loc 0) (.cint (2))))
  .nil)
noncomputable def m_fields_of : MSs :=
  (.cons (.ret (.bin .FloorDiv (.loc 0) (.cint (4))))
  .nil)
noncomputable def m_heads : MSs :=
  (.cons (.assign 2 (.list .nil))
  (.cons (.assign 3 (.cint (0)))
  (.cons (.while_ (.cmp (.loc 3) .Lt (.loc 1)) (.cons (.expr (.app (.loc 2) (.loc 3)))
    (.cons (.assign 3 (.bin .Add (.bin .Add (.loc 3) (.cint (1))) (.callf 136 (.cons (.sub (.loc 0) (.loc 3)) .nil))))
    .nil)))
  (.cons (.ret (.loc 2))
  .nil))))
noncomputable def m_law_at : MSs :=
  (.cons (.ret (.sub (.bin .Add (.slice (.loc 0) (.loc 1) (.bin .Add (.loc 1) (.cint (1)))) (.list (.cons (.cint (0)) .nil))) (.cint (0))))
  .nil)
noncomputable def m_law_is_int : MSs :=
  (.cons (.ret (.bop .And (.cons (.isi (.loc 0) "int") (.cons (.cmp (.loc 0) .IsNot (.cbool true)) (.cons (.cmp (.loc 0) .IsNot (.cbool false)) .nil)))))
  .nil)
noncomputable def m_law_words_are : MSs :=
  (.cons (.ite (.bop .Or (.cons (.not (.isi (.loc 0) "list")) (.cons (.cmp (.callb .len (.cons (.loc 0) .nil)) .NotEq (.callb .len (.cons (.loc 1) .nil))) .nil))) (.cons (.ret (.cbool false))
    .nil) .nil)
  (.cons (.ret (.cmp (.callb .len (.cons (.compR (.loc 2) (.cint (0)) (.callb .len (.cons (.loc 1) .nil)) (.bop .Or (.cons (.not (.callf 267 (.cons (.sub (.loc 0) (.loc 2)) .nil))) (.cons (.cmp (.sub (.loc 0) (.loc 2)) .NotEq (.sub (.loc 1) (.loc 2))) .nil)))) .nil)) .Eq (.cint (0))))
  .nil))
theorem numw_ms {p : Int} (h : Q (.int (2 * p)) H) : mwpSs cx n m_number_word [.int p] H (NQ Q) (RQ Q) := by
  refine S_cons ?_
  walk_at "st"
  exact ⟨mulOk_l (by decide), RQ.here h⟩
theorem linkw_ms {p : Int} (h : Q (.int (2 * p + 1)) H) : mwpSs cx n m_link_word [.int p] H (NQ Q) (RQ Q) := by
  refine S_cons ?_
  walk_at "st"
  exact ⟨mulOk_l (by decide), RQ.here h⟩
theorem headw_ms {p : Int} (h : Q (.int (4 * p)) H) : mwpSs cx n m_head_word [.int p, .bool false] H (NQ Q) (RQ Q) := by
  refine S_cons ?_
  walk_at "st"
  refine S_nil (S_cons ?_)
  walk_at "st"
  exact ⟨mulOk_l (by decide), RQ.here h⟩
theorem islink_ms {w : Int} (h : Q (.bool (w.fmod 2 == 1)) H) : mwpSs cx n m_is_link [.int w] H (NQ Q) (RQ Q) := by
  refine S_cons ?_
  walk_at "st"
  rw [eqv_int]
  exact ⟨by decide, RQ.here h⟩
theorem told_ms {w : Int} (h : Q (.int (w.fdiv 2)) H) : mwpSs cx n m_told_by [.int w] H (NQ Q) (RQ Q) := by
  refine S_cons ?_
  walk_at "st"
  exact ⟨by decide, RQ.here h⟩
theorem fields_ms {w : Int} (h : Q (.int (w.fdiv 4)) H) : mwpSs cx n m_fields_of [.int w] H (NQ Q) (RQ Q) := by
  refine S_cons ?_
  walk_at "st"
  exact ⟨by decide, RQ.here h⟩
noncomputable def Fn1 (cx : Cx) (n : Nat) (f : Addr) (g : Int → V) : Prop := ∀ (w : Int) (H : HP) (Q : V → HP → Prop), Q (g w) H → CallP cx n f [.int w] H Q
noncomputable def HeadSp (cx : Cx) (n : Nat) : Prop := ∀ (p : Int) (H : HP) (Q : V → HP → Prop), Q (.int (4 * p)) H → CallP cx n 115 [.int p, .bool false] H Q

theorem heads_ms {row : Addr} {xs : List Int} {B : Bx} (h2 : Fn1 cx n 136 fun w => .int (w.fdiv 4))
    (hrow : lk cx H row = some (.list (intsV xs))) (s : Shp B xs) (hB : pl B B.length ≤ 1000)
    (hQ : ∀ r H', Ext cx H H' → Fresh cx H r → H' r = some (.list (natsV ((List.range B.length).map (pl B)))) → Q (.ref r) H') :
    mwpSs cx n m_heads [.ref row, .int (pl B B.length), .unb, .unb] H (NQ Q) (RQ Q) := by
  refine S_cons ?_
  walk_at "st"
  refine ⟨by simp, fun r hr => S_cons ?_⟩
  walk_at "st"
  refine S_cons ?_
  rw [s_while]
  refine ⟨fun m μ H' => ∃ k, k + m = B.length ∧ μ = [.ref row, .int (pl B B.length), .ref r, .int (pl B k)] ∧ Ext cx H H' ∧ H' r = some (.list (natsV ((List.range k).map (pl B)))), ⟨B.length, 0, by first | lia | omega, by rw [pl_zero]; rfl, Ext.new hr _, upd_same _ _ _⟩, ?_⟩
  rintro m μ H' ⟨k, hm, rfl, hE, hr'⟩
  walk_at "st"
  have hkl := len_le_pl B (Nat.le_refl B.length)
  have hl := s.len
  refine ifB_of (fun q => S_cons ?_) fun q => S_cons ?_
  · rw [decide_eq_true_iff] at q
    have hkB : k < B.length := by
      rcases Nat.lt_or_ge k B.length with h | h
      · exact h
      · have : k = B.length := by first | lia | omega
        subst this; first | lia | omega
    have hk : B[k]? = some B[k] := List.getElem?_eq_getElem hkB
    walk_at "st"
    refine ⟨W_la hr', W_app hr' (by rw [natsV_length, List.length_map, List.length_range]; first | lia | omega) (S_cons ?_)⟩
    have hE2 := hE.upd hr.1 hr.2.2 (.list (natsV ((List.range k).map (pl B)) ++ [.int (pl B k)]))
    walk_at "st"
    refine W_sub (sq_l (hE2.lk hrow)) (by first | lia | omega) (by rw [ints_length]; first | lia | omega) (by rw [ints_get?, Int.toNat_natCast, s.hd hk]; rfl) (h2 _ _ _ ?_)
    walk_at "st"
    refine S_nil ⟨_, LE.refl _, m - 1, by first | lia | omega, k + 1, by first | lia | omega, ?_, hE2, ?_⟩
    · rw [pl_succ hk, fdiv4, show ((pl B k : Int) + 1 + 4 * (B[k].length : Int) / 4) = ((pl B k + 1 + B[k].length : Nat) : Int) from by first | lia | omega]
    · rw [upd_same, natsV_snoc, List.range_succ, List.map_append]; rfl
  · rw [decide_eq_false_iff_not] at q
    have hkB : k = B.length := by
      rcases Nat.lt_or_ge k B.length with h | h
      · have := pl_lt (B := B) (i := k) (j := B.length) h h
        first | lia | omega
      · exact Nat.le_antisymm (by first | lia | omega) h
    subst hkB
    walk_at "st"
    exact RQ.here (hQ r H' hE hr hr')
noncomputable def HeadsSpec (cx : Cx) (n : Nat) : Prop := ∀ (row : Addr) (xs : List Int) (B : Bx) (H : HP) (Q : V → HP → Prop), lk cx H row = some (.list (intsV xs)) → Shp B xs → pl B B.length ≤ 1000 →
  (∀ r H', Ext cx H H' → Fresh cx H r → H' r = some (.list (natsV ((List.range B.length).map (pl B)))) → Q (.ref r) H') → CallP cx n 143 [.ref row, .int (pl B B.length)] H Q

theorem at_ms {sa : Addr} {ns : List Int} {p : Int} (hs : lk cx H sa = some (.list (intsV ns))) (hlen : ns.length ≤ 1000) (hp : 0 ≤ p)
    (hQ : ∀ v, Q (.int v) H) : mwpSs cx n m_law_at [.ref sa, .int p] H (NQ Q) (RQ Q) := by
  refine S_cons ?_
  walk_at "st"
  have hcl := cut_length_le (intsV ns) (min p.toNat ns.length) (min (p + 1).toNat ns.length)
  rw [ints_length] at hcl
  refine W_slice hs (by rw [ints_length]; exact cutLo_nn hp) (by rw [ints_length]; exact cutHi_nn (by first | lia | omega)) (by rw [ints_length]; first | lia | omega) fun r hr => ⟨by simp, fun r2 hr2 => ?_⟩
  have hne : r ≠ r2 := hr2.ne lk_same
  refine W_cat (lst_l (lk_fresh hr2 lk_same)) (lst_l lk_same) (by simp; first | lia | omega) fun r3 hr3 => ?_
  have key : ∃ v, (cut (intsV ns) (min p.toNat ns.length) (min (p + 1).toNat ns.length) ++ [V.int 0])[(0 : Int).toNat]? = some (.int v) := by
    rw [cut_ints, show [V.int 0] = intsV [0] from rfl, ints_append]
    generalize ((ns.take (min (p + 1).toNat ns.length)).drop (min p.toNat ns.length)) = l
    cases l with
    | nil => exact ⟨0, rfl⟩
    | cons v l => exact ⟨v, rfl⟩
  obtain ⟨v, e⟩ := key
  exact W_sub (sq_l lk_same) (by decide) (by simp; first | lia | omega) e ⟨H, (LE.fresh hr.1 _).trans ((LE.fresh hr2.1 _).trans (LE.fresh hr3.1 _)), hQ v⟩
noncomputable def AtSpec (cx : Cx) (n : Nat) (sa : Addr) (ns : List Int) : Prop := ∀ (p : Int) (H : HP) (Q : V → HP → Prop), lk cx H sa = some (.list (intsV ns)) → 0 ≤ p → (∀ v, Q (.int v) H) → CallP cx n 260 [.ref sa, .int p] H Q
theorem isint_ms {v : Int} (h : Q (.bool true) H) : mwpSs cx n m_law_is_int [.int v] H (NQ Q) (RQ Q) := by
  refine S_cons ?_
  walk_at "st"
  exact RQ.here h
noncomputable def IntSp (cx : Cx) (n : Nat) : Prop := ∀ (v : Int) (H : HP) (Q : V → HP → Prop), Q (.bool true) H → CallP cx n 267 [.int v] H Q
end
end Mine

section
namespace Mine
open PySem PyProof.Rows
section
variable {cx : Cx} {H H' : HP} {n : Nat} {a b r : Addr} {o : O} {Q : V → HP → Prop} {v u w : V} {vs : List V}
theorem ifB_t' {b : Bool} {P P' : Prop} (h : b = true) (p : P) : ifB b P P' := by subst h; exact p
theorem ifB_f' {b : Bool} {P P' : Prop} (h : b = false) (p : P') : ifB b P P' := by subst h; exact p
noncomputable def Kn (H : HP) (v : V) : Prop := match v with
  | .none => True
  | .bool _ => True
  | .int _ => True
  | .str _ => True
  | .ref a => (∃ vs, H a = some (.list vs)) ∨ ∃ vs, H a = some (.tup vs)
  | _ => False
noncomputable def isI (v : V) : Bool := match v with
  | .int _ => true
  | _ => false
theorem Kn.ext (x : LE H H') (h : Kn H v) : Kn H' v := by
  cases v with
  | ref a => exact h.imp (fun ⟨vs, q⟩ => ⟨vs, x _ _ q⟩) fun ⟨vs, q⟩ => ⟨vs, x _ _ q⟩
  | _ => exact h
theorem lk_tup (h : lk cx H a = some (.tup vs)) : H a = some (.tup vs) := by
  unfold lk at h
  split at h
  · rename_i e; rw [e]; exact h
  · cases e : cx.Z a <;> rw [e] at h <;> cases h
theorem isi_tt (h : H a = some (.tup vs)) : isiP cx H (.ref a) "tuple" = some true := by unfold isiP; simp only [h]; rfl
theorem isi_ti (h : H a = some (.tup vs)) : isiP cx H (.ref a) "int" = some false := by unfold isiP; simp only [h]; rfl
theorem isi_ll (h : H a = some (.list vs)) : isiP cx H (.ref a) "list" = some true := by unfold isiP; simp only [h]; rfl
theorem isi_li (h : H a = some (.list vs)) : isiP cx H (.ref a) "int" = some false := by unfold isiP; simp only [h]; rfl
theorem isi_lt (h : H a = some (.list vs)) : isiP cx H (.ref a) "tuple" = some false := by unfold isiP; simp only [h]; rfl
theorem eqv_str (x y : Str) : PyData.eqv (.str x) (.str y) = (x == y) := by unfold PyData.eqv; rfl
theorem rd_str {x : Str} (h : PyData.strOk x = true) (m : Nat) : rdV cx H (m + 1) (.str x) = some (.str x) := by
  show rdS x = _
  unfold rdS; rw [if_pos h]
theorem rd_A {d : PyData} (h : rdA u = some d) (m : Nat) : rdV cx H (m + 1) u = some d := by
  cases u <;> first | exact h | cases h
theorem eqs' {d : PyData} {x : Str} (hu : rdV cx H 3 u = some d) (hx : PyData.strOk x = true) : eqP cx u (.str x) H = some (PyData.eqv d (.str x)) := by
  have g : eqG cx u (.str x) H = some (PyData.eqv d (.str x)) := by
    unfold eqG
    rw [hu, rd_str hx]; rfl
  cases u with
  | str y =>
    have hu : rdS y = some d := hu
    unfold rdS at hu
    split at hu
    · cases hu
      show some (y == x) = _
      rw [eqv_str]
    · cases hu
  | _ => exact g
theorem eqs {d : PyData} {x : Str} (hu : rdV cx H 3 u = some d) (hx : PyData.strOk x = true) : cmpP cx .Eq u (.str x) H = some (PyData.eqv d (.str x)) := eqs' hu hx
theorem nes {d : PyData} {x : Str} (hu : rdV cx H 3 u = some d) (hx : PyData.strOk x = true) : cmpP cx .NotEq u (.str x) H = some (!PyData.eqv d (.str x)) := by
  show (eqP cx u (.str x) H).map _ = _
  rw [eqs' hu hx]; rfl
theorem ok_number : PyData.strOk (Str.ofString "number") = true := by decide +kernel
theorem ok_box : PyData.strOk (Str.ofString "box") = true := by decide +kernel
noncomputable def ths (t : Th) : Str := Str.ofString (if t.1 = true then "box" else "number")
theorem thV_0 (t : Th) : (thV t)[Int.toNat 0]? = some (.str (ths t)) := rfl
theorem thV_1 (t : Th) : (thV t)[Int.toNat 1]? = some (.int t.2) := rfl
theorem W_t0 {t : Th} (hb : lk cx H b = some (.tup (thV t))) (q : Q (.str (ths t)) H) : subP cx (.ref b) (.int 0) H Q := W_sub (sq_t hb) (by decide) (show 2 ≤ 16777216 by decide) (thV_0 t) q
theorem W_t1 {t : Th} (hb : lk cx H b = some (.tup (thV t))) (q : Q (.int t.2) H) : subP cx (.ref b) (.int 1) H Q := W_sub (sq_t hb) (by decide) (show 2 ≤ 16777216 by decide) (thV_1 t) q
theorem ths_ok (t : Th) : PyData.strOk (ths t) = true := by
  obtain ⟨b, v⟩ := t
  cases b
  · exact ok_number
  · exact ok_box
theorem ths_b (t : Th) : (ths t == Str.ofString "box") = t.1 := by
  obtain ⟨b, v⟩ := t
  cases b <;> rfl
theorem ths_n (t : Th) : (ths t == Str.ofString "number") = !t.1 := by
  obtain ⟨b, v⟩ := t
  cases b <;> rfl
noncomputable def m_is_whole : MSs :=
  (.cons (.ret (.bop .And (.cons (.isi (.loc 0) "int") (.cons (.not (.isi (.loc 0) "bool")) .nil))))
  .nil)
noncomputable def m_need_things : MSs :=
  (.cons (.for_ 1 (.loc 0) (.cons (.ite (.bop .Or (.cons (.not (.isi (.loc 1) "tuple")) (.cons (.cmp (.callb .len (.cons (.loc 1) .nil)) .NotEq (.cint (2))) .nil))) (.cons (.raiseS 56 (.cstr (Str.ofString "a word and a number are wanted")))
      .nil) .nil)
    (.cons (.ite (.bop .Or (.cons (.bop .And (.cons (.cmp (.sub (.loc 1) (.cint (0))) .NotEq (.cstr (Str.ofString "number"))) (.cons (.cmp (.sub (.loc 1) (.cint (0))) .NotEq (.cstr (Str.ofString "box"))) .nil))) (.cons (.not (.callf 150 (.cons (.sub (.loc 1) (.cint (1))) .nil))) .nil))) (.cons (.raiseS 56 (.cstr (Str.ofString "a word and a number are wanted")))
      .nil) .nil)
    .nil)))
  .nil)
noncomputable def m_word_of : MSs :=
  (.cons (.ite (.cmp (.sub (.loc 0) (.cint (0))) .Eq (.cstr (Str.ofString "number"))) (.cons (.ret (.callf 101 (.cons (.sub (.loc 0) (.cint (1))) .nil)))
    .nil) .nil)
  (.cons (.ret (.callf 108 (.cons (.sub (.loc 0) (.cint (1))) .nil)))
  .nil))
theorem words_ms {fa da : Addr} {xs : List Int} (hi : IntSp cx n) (hf : H fa = some (.list (intsV xs))) (hd : lk cx H da = some (.list (intsV xs))) (hlen : xs.length ≤ 1000)
    (hQ : Q (.bool true) H) : mwpSs cx n m_law_words_are [.ref fa, .ref da] H (NQ Q) (RQ Q) := by
  have hf' : lk cx H fa = some (.list (intsV xs)) := lk_of hf
  have hl := ints_length xs
  refine S_cons ?_
  walk_at "st"
  refine onO_of (isi_ll hf) ?_
  walk_at "st"
  refine W_len (sq_l hf') (by first | lia | omega) ?_
  walk_at "st"
  refine W_len (sq_l hd) (by first | lia | omega) ?_
  walk_at "st"
  refine ifB_f' (by rw [eqv_int]; simp) (S_nil (S_cons ?_))
  walk_at "st"
  refine W_len (sq_l hd) (by first | lia | omega) ?_
  walk_at "st"
  refine ⟨by first | lia | omega, by first | lia | omega, by rw [rangeL_len]; first | lia | omega, fun _ acc H₁ => acc = [] ∧ H₁ = H, ⟨rfl, rfl⟩, fun _ _ _ _ => trivial, ?_, ?_⟩
  · rintro done x rest acc H₁ hitems ⟨rfl, rfl⟩
    obtain ⟨i, rfl, hi2⟩ : ∃ i : Nat, x = .int i ∧ i < xs.length := by
      have hx : (intsV (rangeL 0 (intsV xs).length))[done.length]? = some x := by rw [hitems]; simp
      obtain ⟨rfl, h⟩ := rangeL_get hx
      exact ⟨done.length, by simp, by first | lia | omega⟩
    have g : (intsV xs)[(i : Int).toNat]? = some (.int xs[i]) := by rw [ints_get?, Int.toNat_natCast, List.getElem?_eq_getElem hi2]; rfl
    walk_at "st"
    refine W_sub (sq_l hf') (by first | lia | omega) (by first | lia | omega) g (hi _ _ _ ?_)
    walk_at "st"
    refine W_sub (sq_l hf') (by first | lia | omega) (by first | lia | omega) g (W_sub (sq_l hd) (by first | lia | omega) (by first | lia | omega) g ?_)
    walk_at "st"
    exact ifB_f' (by rw [eqv_int]; simp) ⟨H₁, LE.refl _, by simp, rfl⟩
  · rintro acc H₁ ⟨rfl, rfl⟩ r hr
    walk_at "st"
    refine W_len (sq_l lk_same) (by simp) ?_
    walk_at "st"
    rw [eqv_int]
    exact ⟨H₁, LE.fresh hr.1 _, hQ⟩
noncomputable def WordsSpec (cx : Cx) (n : Nat) : Prop := ∀ (fa da : Addr) (xs : List Int) (H : HP) (Q : V → HP → Prop), H fa = some (.list (intsV xs)) → lk cx H da = some (.list (intsV xs)) → xs.length ≤ 1000 → Q (.bool true) H → CallP cx n 272 [.ref fa, .ref da] H Q

theorem whole_ms (hk : Kn H v) (h : Q (.bool (isI v)) H) : mwpSs cx n m_is_whole [v] H (NQ Q) (RQ Q) := by
  refine S_cons ?_
  cases v with
  | none =>
    walk_at "st"
    exact onO_of (show isiP cx H .none "int" = some false from rfl) (RQ.here h)
  | bool b =>
    walk_at "st"
    refine onO_of (show isiP cx H (.bool b) "int" = some true from rfl) ?_
    walk_at "st"
    exact onO_of (show isiP cx H (.bool b) "bool" = some true from rfl) (RQ.here h)
  | int i =>
    walk_at "st"
    refine onO_of (show isiP cx H (.int i) "int" = some true from rfl) ?_
    walk_at "st"
    exact onO_of (show isiP cx H (.int i) "bool" = some false from rfl) (RQ.here h)
  | str x =>
    walk_at "st"
    exact onO_of (show isiP cx H (.str x) "int" = some false from rfl) (RQ.here h)
  | ref a =>
    walk_at "st"
    rcases hk with ⟨vs, q⟩ | ⟨vs, q⟩
    · exact onO_of (isi_li q) (RQ.here h)
    · exact onO_of (isi_ti q) (RQ.here h)
  | _ => exact hk.elim
noncomputable def WholeSp (cx : Cx) (n : Nat) : Prop := ∀ (v : V) (H : HP) (Q : V → HP → Prop), Kn H v → Q (.bool (isI v)) H → CallP cx n 150 [v] H Q

theorem wordof_ms {t : Th} (h1 : Fn1 cx n 101 fun p => .int (2 * p)) (h2 : Fn1 cx n 108 fun p => .int (2 * p + 1)) (hb : lk cx H b = some (.tup (thV t))) (h : Q (.int (wordP t)) H) :
    mwpSs cx n m_word_of [.ref b] H (NQ Q) (RQ Q) := by
  refine S_cons ?_
  walk_at "st"
  refine W_t0 hb (onO_of (eqs (rd_str (ths_ok t) _) ok_number) ?_)
  rw [eqv_str, ths_n]
  unfold wordP at h
  refine ifB_of (fun q => S_cons ?_) fun q => S_nil (S_cons ?_)
  · walk_at "st"
    refine W_t1 hb (h1 _ _ _ (RQ.here ?_))
    rw [if_neg (by simpa using q)] at h
    exact h
  · walk_at "st"
    refine W_t1 hb (h2 _ _ _ (RQ.here ?_))
    rw [if_pos (by simpa using q)] at h
    exact h
noncomputable def WordOfSpec (cx : Cx) (n : Nat) : Prop := ∀ (b : Addr) (t : Th) (H : HP) (Q : V → HP → Prop), lk cx H b = some (.tup (thV t)) → Q (.int (wordP t)) H → CallP cx n 164 [.ref b] H Q

inductive BadT (cx : Cx) (H : HP) : V → Prop
  | none : BadT cx H .none
  | str (x : Str) : BadT cx H (.str x)
  | list (a : Addr) (vs : List V) : H a = some (.list vs) → BadT cx H (.ref a)
  | tup (a : Addr) (vs : List V) : H a = some (.tup vs) → vs.length ≤ 1000 → vs.length ≠ 2 → BadT cx H (.ref a)
  | two (a : Addr) (u w : V) (d : PyData) : H a = some (.tup [u, w]) → rdA u = some d → Kn H w → ((!PyData.eqv d (.str (Str.ofString "number")) && !PyData.eqv d (.str (Str.ofString "box"))) || !isI w) = true → BadT cx H (.ref a)
theorem BadT.ext (x : LE H H') (h : BadT cx H v) : BadT cx H' v := by
  cases h with
  | none => exact .none
  | str y => exact .str y
  | list a ws q => exact .list a ws (x _ _ q)
  | tup a ws q h1 h2 => exact .tup a ws (x _ _ q) h1 h2
  | two a u w d q hu hw hc => exact .two a u w d (x _ _ q) hu (hw.ext x) hc
theorem BadT.notTh {t : Th} (h : BadT cx H v) (q : ThAt cx H v t) : False := by
  obtain ⟨b, rfl, hb⟩ := q
  have hb := lk_tup hb
  cases h with
  | list a ws q => rw [hb] at q; cases q
  | tup a ws q h1 h2 => rw [hb] at q; cases q; exact h2 rfl
  | two a u w d q hu hw hc =>
    rw [hb] at q
    cases q
    cases hu' : (rdS (ths t)) with
    | none => rw [show rdA (.str (Str.ofString (if t.1 = true then "box" else "number"))) = rdS (ths t) from rfl, hu'] at hu; cases hu
    | some d' =>
      rw [show rdA (.str (Str.ofString (if t.1 = true then "box" else "number"))) = rdS (ths t) from rfl] at hu
      unfold rdS at hu
      rw [if_pos (ths_ok t)] at hu
      cases hu
      rw [eqv_str, eqv_str, ths_n, ths_b] at hc
      cases q : t.1 <;> simp [q, isI] at hc
theorem needT_ms {la : Addr} (hw : WholeSp cx n) (hl : lk cx H la = some (.list vs)) (hle : vs.length ≤ 1000) (hts : ∀ v ∈ vs, (∃ t, ThAt cx H v t) ∨ BadT cx H v)
    (h1 : (∀ v ∈ vs, ∃ t, ThAt cx H v t) → Q .none H) (h2 : (∃ v ∈ vs, BadT cx H v) → Q (.exc 56) H) : mwpSs cx n m_need_things [.ref la, .unb] H (NQ Q) (RQ Q) := by
  refine S_cons ?_
  walk_at "st"
  refine W_iter hl (by first | lia | omega) ⟨fun done μ H' => (∃ z, μ = [.ref la, z]) ∧ H' = H ∧ ∀ v ∈ done, ∃ t, ThAt cx H v t, ⟨⟨_, rfl⟩, rfl, fun _ q => nomatch q⟩, ?_, ?_, ?_⟩
  · rintro _ _ _ ⟨_, rfl, _⟩; exact hl
  · rintro done x rest μ H' e ⟨⟨z, rfl⟩, rfl, hd⟩
    have hx : x ∈ vs := by rw [e]; simp
    have bad : BadT cx H' x → RQ Q (.exc 56) H' := fun q => RQ.here (h2 ⟨x, hx, q⟩)
    rcases hts x hx with ⟨t, ht⟩ | hb
    · have ht0 := ht
      obtain ⟨b, rfl, hb⟩ := ht
      refine S_cons ?_
      walk_at "st"
      refine onO_of (isi_tt (lk_tup hb)) ?_
      walk_at "st"
      refine W_len (sq_t hb) (show 2 ≤ 16777216 by decide) ?_
      walk_at "st"
      refine ifB_f' (by rw [eqv_int]; rfl) (S_nil (S_cons ?_))
      walk_at "st"
      have fin : mwpSs cx n .nil [.ref la, .ref b] H' (fun μ' H'' => ∃ H₃, LE H₃ H'' ∧ (∃ z, μ' = [.ref la, z]) ∧ H₃ = H' ∧ ∀ v ∈ done ++ [V.ref b], ∃ t, ThAt cx H' v t) (RQ Q) :=
        S_nil ⟨H', LE.refl _, ⟨_, rfl⟩, rfl, fun v hv => (List.mem_append.mp hv).elim (hd v) fun q => by rw [List.mem_singleton.mp q]; exact ⟨t, ht0⟩⟩
      refine W_t0 hb (onO_of (nes (rd_str (ths_ok t) _) ok_number) ?_)
      rw [eqv_str, ths_n]
      cases e1 : t.1 with
      | false =>
        walk_at "st"
        refine W_t1 hb (hw _ _ _ trivial ?_)
        dsimp only [isI]
        walk_at "st"
        exact S_nil fin
      | true =>
        walk_at "st"
        refine W_t0 hb (onO_of (nes (rd_str (ths_ok t) _) ok_box) ?_)
        rw [eqv_str, ths_b, e1]
        walk_at "st"
        refine W_t1 hb (hw _ _ _ trivial ?_)
        dsimp only [isI]
        walk_at "st"
        exact S_nil fin
    · have bd := bad hb
      refine S_cons ?_
      cases hb with
      | none =>
        walk_at "st"
        refine onO_of (show isiP cx H' .none "tuple" = some false from rfl) ?_
        walk_at "st"
        refine S_cons ?_
        walk_at "st"
        exact bd
      | str y =>
        walk_at "st"
        refine onO_of (show isiP cx H' (.str y) "tuple" = some false from rfl) ?_
        walk_at "st"
        refine S_cons ?_
        walk_at "st"
        exact bd
      | list a ws q =>
        walk_at "st"
        refine onO_of (isi_lt q) ?_
        walk_at "st"
        refine S_cons ?_
        walk_at "st"
        exact bd
      | tup a ws q h1 h2 =>
        walk_at "st"
        refine onO_of (isi_tt q) ?_
        walk_at "st"
        refine W_len (sq_t (lk_of q)) (by first | lia | omega) ?_
        walk_at "st"
        refine ifB_t' (by rw [eqv_int]; simp; omega) (S_cons ?_)
        walk_at "st"
        exact bd
      | two a u w d q hu hw' hc =>
        walk_at "st"
        refine onO_of (isi_tt q) ?_
        walk_at "st"
        refine W_len (sq_t (lk_of q)) (show 2 ≤ 16777216 by decide) ?_
        walk_at "st"
        refine ifB_f' (by rw [eqv_int]; rfl) (S_nil (S_cons ?_))
        walk_at "st"
        have sq := sq_t (lk_of (cx := cx) q)
        refine W_sub sq (by decide) (show 2 ≤ 16777216 by decide) (v := u) rfl (onO_of (nes (rd_A hu _) ok_number) ?_)
        walk_at "st"
        have fin : mwpS cx n (.raiseS 56 (.cstr (Str.ofString "a word and a number are wanted"))) [.ref la, .ref a] H' (fun μ H => mwpSs cx n .nil μ H (fun μ H => mwpSs cx n .nil μ H (fun μ' H'' => ∃ H₃, LE H₃ H'' ∧ (∃ z, μ' = [.ref la, z]) ∧ H₃ = H' ∧ ∀ v ∈ done ++ [V.ref a], ∃ t, ThAt cx H' v t) (RQ Q)) (RQ Q)) (RQ Q) := by
          walk_at "st"
          exact bd
        cases hn : PyData.eqv d (.str (Str.ofString "number")) with
        | true =>
          rw [hn] at hc
          walk_at "st"
          refine W_sub sq (by decide) (show 2 ≤ 16777216 by decide) (v := w) rfl (hw _ _ _ hw' ?_)
          rw [show isI w = false by simpa using hc]
          exact S_cons fin
        | false =>
          rw [hn] at hc
          walk_at "st"
          refine W_sub sq (by decide) (show 2 ≤ 16777216 by decide) (v := u) rfl (onO_of (nes (rd_A hu _) ok_box) ?_)
          cases hx2 : PyData.eqv d (.str (Str.ofString "box")) with
          | true =>
            rw [hx2] at hc
            walk_at "st"
            refine W_sub sq (by decide) (show 2 ≤ 16777216 by decide) (v := w) rfl (hw _ _ _ hw' ?_)
            rw [show isI w = false by simpa using hc]
            exact S_cons fin
          | false => exact S_cons fin
  · rintro μ H' ⟨_, rfl, hd⟩
    exact S_nil (NQ.here (h1 hd))
noncomputable def NeedTSpec (cx : Cx) (n : Nat) : Prop := ∀ (la : Addr) (vs : List V) (H : HP) (Q : V → HP → Prop), lk cx H la = some (.list vs) → vs.length ≤ 1000 → (∀ v ∈ vs, (∃ t, ThAt cx H v t) ∨ BadT cx H v) →
  ((∀ v ∈ vs, ∃ t, ThAt cx H v t) → Q .none H) → ((∃ v ∈ vs, BadT cx H v) → Q (.exc 56) H) → CallX cx n 157 [.ref la] H Q
end
end Mine
end

section
namespace Mine
open PySem PyProof.Rows
noncomputable def roomF (ra : Addr) (u : Nat) : List (Str × V) := [(Str.ofString "row", .ref ra), (Str.ofString "filled", .int u)]
structure RoomAt (N : Nat) (rm dx ra : Addr) (B : Bx) (H : HP) : Prop where
  i : H rm = some (.inst 249 dx)
  d : H dx = some (.flds (roomF ra (pl B B.length)))
  r : H ra = some (.list (intsV (rowN N B)))
  n4 : N ≤ 400
  le : pl B B.length ≤ N
  w : WFB B
noncomputable def plI (B : Bx) : List Int := ((List.range B.length).map (pl B)).map fun k : Nat => (k : Int)
theorem mem_plI {B : Bx} {i : Int} : i ∈ plI B ↔ ∃ k, k < B.length ∧ i = (pl B k : Int) := by
  unfold plI
  rw [List.mem_map]
  constructor
  · rintro ⟨m, hm, rfl⟩
    obtain ⟨k, hk, rfl⟩ := List.mem_map.mp hm
    exact ⟨k, List.mem_range.mp hk, rfl⟩
  · rintro ⟨k, hk, rfl⟩
    exact ⟨_, List.mem_map.mpr ⟨k, List.mem_range.mpr hk, rfl⟩, rfl⟩
theorem unplt {B : Bx} {t : Th} (h : t.1 = true → t.2 ∈ plI B) : ∃ t', OkT B t' ∧ plt B t' = t := by
  obtain ⟨b, v⟩ := t
  cases b with
  | false => exact ⟨(false, v), (fun q => by cases q), rfl⟩
  | true =>
    obtain ⟨k, hk, e⟩ := mem_plI.mp (h rfl)
    dsimp only at e
    exact ⟨(true, (k : Int)), fun _ => ⟨k, rfl, hk⟩, by simp [plt, e]⟩
section
variable {cx : Cx} {rm dx ra : Addr} {N : Nat} {B : Bx} {H H' H1 : HP} {n : Nat} {a b r : Addr} {o : O} {Q : V → HP → Prop} {v : V} {vs : List V}
theorem RoomAt.ext (R : RoomAt N rm dx ra B H) (x : LE H H') : RoomAt N rm dx ra B H' := ⟨x _ _ R.i, x _ _ R.d, x _ _ R.r, R.n4, R.le, R.w⟩
theorem RoomAt.row (R : RoomAt N rm dx ra B H) (q : Q (.ref ra) H) : attrP 249 (.ref rm) (Str.ofString "row") H Q := W_attr R.i R.d rfl nofun q
theorem RoomAt.fil (R : RoomAt N rm dx ra B H) (q : Q (.int (pl B B.length)) H) : attrP 249 (.ref rm) (Str.ofString "filled") H Q := W_attr R.i R.d rfl nofun q
theorem RoomAt.no (R : RoomAt N rm dx ra B H) {x : Str} (hx : ∀ ra u, (roomF ra u).lookup x = none) : instP 249 (.ref rm) x H := W_inst R.i R.d (hx _ _)
theorem rd_ints {xs : List Int} (h : lk cx H a = some (.list (intsV xs))) (m : Nat) : rdV cx H (m + 1) (.ref a) = some (.list (xs.map .int)) := by
  show (match lk cx H a with | some (.list vs) => (vs.mapM (rdV cx H m)).map PyData.list | some (.tup vs) => (vs.mapM (rdV cx H m)).map PyData.tuple | _ => none) = _
  rw [h]
  have : (intsV xs).mapM (rdV cx H m) = some (xs.map .int) := by
    clear h
    induction xs with
    | nil => rfl
    | cons i xs ih =>
      rw [show intsV (i :: xs) = .int i :: intsV xs from rfl, List.mapM_cons, ih, show rdV cx H m (.int i) = some (.int i) by cases m <;> rfl]; rfl
  dsimp only
  rw [this]; rfl
theorem any_ints (xs : List Int) (i : Int) : (xs.map PyData.int).any (fun y => PyData.eqv y (.int i)) = decide (i ∈ xs) := by
  induction xs with
  | nil => rfl
  | cons j xs ih =>
    rw [List.map_cons, List.any_cons, ih, eqv_int, Bool.eq_iff_iff]
    simp only [Bool.or_eq_true, beq_iff_eq, decide_eq_true_iff, List.mem_cons]
    exact or_congr ⟨Eq.symm, Eq.symm⟩ Iff.rfl
theorem in_ints {xs : List Int} {i : Int} (h : lk cx H a = some (.list (intsV xs))) : inP cx (.int i) (.ref a) H = some (decide (i ∈ xs)) := by
  unfold inP
  rw [show rdV cx H 1 (.int i) = some (.int i) from rfl, rd_ints h, Option.bind_some, Option.bind_some]
  dsimp only
  rw [any_ints]
theorem ni_ints {xs : List Int} {i : Int} (h : lk cx H a = some (.list (intsV xs))) : cmpP cx .NotIn (.int i) (.ref a) H = some (!decide (i ∈ xs)) := by
  show (inP cx (.int i) (.ref a) H).map _ = _
  rw [in_ints h]; rfl
noncomputable def m_Room_places : MSs :=
  (.cons (.ret (.callf 143 (.cons (.attr 249 0 (Str.ofString "row")) (.cons (.attr 249 0 (Str.ofString "filled")) .nil))))
  .nil)
noncomputable def m_Room_need_boxes : MSs :=
  (.cons (.assign 2 (.callm 249 (Str.ofString "places") 218 0 .nil))
  (.cons (.for_ 3 (.loc 1) (.cons (.ite (.bop .And (.cons (.cmp (.sub (.loc 3) (.cint (0))) .Eq (.cstr (Str.ofString "box"))) (.cons (.cmp (.sub (.loc 3) (.cint (1))) .NotIn (.loc 2)) .nil))) (.cons (.raiseS 68 (.cstr (Str.ofString "no box stands there")))
      .nil) .nil)
    .nil))
  .nil))
noncomputable def m_Room_need_box : MSs :=
  (.cons (.ite (.bop .Or (.cons (.not (.callf 150 (.cons (.loc 1) .nil))) (.cons (.cmp (.loc 1) .NotIn (.callm 249 (Str.ofString "places") 218 0 .nil)) .nil))) (.cons (.raiseS 68 (.cstr (Str.ofString "no box stands there")))
    .nil) .nil)
  .nil)
noncomputable def m_Room_used : MSs :=
  (.cons (.ret (.attr 249 0 (Str.ofString "filled")))
  .nil)
noncomputable def m_Room_cells : MSs :=
  (.cons (.ret (.callb .list (.cons (.attr 249 0 (Str.ofString "row")) .nil)))
  .nil)
theorem places_ms (hh : HeadsSpec cx n) (R : RoomAt N rm dx ra B H)
    (hQ : ∀ r H', Ext cx H H' → Fresh cx H r → H' r = some (.list (intsV (plI B))) → Q (.ref r) H') : mwpSs cx n m_Room_places [.ref rm] H (NQ Q) (RQ Q) := by
  have hle := R.le
  have hn4 := R.n4
  refine S_cons ?_
  walk_at "st"
  refine R.row (R.fil ?_)
  exact hh _ (rowN N B) B _ _ (lk_of R.r) (shp_N R.le R.n4) (by first | lia | omega) fun r H' x1 x2 x3 => RQ.here (hQ r H' x1 x2 x3)
noncomputable def PlSpec (cx : Cx) (n : Nat) : Prop := ∀ (N : Nat) (rm dx ra : Addr) (B : Bx) (H : HP) (Q : V → HP → Prop), RoomAt N rm dx ra B H →
  (∀ r H', Ext cx H H' → Fresh cx H r → H' r = some (.list (intsV (plI B))) → Q (.ref r) H') → CallP cx n 218 [.ref rm] H Q
theorem needB_ms {la : Addr} {ts : List Th} (hp : PlSpec cx n) (R : RoomAt N rm dx ra B H) (hl : lk cx H la = some (.list vs)) (hts : All2 (ThAt cx H) vs ts) (hle : vs.length ≤ 1000)
    (h1 : (∀ t ∈ ts, t.1 = true → t.2 ∈ plI B) → Q .none H) (h2 : (∃ t ∈ ts, t.1 = true ∧ t.2 ∉ plI B) → Q (.exc 68) H) :
    mwpSs cx n m_Room_need_boxes [.ref rm, .ref la, .unb, .unb] H (NQ Q) (RQ Q) := by
  refine S_cons ?_
  walk_at "st"
  refine ⟨R.no fun _ _ => rfl, hp _ _ _ _ _ _ _ R fun r H1 x1 _ hr => S_cons ?_⟩
  walk_at "st"
  refine W_iter (x1.lk hl) (by first | lia | omega) ⟨fun done μ H' => (∃ z, μ = [.ref rm, .ref la, .ref r, z]) ∧ H' = H1 ∧ ∀ t ∈ ts.take done.length, t.1 = true → t.2 ∈ plI B, ⟨⟨_, rfl⟩, rfl, fun _ q => nomatch q⟩, ?_, ?_, ?_⟩
  · rintro _ _ _ ⟨_, rfl, _⟩; exact x1.lk hl
  · rintro done x rest μ H' e ⟨⟨z, rfl⟩, rfl, hd⟩
    obtain ⟨t, ht, b, rfl, hb⟩ := hts.get (i := done.length) (x := x) (by rw [e]; simp)
    have hb1 := x1.lk hb
    have fin : (t.1 = true → t.2 ∈ plI B) → mwpSs cx n .nil [.ref rm, .ref la, .ref r, .ref b] H' (fun μ H => mwpSs cx n .nil μ H (fun μ' H'' => ∃ H₃, LE H₃ H'' ∧ (∃ z, μ' = [.ref rm, .ref la, .ref r, z]) ∧ H₃ = H' ∧ ∀ t ∈ ts.take (done ++ [V.ref b]).length, t.1 = true → t.2 ∈ plI B) (RQ Q)) (RQ Q) := fun hq =>
      S_nil (S_nil ⟨H', LE.refl _, ⟨_, rfl⟩, rfl, fun u hu => by
        rw [List.length_append, List.length_singleton, List.take_succ, ht] at hu
        rcases List.mem_append.mp hu with q | q
        · exact hd u q
        · rw [show u = t by simpa using q]; exact hq⟩)
    refine S_cons ?_
    walk_at "st"
    refine W_t0 hb1 (onO_of (eqs (rd_str (ths_ok t) _) ok_box) ?_)
    rw [eqv_str, ths_b]
    refine ifB_of (fun q => ?_) fun q => fin fun q2 => (by rw [q] at q2; cases q2)
    refine W_t1 hb1 (onO_of (ni_ints (lk_of hr)) (ifB_of (fun q2 => S_cons ?_) fun q2 => fin fun _ => by simpa using q2))
    walk_at "st"
    exact ⟨H, x1.le, h2 ⟨t, List.mem_of_getElem? ht, q, by simpa using q2⟩⟩
  · rintro μ H' ⟨_, rfl, hd⟩
    rw [hts.1, List.take_length] at hd
    exact S_nil ⟨_, x1.le, h1 hd⟩
noncomputable def NeedBSpec (cx : Cx) (n : Nat) : Prop := ∀ (N : Nat) (rm dx ra la : Addr) (B : Bx) (vs : List V) (ts : List Th) (H : HP) (Q : V → HP → Prop), RoomAt N rm dx ra B H → lk cx H la = some (.list vs) → All2 (ThAt cx H) vs ts → vs.length ≤ 1000 →
  ((∀ t ∈ ts, t.1 = true → t.2 ∈ plI B) → Q .none H) → ((∃ t ∈ ts, t.1 = true ∧ t.2 ∉ plI B) → Q (.exc 68) H) → CallX cx n 185 [.ref rm, .ref la] H Q
noncomputable def InPl (B : Bx) (v : V) : Prop := ∃ i, v = .int i ∧ i ∈ plI B
theorem needX_ms (hw : WholeSp cx n) (hp : PlSpec cx n) (R : RoomAt N rm dx ra B H) (hk : Kn H v) (h1 : InPl B v → Q .none H) (h2 : ¬ InPl B v → Q (.exc 68) H) :
    mwpSs cx n m_Room_need_box [.ref rm, v] H (NQ Q) (RQ Q) := by
  have hu : v ≠ .unb := by rintro rfl; exact hk
  refine S_cons ?_
  walk_at "st"
  refine onL_of hu (hw _ _ _ hk ?_)
  cases e : isI v with
  | false =>
    walk_at "st"
    refine S_cons ?_
    walk_at "st"
    exact RQ.here (h2 (by rintro ⟨i, rfl, _⟩; cases e))
  | true =>
    cases v with
    | int i =>
      walk_at "st"
      refine ⟨R.no fun _ _ => rfl, hp _ _ _ _ _ _ _ R fun r H1 x1 _ hr => ?_⟩
      refine onO_of (ni_ints (lk_of hr)) (ifB_of (fun q => S_cons ?_) fun q => S_nil (S_nil ⟨_, x1.le, h1 ⟨i, rfl, by simpa using q⟩⟩))
      walk_at "st"
      exact ⟨_, x1.le, h2 (by rintro ⟨j, e, hj⟩; cases e; simp [hj] at q)⟩
    | _ => cases e
noncomputable def NeedXSpec (cx : Cx) (n : Nat) : Prop := ∀ (N : Nat) (rm dx ra : Addr) (B : Bx) (v : V) (H : HP) (Q : V → HP → Prop), RoomAt N rm dx ra B H → Kn H v → (InPl B v → Q .none H) → (¬ InPl B v → Q (.exc 68) H) → CallX cx n 192 [.ref rm, v] H Q
theorem used_ms (R : RoomAt N rm dx ra B H) (h : Q (.int (pl B B.length)) H) : mwpSs cx n m_Room_used [.ref rm] H (NQ Q) (RQ Q) := by
  refine S_cons ?_
  walk_at "st"
  exact R.fil (RQ.here h)
noncomputable def UsedSpec (cx : Cx) (n : Nat) : Prop := ∀ (N : Nat) (rm dx ra : Addr) (B : Bx) (H : HP) (Q : V → HP → Prop), RoomAt N rm dx ra B H → Q (.int (pl B B.length)) H → CallP cx n 239 [.ref rm] H Q
theorem cells_ms (R : RoomAt N rm dx ra B H) (hQ : ∀ r H', Ext cx H H' → Fresh cx H r → H' r = some (.list (intsV (rowN N B))) → Q (.ref r) H') : mwpSs cx n m_Room_cells [.ref rm] H (NQ Q) (RQ Q) := by
  have hlen := rowN_length R.le
  have hn4 := R.n4
  refine S_cons ?_
  walk_at "st"
  refine R.row (W_list (sq_l (lk_of R.r)) (by rw [ints_length]; first | lia | omega) fun r hr => RQ.here (hQ r _ (Ext.new hr _) hr (upd_same _ _ _)))
noncomputable def CellsSpec (cx : Cx) (n : Nat) : Prop := ∀ (N : Nat) (rm dx ra : Addr) (B : Bx) (H : HP) (Q : V → HP → Prop), RoomAt N rm dx ra B H → (∀ r H', Ext cx H H' → Fresh cx H r → H' r = some (.list (intsV (rowN N B))) → Q (.ref r) H') → CallP cx n 246 [.ref rm] H Q
end
end Mine
end

section
namespace Mine
open PySem PyProof.Rows
section
variable {cx : Cx} {rm dx ra : Addr} {N : Nat} {B : Bx} {xs : List Int} {H H' H1 : HP} {n : Nat} {a b r : Addr} {o o' : O} {Q : V → HP → Prop} {v : V} {vs : List V}
theorem ThAt.set {vs ws : List V} {v : V} {t : Th} (hr : H r = some (.list vs)) : ThAt cx H v t → ThAt cx (upd H r (.list ws)) v t := fun ⟨b, e, hb⟩ => ⟨b, e, by
  rw [lk_ne (fun q => by subst q; rw [lk_of hr] at hb; cases hb)]; exact hb⟩
theorem word_link (g : Nat → Nat) (t : Th) : ((word g t).fmod 2 == 1) = t.1 := by
  obtain ⟨b, v⟩ := t
  rw [fmod2]
  cases b
  · simp [word]
  · simp only [word, if_pos, beq_iff_eq]; first | lia | omega
theorem word_told (B : Bx) (t : Th) : (word (pl B) t).fdiv 2 = (plt B t).2 := by
  obtain ⟨b, v⟩ := t
  rw [fdiv2]
  cases b
  · simp [word, plt]
  · simp only [word, plt, if_pos]; first | lia | omega
theorem slice_eq {ys l : List Int} {a : Nat} (h : ∀ j, j < l.length → ys[a + j]? = l[j]?) (hl : l.length = 0 ∨ a + l.length ≤ ys.length) : (ys.take (min (a + l.length) ys.length)).drop (min a ys.length) = l := by
  apply List.ext_getElem?; intro i
  rw [List.getElem?_drop, List.getElem?_take]
  by_cases q : i < l.length
  · rw [if_pos (by first | with_reducible exact Int.natCast_nonneg _ | with_reducible assumption | lia | omega), show min a ys.length = a from by first | with_reducible exact Int.natCast_nonneg _ | with_reducible assumption | lia | omega]; exact h i q
  · rw [List.getElem?_eq_none (show l.length ≤ i by first | with_reducible exact Int.natCast_nonneg _ | with_reducible assumption | lia | omega)]
    rcases hl with hl | hl
    · rw [if_neg (by first | with_reducible exact Int.natCast_nonneg _ | with_reducible assumption | lia | omega)]
    · rw [if_neg (by first | with_reducible exact Int.natCast_nonneg _ | with_reducible assumption | lia | omega)]
theorem shp_slice {k : Nat} {f : List Th} (s : Shp B xs) (hk : B[k]? = some f) : (xs.take (min (pl B k + 1 + f.length) xs.length)).drop (min (pl B k + 1) xs.length) = f.map (word (pl B)) := by
  have := slice_eq (ys := xs) (l := f.map (word (pl B))) (a := pl B k + 1) ?_ ?_
  · rw [List.length_map] at this; exact this
  · intro j hj
    rw [List.length_map] at hj
    have ht : f[j]? = some f[j] := List.getElem?_eq_getElem hj
    rw [s.fld hk ht, List.getElem?_map, ht]; rfl
  · rw [List.length_map]
    cases hz : f.length with
    | zero => exact .inl rfl
    | succ m =>
      have ht : f[m]? = some f[m] := List.getElem?_eq_getElem (by omega)
      have := (List.getElem?_eq_some_iff.mp (s.fld hk ht)).1
      exact .inr (by first | lia | omega)
noncomputable def m_Room_told : MSs :=
  (.cons (.xdo none (.mt 249 (Str.ofString "need_box") 192 0) (.cons (.loc 1) .nil))
  (.cons (.assign 2 (.list .nil))
  (.cons (.for_ 3 (.slice (.attr 249 0 (Str.ofString "row")) (.bin .Add (.loc 1) (.cint (1))) (.bin .Add (.bin .Add (.loc 1) (.cint (1))) (.callf 136 (.cons (.sub (.attr 249 0 (Str.ofString "row")) (.loc 1)) .nil)))) (.cons (.ite (.callf 122 (.cons (.loc 3) .nil)) (.cons (.expr (.app (.loc 2) (.tup (.cons (.cstr (Str.ofString "box")) (.cons (.callf 129 (.cons (.loc 3) .nil)) .nil)))))
      .nil) (.cons (.expr (.app (.loc 2) (.tup (.cons (.cstr (Str.ofString "number")) (.cons (.callf 129 (.cons (.loc 3) .nil)) .nil)))))
      .nil))
    .nil))
  (.cons (.ret (.loc 2))
  .nil))))
theorem told_ms' (hx : NeedXSpec cx n) (h2 : Fn1 cx n 136 fun w => .int (w.fdiv 4)) (h3 : Fn1 cx n 122 fun w => .bool (w.fmod 2 == 1)) (h5 : Fn1 cx n 129 fun w => .int (w.fdiv 2))
    (R : RoomAt N rm dx ra B H) (hkn : Kn H v) (hX : ¬ InPl B v → Q (.exc 68) H)
    (hQ : ∀ k f, v = .int (pl B k) → B[k]? = some f → ∀ r vs H', Ext cx H H' → Fresh cx H r → H' r = some (.list vs) → All2 (ThAt cx H') vs (f.map (plt B)) → Q (.ref r) H') :
    mwpSs cx n m_Room_told [.ref rm, v, .unb, .unb] H (NQ Q) (RQ Q) := by
  have hu : v ≠ .unb := by rintro rfl; exact hkn
  refine S_cons ?_
  walk_at "st"
  refine ⟨R.no fun _ _ => rfl, onL_of hu (hx _ _ _ _ _ _ _ _ R hkn (fun hin => S_cons ?_) fun q => RQ.here (hX q))⟩
  obtain ⟨i, rfl, hi⟩ := hin
  obtain ⟨k, hkl, rfl⟩ := mem_plI.mp hi
  have hk : B[k]? = some B[k] := List.getElem?_eq_getElem hkl
  have hQ' := hQ k _ rfl hk
  clear hQ hX hi hu hkn
  generalize B[k] = f at hk hQ'
  have hlen := rowN_length R.le
  have hn4 := R.n4
  have hsh := shp_N R.le R.n4
  have hfl := fld_le_pl hk
  have hle := R.le
  have hrl : (intsV (rowN N B)).length ≤ 16777216 := by rw [ints_length]; first | lia | omega
  walk_at "st"
  refine ⟨by simp, fun r hr => S_cons ?_⟩
  have R1 := R.ext (Ext.new hr (.list [])).le
  walk_at "st"
  refine R1.row (R1.row (W_sub (sq_l (lk_of R1.r)) (by first | lia | omega) hrl (by rw [ints_get?, Int.toNat_natCast, hsh.hd hk]; rfl) (h2 _ _ _ ?_)))
  dsimp only
  rw [fdiv4, show 4 * (f.length : Int) / 4 = (f.length : Int) from by first | lia | omega]
  walk_at "st"
  rw [show ((pl B k : Int) + 1 + (f.length : Int)) = ((pl B k + 1 + f.length : Nat) : Int) from by first | lia | omega, show ((pl B k : Int) + 1) = ((pl B k + 1 : Nat) : Int) from by first | lia | omega]
  refine W_slice (lk_of R1.r) (cutLo_nn (by first | lia | omega)) (cutHi_nn (by first | lia | omega)) hrl fun sl hsl => ?_
  rw [cut_ints, ints_length, Int.toNat_natCast, Int.toNat_natCast, shp_slice hsh hk]
  have hsr : r ≠ sl := hsl.ne lk_same
  refine W_iter lk_same (by rw [ints_length, List.length_map]; first | lia | omega) ⟨fun done μ H' => ∃ z vs, μ = [.ref rm, .int (pl B k), .ref r, z] ∧ Ext cx H H' ∧ H' r = some (.list vs) ∧ H' sl = some (.list (intsV (f.map (word (pl B))))) ∧ All2 (ThAt cx H') vs ((f.take done.length).map (plt B)), ?_, ?_, ?_, ?_⟩
  · exact ⟨_, [], rfl, (Ext.new hr _).new' hsl _, by rw [upd_ne _ hsr, upd_same], upd_same _ _ _, All2.nil⟩
  · rintro done μ H' ⟨_, _, _, _, _, h, _⟩; exact lk_of h
  · rintro done x rest μ H3 hitems ⟨z, vs, rfl, x3, hr3, hsl3, ha⟩
    have hx : (intsV (f.map (word (pl B))))[done.length]? = some x := by rw [hitems]; simp
    rw [ints_get?, List.getElem?_map] at hx
    cases ht : f[done.length]? with
    | none => rw [ht] at hx; cases hx
    | some t =>
    rw [ht] at hx
    simp only [Option.map_some, Option.some.injEq] at hx
    subst hx
    have htl := (List.getElem?_eq_some_iff.mp ht).1
    have hvl := ha.1
    rw [List.length_map, List.length_take] at hvl
    have fin : ∀ tb, Fresh cx H3 tb → ∀ c : String, c = (if t.1 = true then "box" else "number") → ∃ H₃, LE H₃ (upd (upd H3 tb (.tup [.str (Str.ofString c), .int (plt B t).2])) r (.list (vs ++ [.ref tb]))) ∧
        ∃ z vs, ([.ref rm, .int (pl B k), .ref r, .int (word (pl B) t)] : List V) = [.ref rm, .int (pl B k), .ref r, z] ∧ Ext cx H H₃ ∧ H₃ r = some (.list vs) ∧ H₃ sl = some (.list (intsV (f.map (word (pl B))))) ∧ All2 (ThAt cx H₃) vs ((f.take (done ++ [V.int (word (pl B) t)]).length).map (plt B)) := by
      intro tb htb c hc
      have n1 : r ≠ tb := htb.ne' hr3
      have n2 : sl ≠ tb := htb.ne' hsl3
      refine ⟨_, LE.refl _, _, _, rfl, (x3.new' htb _).upd hr.1 hr.2.2 _, upd_same _ _ _, ?_, ?_⟩
      · rw [upd_ne _ (Ne.symm hsr), upd_ne _ n2]; exact hsl3
      · rw [List.length_append, List.length_singleton, List.take_add_one, ht, List.map_append]
        have hu : (upd H3 tb (.tup [.str (Str.ofString c), .int (plt B t).2])) r = some (.list vs) := by rw [upd_ne _ n1]; exact hr3
        refine All2.snoc (ha.imp fun _ _ q => ThAt.set hu (q.ext (Ext.new htb _))) (ThAt.set hu ⟨tb, rfl, ?_⟩)
        rw [lk_same, hc, thV, plt_1]
    refine S_cons ?_
    walk_at "st"
    refine h3 _ _ _ ?_
    walk_at "st"
    rw [word_link]
    refine ifB_of (fun q => S_cons ?_) fun q => S_cons ?_
    · walk_at "st"
      refine ⟨W_la hr3, h5 _ _ _ ?_⟩
      dsimp only
      rw [word_told]
      refine ⟨by simp, fun tb htb => W_app (by rw [upd_ne _ (htb.ne' hr3)]; exact hr3) (by first | lia | omega) (S_nil (S_nil (fin tb htb _ (by rw [if_pos q]))))⟩
    · walk_at "st"
      refine ⟨W_la hr3, h5 _ _ _ ?_⟩
      dsimp only
      rw [word_told]
      refine ⟨by simp, fun tb htb => W_app (by rw [upd_ne _ (htb.ne' hr3)]; exact hr3) (by first | lia | omega) (S_nil (S_nil (fin tb htb _ (by rw [if_neg (by simp [q])]))))⟩
  · rintro μ H3 ⟨z, vs, rfl, x3, hr3, hsl3, ha⟩
    refine S_cons ?_
    walk_at "st"
    rw [ints_length, List.length_map, List.take_length] at ha
    exact RQ.here (hQ' r vs H3 x3 hr hr3 ha)
noncomputable def ToldSpec (cx : Cx) (n : Nat) : Prop := ∀ (N : Nat) (rm dx ra : Addr) (B : Bx) (v : V) (H : HP) (Q : V → HP → Prop), RoomAt N rm dx ra B H → Kn H v → (¬ InPl B v → Q (.exc 68) H) →
  (∀ k f, v = .int (pl B k) → B[k]? = some f → ∀ r vs H', Ext cx H H' → Fresh cx H r → H' r = some (.list vs) → All2 (ThAt cx H') vs (f.map (plt B)) → Q (.ref r) H') → CallX cx n 211 [.ref rm, v] H Q
theorem rep_zero (m : Nat) : (List.replicate m [V.int 0]).flatten = intsV (List.replicate m 0) := by
  induction m with
  | zero => rfl
  | succ m ih => rw [List.replicate_succ, List.flatten_cons, ih]; rfl
noncomputable def But (d : Addr) (H H' : HP) : Prop := ∀ a o, a ≠ d → H a = some o → H' a = some o
noncomputable def KZ (cx : Cx) (H H' : HP) : Prop := ∀ a l, cx.Z a = some l → H a = none → H' a = none
theorem KZ.upd (x : KZ cx H H') (h : H' r = some o) : KZ cx H (Mine.upd H' r o') := fun a l h1 h2 => by
  have e := x a l h1 h2
  rw [upd_ne _ (fun q => by subst q; rw [h] at e; cases e)]; exact e
theorem RoomAt.nrd (R : RoomAt N rm dx ra B H) : rm ≠ dx := fun e => by have := R.i; rw [e, R.d] at this; cases this
theorem RoomAt.nra (R : RoomAt N rm dx ra B H) : rm ≠ ra := fun e => by have := R.i; rw [e, R.r] at this; cases this
theorem RoomAt.nda (R : RoomAt N rm dx ra B H) : dx ≠ ra := fun e => by have := R.d; rw [e, R.r] at this; cases this
noncomputable def m_Room_made : MSs :=
  (.cons (.xdo none (.fn 157) (.cons (.loc 1) .nil))
  (.cons (.xdo none (.mt 249 (Str.ofString "need_boxes") 185 0) (.cons (.loc 1) .nil))
  (.cons (.assign 2 (.attr 249 0 (Str.ofString "filled")))
  (.cons (.assign 3 (.bin .Add (.bin .Add (.loc 2) (.cint (1))) (.callb .len (.cons (.loc 1) .nil))))
  (.cons (.ite (.cmp (.loc 3) .Gt (.callb .len (.cons (.attr 249 0 (Str.ofString "row")) .nil))) (.cons (.raiseS 92 (.cstr (Str.ofString "too few cells are left")))
    .nil) .nil)
  (.cons (.assign 4 (.bin .Add (.list (.cons (.callf 115 (.cons (.callb .len (.cons (.loc 1) .nil)) (.cons (.cbool false) .nil))) .nil)) (.comp (.callf 164 (.cons (.loc 5) .nil)) (.loc 1) (.cbool true))))
  (.cons (.setAttr 249 0 (Str.ofString "row") (.bin .Add (.bin .Add (.slice (.attr 249 0 (Str.ofString "row")) .cnone (.loc 2)) (.loc 4)) (.slice (.attr 249 0 (Str.ofString "row")) (.loc 3) .cnone)))
  (.cons (.setAttr 249 0 (Str.ofString "filled") (.loc 3))
  (.cons (.ret (.loc 2))
  .nil)))))))))
noncomputable def m_Room_put : MSs :=
  (.cons (.xdo none (.mt 249 (Str.ofString "need_box") 192 0) (.cons (.loc 1) .nil))
  (.cons (.ite (.bop .Or (.cons (.not (.callf 150 (.cons (.loc 2) .nil))) (.cons (.not (.cmp2 (.cint (0)) .LtE (.loc 2) .Lt (.callf 136 (.cons (.sub (.attr 249 0 (Str.ofString "row")) (.loc 1)) .nil)))) .nil))) (.cons (.raiseS 80 (.cstr (Str.ofString "the box has no such field")))
    .nil) .nil)
  (.cons (.xdo none (.fn 157) (.cons (.list (.cons (.loc 3) .nil)) .nil))
  (.cons (.xdo none (.mt 249 (Str.ofString "need_boxes") 185 0) (.cons (.list (.cons (.loc 3) .nil)) .nil))
  (.cons (.setSub (.attr 249 0 (Str.ofString "row")) (.bin .Add (.bin .Add (.loc 1) (.cint (1))) (.loc 2)) (.callf 164 (.cons (.loc 3) .nil)))
  .nil)))))
noncomputable def m_Room_init : MSs :=
  (.cons (.ite (.bop .Or (.cons (.not (.callf 150 (.cons (.loc 1) .nil))) (.cons (.not (.callf 150 (.cons (.loc 2) .nil))) .nil))) (.cons (.raiseS 44 (.cstr (Str.ofString "two whole numbers are wanted")))
    .nil) .nil)
  (.cons (.ite (.bop .Or (.cons (.not (.cmp2 (.cint (1)) .LtE (.loc 1) .LtE (.gint (400)))) (.cons (.not (.cmp2 (.cint (0)) .LtE (.loc 2) .LtE (.gint (20)))) (.cons (.cmp (.bin .Add (.loc 2) (.cint (1))) .Gt (.loc 1)) .nil)))) (.cons (.raiseS 44 (.cstr (Str.ofString "no such room")))
    .nil) .nil)
  (.cons (.setAttr 249 0 (Str.ofString "row") (.bin .Add (.list (.cons (.callf 115 (.cons (.loc 2) (.cons (.cbool false) .nil))) .nil)) (.bin .Mult (.list (.cons (.cint (0)) .nil)) (.bin .Sub (.loc 1) (.cint (1))))))
  (.cons (.setAttr 249 0 (Str.ofString "filled") (.bin .Add (.loc 2) (.cint (1))))
  .nil))))
theorem put_ms {f t' : V} (hx : NeedXSpec cx n) (hw : WholeSp cx n) (h2 : Fn1 cx n 136 fun w => .int (w.fdiv 4)) (hnt : NeedTSpec cx n) (hnb : NeedBSpec cx n) (hwo : WordOfSpec cx n)
    (R : RoomAt N rm dx ra B H) (hkn : Kn H v) (hkf : Kn H f) (hkt : (∃ t, ThAt cx H t' t) ∨ BadT cx H t')
    (x1 : ¬ InPl B v → Q (.exc 68) H)
    (x2 : ∀ k fl, v = .int (pl B k) → B[k]? = some fl → (¬ ∃ j : Nat, f = .int j ∧ j < fl.length) → Q (.exc 80) H)
    (x3 : ∀ k fl (j : Nat), v = .int (pl B k) → B[k]? = some fl → f = .int j → j < fl.length → BadT cx H t' → Q (.exc 56) H)
    (x4 : ∀ k fl (j : Nat) t, v = .int (pl B k) → B[k]? = some fl → f = .int j → j < fl.length → ThAt cx H t' t → t.1 = true → t.2 ∉ plI B → Q (.exc 68) H)
    (hQ : ∀ k fl (j : Nat) t, v = .int (pl B k) → B[k]? = some fl → f = .int j → j < fl.length → ThAt cx H t' (plt B t) → OkT B t → ∀ H', RoomAt N rm dx ra (B.set k (fl.set j t)) H' → But ra H H' → KZ cx H H' → Q .none H') :
    mwpSs cx n m_Room_put [.ref rm, v, f, t'] H (NQ Q) (RQ Q) := by
  have hu : v ≠ .unb := by rintro rfl; exact hkn
  have huf : f ≠ .unb := by rintro rfl; exact hkf
  have hut : t' ≠ .unb := by rintro rfl; rcases hkt with ⟨_, _, q, _⟩ | q <;> cases q
  refine S_cons ?_
  walk_at "st"
  refine ⟨R.no fun _ _ => rfl, onL_of hu (hx _ _ _ _ _ _ _ _ R hkn (fun hin => S_cons ?_) fun q => RQ.here (x1 q))⟩
  obtain ⟨i, rfl, hi⟩ := hin
  obtain ⟨k, hkl, rfl⟩ := mem_plI.mp hi
  have hk : B[k]? = some B[k] := List.getElem?_eq_getElem hkl
  replace x2 := x2 k _ rfl hk
  replace x3 := fun j => x3 k _ j rfl hk
  replace x4 := fun j t => x4 k _ j t rfl hk
  replace hQ := fun j t => hQ k _ j t rfl hk
  clear x1 hi hu hkn
  generalize B[k] = fl at hk hQ x2 x3 x4
  have hlen := rowN_length R.le
  have hn4 := R.n4
  have hsh := shp_N R.le R.n4
  have hrl : (intsV (rowN N B)).length ≤ 16777216 := by rw [ints_length]; first | lia | omega
  walk_at "st"
  refine onL_of huf (hw _ _ _ hkf ?_)
  have bad : (¬ ∃ j : Nat, f = .int j ∧ j < fl.length) → ∀ N' : List V → HP → Prop, mwpSs cx n (.cons (.raiseS 80 (.cstr (Str.ofString "the box has no such field"))) .nil) [.ref rm, .int (pl B k), f, t'] H N' (RQ Q) := fun q N' => by
    refine S_cons ?_
    walk_at "st"
    exact RQ.here (x2 q)
  cases e : isI f with
  | false =>
    walk_at "st"
    exact bad (by rintro ⟨j, rfl, _⟩; cases e) _
  | true =>
    cases f with
    | int j =>
      walk_at "st"
      refine ifB_of (fun q => ?_) fun q => bad (by rintro ⟨m, e, _⟩; cases e; simp at q) _
      rw [decide_eq_true_iff] at q
      obtain ⟨m, rfl⟩ := Int.eq_ofNat_of_zero_le q
      refine R.row (W_sub (sq_l (lk_of R.r)) (by first | lia | omega) hrl (by rw [ints_get?, Int.toNat_natCast, hsh.hd hk]; rfl) (h2 _ _ _ ?_))
      dsimp only
      rw [fdiv4, show 4 * (fl.length : Int) / 4 = (fl.length : Int) from by first | lia | omega]
      walk_at "st"
      by_cases hm : m < fl.length
      case neg =>
        rw [show decide ((m : Int) < (fl.length : Int)) = false from decide_eq_false (by first | lia | omega)]
        walk_at "st"
        exact bad (by rintro ⟨j, e, hj⟩; cases e; exact hm hj) _
      rw [show decide ((m : Int) < (fl.length : Int)) = true from decide_eq_true (by first | lia | omega)]
      walk_at "st"
      refine S_nil (S_cons ?_)
      walk_at "st"
      refine ⟨trivial, onL_of hut ⟨by simp, fun r1 hr1 => ?_⟩⟩
      have e1 := Ext.new hr1 (.list [t'])
      refine hnt _ _ _ _ lk_same (by simp) (fun u hu => ?_) (fun hall => S_cons ?_) fun hbad => ?_
      · rw [List.mem_singleton.mp hu]
        exact hkt.imp (fun ⟨t, q⟩ => ⟨t, q.ext e1⟩) fun q => q.ext e1.le
      case refine_3 =>
        obtain ⟨u, hu, hb⟩ := hbad
        rw [List.mem_singleton.mp hu] at hb
        rcases hkt with ⟨t, q⟩ | q
        · exact (hb.notTh (q.ext e1)).elim
        · exact ⟨H, e1.le, x3 m rfl hm q⟩
      obtain ⟨t, ht1⟩ := hall t' (List.mem_singleton.mpr rfl)
      obtain ⟨t, ht⟩ : ∃ t, ThAt cx H t' t := by
        rcases hkt with q | q
        · exact q
        · exact ((q.ext e1.le).notTh ht1).elim
      clear ht1
      walk_at "st"
      refine ⟨(R.ext e1.le).no fun _ _ => rfl, onL_of hut ⟨by simp, fun r2 hr2 => ?_⟩⟩
      have e2 := e1.new' hr2 (.list [t'])
      refine hnb _ _ _ _ _ _ _ [t] _ _ (R.ext e2.le) lk_same (All2.nil.snoc (ht.ext e2)) (by simp) (fun hok => S_cons ?_) fun ⟨u, hu, q1, q2⟩ => ?_
      case refine_2 =>
        rw [List.mem_singleton.mp hu] at q1 q2
        exact ⟨H, e2.le, x4 m t rfl hm ht q1 q2⟩
      obtain ⟨t2, hok2, rfl⟩ := unplt (hok t (List.mem_singleton.mpr rfl))
      generalize upd (upd H r1 (.list [t'])) r2 (.list [t']) = H2 at e2
      have R2 := R.ext e2.le
      walk_at "st"
      obtain ⟨b, rfl, hb⟩ := ht
      walk_at "st"
      refine hwo _ _ _ _ (e2.lk hb) (R2.row ?_)
      walk_at "st"
      have hfl : fl[m]? = some fl[m] := List.getElem?_eq_getElem hm
      have hxl := (List.getElem?_eq_some_iff.mp (hsh.fld hk hfl)).1
      rw [show (pl B k : Int) + 1 + (m : Int) = ((pl B k + 1 + m : Nat) : Int) from by first | lia | omega]
      refine W_setSub R2.r (by first | lia | omega) hrl (by rw [ints_length, Int.toNat_natCast]; exact hxl) (S_nil ⟨_, LE.refl _, hQ m t2 rfl hm ⟨b, rfl, hb⟩ hok2 _ ⟨?_, ?_, ?_, R.n4, ?_, wfb_set R.w hk hok2⟩ (fun a o ha e => by rw [upd_ne _ ha]; exact e2.le _ _ e) (KZ.upd e2.z R2.r)⟩)
      · rw [upd_ne _ R2.nra]; exact R2.i
      · rw [upd_ne _ R2.nda, pl_set_len hk (by simp)]; exact R2.d
      · rw [upd_same, Int.toNat_natCast, ints_set, word_plt, rowN_set hk hm]
      · rw [pl_set_len hk (by simp)]; exact R.le
    | _ => cases e
end
end Mine
end

section
namespace Mine
open PySem PyProof.Rows
theorem unplts {B : Bx} : ∀ {ts : List Th}, (∀ t ∈ ts, t.1 = true → t.2 ∈ plI B) → ∃ ts' : List Th, (∀ t ∈ ts', OkT B t) ∧ ts'.map (plt B) = ts
  | [], _ => ⟨[], (fun _ q => nomatch q), rfl⟩
  | t :: ts, h => by
    obtain ⟨t', h1, h2⟩ := unplt (h t List.mem_cons_self)
    obtain ⟨ts', h3, h4⟩ := unplts fun u hu => h u (List.mem_cons_of_mem _ hu)
    exact ⟨t' :: ts', fun u hu => (List.mem_cons.mp hu).elim (fun q => by rw [q]; exact h1) (h3 u), by rw [List.map_cons, h2, h4]⟩
section
variable {cx : Cx} {rm dx ra : Addr} {N : Nat} {B : Bx} {xs : List Int} {H H' H1 : HP} {n : Nat} {a b r : Addr} {o o' : O} {Q : V → HP → Prop} {v : V} {vs : List V}
theorem All2.cons {α β : Type} {R : α → β → Prop} {xs : List α} {ys : List β} {x : α} {y : β} (hr : R x y) (h : All2 R xs ys) : All2 R (x :: xs) (y :: ys) := by
  refine ⟨by simp [h.1], fun i u v hu hv => ?_⟩
  cases i with
  | zero => simp at hu hv; subst hu; subst hv; exact hr
  | succ i => exact h.2 i u v (by simpa using hu) (by simpa using hv)
theorem ths_of : ∀ {vs : List V}, (∀ v ∈ vs, ∃ t, ThAt cx H v t) → ∃ ts, All2 (ThAt cx H) vs ts
  | [], _ => ⟨[], All2.nil⟩
  | v :: vs, h => by
    obtain ⟨t, ht⟩ := h v List.mem_cons_self
    obtain ⟨ts, hts⟩ := ths_of (vs := vs) fun u hu => h u (List.mem_cons_of_mem _ hu)
    exact ⟨t :: ts, hts.cons ht⟩
theorem made_ms {la : Addr} (hnt : NeedTSpec cx n) (hnb : NeedBSpec cx n) (h1 : HeadSp cx n) (hwo : WordOfSpec cx n)
    (R : RoomAt N rm dx ra B H) (hl : lk cx H la = some (.list vs)) (hle1 : vs.length ≤ 1000) (hts0 : ∀ v ∈ vs, (∃ t, ThAt cx H v t) ∨ BadT cx H v)
    (x1 : (∃ v ∈ vs, BadT cx H v) → Q (.exc 56) H)
    (x2 : ∀ ts, All2 (ThAt cx H) vs ts → (∃ t ∈ ts, t.1 = true ∧ t.2 ∉ plI B) → Q (.exc 68) H)
    (x3 : ∀ ts : List Th, All2 (ThAt cx H) vs (ts.map (plt B)) → (∀ t ∈ ts, OkT B t) → N < pl B B.length + 1 + ts.length → Q (.exc 92) H)
    (hQ : ∀ ts : List Th, All2 (ThAt cx H) vs (ts.map (plt B)) → (∀ t ∈ ts, OkT B t) → pl B B.length + 1 + ts.length ≤ N → ∀ ra' H', RoomAt N rm dx ra' (B ++ [ts]) H' → Fresh cx H ra' → But dx H H' → KZ cx H H' → Q (.int (pl B B.length)) H') :
    mwpSs cx n m_Room_made [.ref rm, .ref la, .unb, .unb, .unb] H (NQ Q) (RQ Q) := by
  have hlen := rowN_length R.le
  have hn4 := R.n4
  have hsh := shp_N R.le R.n4
  have hrl : (intsV (rowN N B)).length ≤ 16777216 := by rw [ints_length]; first | lia | omega
  refine S_cons ?_
  walk_at "st"
  refine ⟨trivial, hnt _ _ _ _ hl hle1 hts0 (fun hall => S_cons ?_) fun hb => RQ.here (x1 hb)⟩
  obtain ⟨tp, htp⟩ := ths_of hall
  walk_at "st"
  refine ⟨R.no fun _ _ => rfl, hnb _ _ _ _ _ _ _ _ _ _ R hl htp hle1 (fun hin => S_cons ?_) fun hb => RQ.here (x2 tp htp hb)⟩
  obtain ⟨ts, hok, rfl⟩ := unplts hin
  have hts := htp
  replace x3 := x3 ts hts hok
  replace hQ := hQ ts hts hok
  clear x1 x2 hin hall htp hts0
  have hvl := hts.1
  rw [List.length_map] at hvl
  walk_at "st"
  refine R.fil (S_cons ?_)
  walk_at "st"
  refine W_len (sq_l hl) (by first | lia | omega) ?_
  walk_at "st"
  rw [hvl, show (pl B B.length : Int) + 1 + (ts.length : Int) = ((pl B B.length + 1 + ts.length : Nat) : Int) from by first | lia | omega]
  refine S_cons ?_
  walk_at "st"
  refine R.row (W_len (sq_l (lk_of R.r)) hrl ?_)
  walk_at "st"
  rw [ints_length, hlen]
  refine ifB_of (fun q => S_cons ?_) fun q => S_nil (S_cons ?_)
  · walk_at "st"
    rw [decide_eq_true_iff] at q
    exact RQ.here (x3 (by first | lia | omega))
  rw [decide_eq_false_iff_not] at q
  have hle : pl B B.length + 1 + ts.length ≤ N := by first | lia | omega
  replace hQ := hQ hle
  clear x3
  walk_at "st"
  refine W_len (sq_l hl) (by first | lia | omega) ?_
  rw [hvl]
  refine h1 _ _ _ ⟨by simp, fun r1 hr1 => ?_⟩
  have e1 := Ext.new hr1 (.list [V.int (4 * (ts.length : Int))])
  refine W_iter (e1.lk hl) (by first | lia | omega) ⟨by first | lia | omega, fun done acc H' => acc = intsV ((ts.take done.length).map (word (pl B))) ∧ H' = upd H r1 (.list [V.int (4 * (ts.length : Int))]), ⟨rfl, rfl⟩, ?_, ?_, ?_⟩
  · rintro _ _ _ ⟨_, rfl⟩; exact e1.lk hl
  · rintro done x rest acc H' e ⟨rfl, rfl⟩
    obtain ⟨t', ht', b, rfl, hb⟩ := hts.get (i := done.length) (x := x) (by rw [e]; simp)
    rw [List.getElem?_map] at ht'
    cases ht : ts[done.length]? with
    | none => rw [ht] at ht'; cases ht'
    | some t =>
    rw [ht] at ht'; cases ht'
    walk_at "st"
    refine hwo _ _ _ _ (e1.lk hb) ⟨_, LE.refl _, ?_, rfl⟩
    rw [word_plt, List.length_append, List.length_singleton, List.take_add_one, ht, List.map_append]
    simp [intsV]
  rintro acc H' ⟨rfl, rfl⟩ r2 hr2
  rw [hvl, List.take_length]
  refine W_cat (lst_l (lk_fresh hr2 lk_same)) (lst_l lk_same) (by simp [intsV]; first | lia | omega) fun r3 hr3 => S_cons ?_
  have e3 := (e1.new' hr2 (.list (intsV (ts.map (word (pl B)))))).new' hr3 (.list ([V.int (4 * (ts.length : Int))] ++ intsV (ts.map (word (pl B)))))
  have g3 : (upd (upd (upd H r1 (.list [V.int (4 * (ts.length : Int))])) r2 (.list (intsV (ts.map (word (pl B)))))) r3 (.list ([V.int (4 * (ts.length : Int))] ++ intsV (ts.map (word (pl B)))))) r3 = some (.list (intsV (4 * (ts.length : Int) :: ts.map (word (pl B))))) := by
    rw [upd_same]; simp [intsV]
  generalize upd (upd (upd H r1 (.list [V.int (4 * (ts.length : Int))])) r2 (.list (intsV (ts.map (word (pl B)))))) r3 (.list ([V.int (4 * (ts.length : Int))] ++ intsV (ts.map (word (pl B))))) = H3 at e3 g3
  have R3 := R.ext e3.le
  walk_at "st"
  refine R3.row (W_slice (lk_of R3.r) (show cutLo _ .none = some 0 from rfl) (cutHi_nn (Int.natCast_nonneg _)) hrl fun r4 hr4 => ?_)
  rw [cut_ints, ints_length, hlen, Int.toNat_natCast, List.drop_zero, Nat.min_eq_left (show pl B B.length ≤ N by first | lia | omega)]
  have e4 := e3.new' hr4 (.list (intsV ((rowN N B).take (pl B B.length))))
  refine W_cat (lst_l lk_same) (lst_l (lk_fresh hr4 (lk_of g3))) (by simp [intsV]; first | lia | omega) fun r5 hr5 => ?_
  rw [ints_append]
  have e5 := e4.new' hr5 (.list (intsV ((rowN N B).take (pl B B.length) ++ (4 * (ts.length : Int) :: ts.map (word (pl B))))))
  have g5 : lk cx (upd (upd H3 r4 (.list (intsV ((rowN N B).take (pl B B.length))))) r5 (.list (intsV ((rowN N B).take (pl B B.length) ++ (4 * (ts.length : Int) :: ts.map (word (pl B))))))) r5 = some (.list (intsV ((rowN N B).take (pl B B.length) ++ (4 * (ts.length : Int) :: ts.map (word (pl B)))))) := lk_same
  generalize upd (upd H3 r4 (.list (intsV ((rowN N B).take (pl B B.length))))) r5 (.list (intsV ((rowN N B).take (pl B B.length) ++ (4 * (ts.length : Int) :: ts.map (word (pl B)))))) = H5 at e5 g5
  have R5 := R.ext e5.le
  refine R5.row (W_slice (lk_of R5.r) (cutLo_nn (Int.natCast_nonneg _)) (show cutHi _ .none = some _ from rfl) hrl fun r6 hr6 => ?_)
  rw [cut_ints, ints_length, hlen, Int.toNat_natCast, Nat.min_eq_left hle, List.take_of_length_le (show (rowN N B).length ≤ N by first | lia | omega)]
  have e6 := e5.new' hr6 (.list (intsV ((rowN N B).drop (pl B B.length + 1 + ts.length))))
  refine W_cat (lst_l (lk_fresh hr6 g5)) (lst_l lk_same) (by simp [intsV]; first | lia | omega) fun r7 hr7 => ?_
  rw [ints_append, rowN_app (N := N) R.w hle hok]
  have e7 := e6.new' hr7 (.list (intsV (rowN N (B ++ [ts]))))
  have g7 : (upd (upd H5 r6 (.list (intsV ((rowN N B).drop (pl B B.length + 1 + ts.length))))) r7 (.list (intsV (rowN N (B ++ [ts]))))) r7 = some (.list (intsV (rowN N (B ++ [ts])))) := upd_same _ _ _
  have hdr : dx ≠ r7 := hr7.ne' (e6.le _ _ R.d)
  generalize upd (upd H5 r6 (.list (intsV ((rowN N B).drop (pl B B.length + 1 + ts.length))))) r7 (.list (intsV (rowN N (B ++ [ts])))) = H7 at e7 g7
  have R7 := R.ext e7.le
  refine W_setAttr R7.i R7.d (show 2 < 100 by decide) (S_cons ?_)
  walk_at "st"
  refine W_setAttr (by rw [upd_ne _ R7.nrd]; exact R7.i) (upd_same _ _ _) (show 2 < 100 by decide) (S_cons ?_)
  walk_at "st"
  rw [upd_upd]
  refine RQ.here (hQ r7 _ ⟨?_, ?_, ?_, R.n4, by rw [pl_app_len]; exact hle, wfb_app R.w hok⟩ (e6.fresh hr7) (fun a o ha e => by rw [upd_ne _ ha]; exact e7.le _ _ e) (KZ.upd e7.z R7.d))
  · rw [upd_ne _ R7.nrd]; exact R7.i
  · rw [upd_same, pl_app_len]; rfl
  · rw [upd_ne _ (Ne.symm hdr)]; exact g7
noncomputable def MadeSpec (cx : Cx) (n : Nat) : Prop := ∀ (N : Nat) (rm dx ra la : Addr) (B : Bx) (vs : List V) (H : HP) (Q : V → HP → Prop), RoomAt N rm dx ra B H → lk cx H la = some (.list vs) → vs.length ≤ 1000 → (∀ v ∈ vs, (∃ t, ThAt cx H v t) ∨ BadT cx H v) →
  ((∃ v ∈ vs, BadT cx H v) → Q (.exc 56) H) → (∀ ts, All2 (ThAt cx H) vs ts → (∃ t ∈ ts, t.1 = true ∧ t.2 ∉ plI B) → Q (.exc 68) H) →
  (∀ ts : List Th, All2 (ThAt cx H) vs (ts.map (plt B)) → (∀ t ∈ ts, OkT B t) → N < pl B B.length + 1 + ts.length → Q (.exc 92) H) →
  (∀ ts : List Th, All2 (ThAt cx H) vs (ts.map (plt B)) → (∀ t ∈ ts, OkT B t) → pl B B.length + 1 + ts.length ≤ N → ∀ ra' H', RoomAt N rm dx ra' (B ++ [ts]) H' → Fresh cx H ra' → But dx H H' → KZ cx H H' → Q (.int (pl B B.length)) H') → CallX cx n 197 [.ref rm, .ref la] H Q
noncomputable def Sized (u w : V) : Prop := ∃ N d : Nat, u = .int N ∧ w = .int d ∧ d ≤ 20 ∧ d + 1 ≤ N ∧ N ≤ 400
theorem init_ms {u w : V} (hw : WholeSp cx n) (h1 : HeadSp cx n) (hi : H rm = some (.inst 249 dx)) (hdx : H dx = some (.flds [])) (hu : Kn H u) (hw' : Kn H w)
    (hX : ¬ Sized u w → Q (.exc 44) H)
    (hQ : ∀ N d : Nat, u = .int N → w = .int d → d ≤ 20 → d + 1 ≤ N → N ≤ 400 → ∀ ra H', RoomAt N rm dx ra [List.replicate d (false, 0)] H' → Fresh cx H ra → But dx H H' → KZ cx H H' → Q .none H') :
    mwpSs cx n m_Room_init [.ref rm, u, w] H (NQ Q) (RQ Q) := by
  have nrd : rm ≠ dx := fun e => by rw [e, hdx] at hi; cases hi
  have uu : u ≠ .unb := by rintro rfl; exact hu
  have uw : w ≠ .unb := by rintro rfl; exact hw'
  refine S_cons ?_
  walk_at "st"
  have bad : ∀ x, ¬ Sized u w → ∀ N' : List V → HP → Prop, mwpSs cx n (.cons (.raiseS 44 (.cstr x)) .nil) [.ref rm, u, w] H N' (RQ Q) := fun x q N' => by
    refine S_cons ?_
    walk_at "st"
    exact RQ.here (hX q)
  refine onL_of uu (hw _ _ _ hu ?_)
  cases eu : isI u with
  | false =>
    walk_at "st"
    exact bad _ (by rintro ⟨N, d, rfl, _⟩; cases eu) _
  | true =>
    walk_at "st"
    refine onL_of uw (hw _ _ _ hw' ?_)
    cases ew : isI w with
    | false =>
      walk_at "st"
      exact bad _ (by rintro ⟨N, d, _, rfl, _⟩; cases ew) _
    | true =>
      cases u with
      | int s => cases w with
        | int d =>
          walk_at "st"
          refine S_nil (S_cons ?_)
          walk_at "st"
          by_cases hs : (1 ≤ s ∧ s ≤ 400) ∧ (0 ≤ d ∧ d ≤ 20) ∧ ¬ s < d + 1
          case neg =>
            have hbad : ¬ Sized (.int s) (.int d) := by
              rintro ⟨N, e, h1, h2, h3, h4, h5⟩
              cases h1; cases h2
              exact hs ⟨⟨by first | lia | omega, by first | lia | omega⟩, ⟨by first | lia | omega, by first | lia | omega⟩, by first | lia | omega⟩
            refine ifB_of (fun q1 => ifB_of (fun q2 => bad _ hbad _) fun q2 => ifB_of (fun q3 => ifB_of (fun q4 => bad _ hbad _) fun q4 => ifB_of (fun q5 => bad _ hbad _) fun q5 => (hs ?_).elim) fun q3 => bad _ hbad _) fun q1 => bad _ hbad _
            simp only [Bool.not_eq_false', decide_eq_true_iff, decide_eq_false_iff_not] at q1 q2 q3 q4 q5
            exact ⟨⟨q1, q2⟩, ⟨q3, q4⟩, q5⟩
          obtain ⟨⟨s1, s2⟩, ⟨d1, d2⟩, sd⟩ := hs
          obtain ⟨N, rfl⟩ := Int.eq_ofNat_of_zero_le (show 0 ≤ s by first | lia | omega)
          obtain ⟨d, rfl⟩ := Int.eq_ofNat_of_zero_le d1
          refine ifB_t' (decide_eq_true s1) (ifB_f' (by rw [decide_eq_true s2]; rfl) (ifB_t' (decide_eq_true d1) (ifB_f' (by rw [decide_eq_true d2]; rfl) (ifB_f' (decide_eq_false sd) (S_nil (S_cons ?_))))))
          have hN : d + 1 ≤ N := by first | lia | omega
          walk_at "st"
          refine h1 _ _ _ ⟨by simp, fun r1 hr1 => ⟨by simp, fun r2 hr2 => W_rep (lst_l lk_same) (by first | lia | omega) (by first | lia | omega) (by simp; first | lia | omega) fun r3 hr3 => ?_⟩⟩
          rw [rep_zero, show ((N : Int) - 1).toNat = N - 1 from by first | lia | omega]
          refine W_cat (lst_l (lk_fresh hr3 (lk_fresh hr2 lk_same))) (lst_l lk_same) (by simp [intsV]; first | lia | omega) fun r4 hr4 => ?_
          have x3 := ((Ext.new hr1 (.list [V.int (4 * (d : Int))])).new' hr2 (.list [V.int 0])).new' hr3 (.list (intsV (List.replicate (N - 1) 0)))
          have x4 := x3.new' hr4 (.list ([V.int (4 * (d : Int))] ++ intsV (List.replicate (N - 1) 0)))
          have hd4 : dx ≠ r4 := hr4.ne' (x3.le _ _ hdx)
          have e4 : (upd (upd (upd (upd H r1 (.list [V.int (4 * (d : Int))])) r2 (.list [V.int 0])) r3 (.list (intsV (List.replicate (N - 1) 0)))) r4 (.list ([V.int (4 * (d : Int))] ++ intsV (List.replicate (N - 1) 0)))) r4 = some (.list (intsV (rowN N [List.replicate d (false, 0)]))) := by
            rw [upd_same, ← rowN_room hN]; rfl
          have f4 := x3.fresh hr4
          generalize upd (upd (upd (upd H r1 (.list [V.int (4 * (d : Int))])) r2 (.list [V.int 0])) r3 (.list (intsV (List.replicate (N - 1) 0)))) r4 (.list ([V.int (4 * (d : Int))] ++ intsV (List.replicate (N - 1) 0))) = H4 at x4 e4
          refine W_setAttr (x4.le _ _ hi) (x4.le _ _ hdx) (show 0 < 100 by decide) (S_cons ?_)
          walk_at "st"
          refine W_setAttr (by rw [upd_ne _ nrd]; exact x4.le _ _ hi) (upd_same _ _ _) (show 1 < 100 by decide) (S_nil ⟨_, LE.refl _, ?_⟩)
          rw [upd_upd]
          refine hQ N d rfl rfl (by first | lia | omega) hN (by first | lia | omega) r4 _ ⟨?_, ?_, ?_, by first | lia | omega, by rw [List.length_singleton, pl_room]; exact hN, wfb_room d⟩ f4 (fun a o ha e => by rw [upd_ne _ ha]; exact x4.le _ _ e) (KZ.upd x4.z (x4.le _ _ hdx))
          · rw [upd_ne _ nrd]; exact x4.le _ _ hi
          · rw [upd_same, List.length_singleton, pl_room]; rfl
          · rw [upd_ne _ (Ne.symm hd4)]; exact e4
        | _ => cases ew
      | _ => cases eu
noncomputable def InitSpec (cx : Cx) (n : Nat) : Prop := ∀ (rm dx : Addr) (u w : V) (H : HP) (Q : V → HP → Prop), H rm = some (.inst 249 dx) → H dx = some (.flds []) → Kn H u → Kn H w → (¬ Sized u w → Q (.exc 44) H) →
  (∀ N d : Nat, u = .int N → w = .int d → d ≤ 20 → d + 1 ≤ N → N ≤ 400 → ∀ ra H', RoomAt N rm dx ra [List.replicate d (false, 0)] H' → Fresh cx H ra → But dx H H' → KZ cx H H' → Q .none H') → CallX cx n 178 [.ref rm, u, w] H Q
end
end Mine
end

section
namespace Mine
open PySem PyProof.Rows
section
variable {cx : Cx} {rm dx ra : Addr} {N : Nat} {B : Bx} {H H' H1 : HP} {n : Nat} {a b r : Addr} {Q : V → HP → Prop} {v u w : V} {vs : List V}
theorem onEx_of {o : Option O} {C : Addr} {k : Addr → Prop} (h : o = some (.exo C)) (q : k C) : onEx o k := by subst h; exact q
noncomputable def m_law_class : MSs :=
  (.cons (.assign 2 (.bin .Add (.bin .Add (.callb .int (.cons (.isx (.loc 0) 44 false) .nil)) (.callb .int (.cons (.isx (.loc 0) 56 false) .nil))) (.callb .int (.cons (.isx (.loc 0) 68 false) .nil))))
  (.cons (.assign 2 (.bin .Add (.bin .Add (.loc 2) (.callb .int (.cons (.isx (.loc 0) 80 false) .nil))) (.callb .int (.cons (.isx (.loc 0) 92 false) .nil))))
  (.cons (.ite (.bop .And (.cons (.cmp (.loc 2) .Eq (.cint (1))) (.cons (.isx (.loc 0) 31 true) (.cons (.isi (.loc 0) "ValueError") .nil)))) (.cons (.ret (.loc 1))
    .nil) .nil)
  (.cons (.ret (.cstr (Str.ofString "another base")))
  .nil))))
noncomputable def m_law_number : MSs :=
  (.cons (.ret (.bop .And (.cons (.isi (.loc 0) "int") (.cons (.cmp (.loc 0) .IsNot (.cbool true)) (.cons (.cmp (.loc 0) .IsNot (.cbool false)) (.cons (.cmp2 (.bin .Sub (.cint (0)) (.bin .Pow (.cint (10)) (.cint (60)))) .Lt (.loc 0) .Lt (.bin .Pow (.cint (10)) (.cint (60)))) .nil))))))
  .nil)
noncomputable def m_law_sized : MSs :=
  (.cons (.ite (.bop .Or (.cons (.not (.callf 286 (.cons (.loc 0) .nil))) (.cons (.not (.callf 286 (.cons (.loc 1) .nil))) .nil))) (.cons (.ret (.cbool false))
    .nil) .nil)
  (.cons (.ret (.bop .And (.cons (.cmp2 (.cint (1)) .LtE (.loc 0) .LtE (.cint (400))) (.cons (.cmp2 (.cint (0)) .LtE (.loc 1) .LtE (.cint (20))) (.cons (.cmp (.loc 1) .Lt (.loc 0)) .nil)))))
  .nil))
noncomputable def m_law_new : MSs :=
  (.cons (.try_ (.cons (.xdo (some 2) (.mk 249 178) (.cons (.loc 0) (.cons (.loc 1) .nil)))
    .nil) (.cons 44 3 (.callq 279 (.cons (.loc 3) (.cons (.cstr (Str.ofString "size")) .nil))) .nil))
  (.cons (.assign 4 (.bin .Add (.list (.cons (.bin .Mult (.cint (4)) (.loc 1)) .nil)) (.bin .Mult (.list (.cons (.cint (0)) .nil)) (.bin .Sub (.loc 0) (.cint (1))))))
  (.cons (.ret (.bin .Mult (.cstr (Str.ofString "made")) (.callb .int (.cons (.bop .And (.cons (.callf 272 (.cons (.callm 249 (Str.ofString "cells") 246 2 .nil) (.cons (.loc 4) .nil))) (.cons (.cmp (.callm 249 (Str.ofString "used") 239 2 .nil) .Eq (.bin .Add (.cint (1)) (.loc 1))) .nil))) .nil))))
  .nil)))
theorem class_ms {e C : Addr} {x : Str} (hx : cx.exs = [44, 56, 68, 80, 92]) (he : H e = some (.exo C)) (hC : C ∈ cx.exs) (h : Q (.str x) H) : mwpSs cx n m_law_class [.ref e, .str x, .unb] H (NQ Q) (RQ Q) := by
  refine S_cons ?_
  walk_at "st"
  refine onEx_of he ⟨hC, ?_⟩
  walk_at "st"
  refine onEx_of he ⟨hC, ?_⟩
  walk_at "st"
  refine onEx_of he ⟨hC, ?_⟩
  walk_at "st"
  refine S_cons ?_
  walk_at "st"
  refine onEx_of he ⟨hC, ?_⟩
  walk_at "st"
  refine onEx_of he ⟨hC, ?_⟩
  walk_at "st"
  refine S_cons ?_
  walk_at "st"
  have key : ((((if (false || C == 44) = true then (1 : Int) else 0) + (if (false || C == 56) = true then 1 else 0) + (if (false || C == 68) = true then 1 else 0)) + (if (false || C == 80) = true then 1 else 0)) + (if (false || C == 92) = true then 1 else 0)) = 1 := by
    rw [hx] at hC
    simp only [List.mem_cons, List.not_mem_nil, or_false] at hC
    rcases hC with rfl | rfl | rfl | rfl | rfl <;> rfl
  refine ifB_t' (by rw [eqv_int, key]; rfl) ?_
  refine onEx_of he ⟨hC, ?_⟩
  walk_at "st"
  refine ifB_t' rfl (onO_of (show isiP cx H (.ref e) "ValueError" = some true from ?_) ?_)
  · unfold isiP
    simp only [he]
    simp [hC]
  · refine S_cons ?_
    walk_at "st"
    exact RQ.here h
noncomputable def ClassSpec (cx : Cx) (n : Nat) : Prop := ∀ (e C : Addr) (x : Str) (H : HP) (Q : V → HP → Prop), H e = some (.exo C) → C ∈ cx.exs → Q (.str x) H → CallQ cx n 279 [.ref e, .str x] H Q
noncomputable def numB (v : V) : Bool := match v with
  | .int i => decide (-(10 : Int) ^ 60 < i) && decide (i < (10 : Int) ^ 60)
  | _ => false
theorem number_ms (hk : Kn H v) (h : Q (.bool (numB v)) H) : mwpSs cx n m_law_number [v] H (NQ Q) (RQ Q) := by
  refine S_cons ?_
  cases v with
  | none =>
    walk_at "st"
    exact onO_of (show isiP cx H .none "int" = some false from rfl) (RQ.here h)
  | bool b =>
    walk_at "st"
    refine onO_of (show isiP cx H (.bool b) "int" = some true from rfl) ?_
    cases b
    · walk_at "st"
      exact RQ.here h
    · walk_at "st"
      exact RQ.here h
  | int i =>
    walk_at "st"
    refine onO_of (show isiP cx H (.int i) "int" = some true from rfl) ?_
    walk_at "st"
    refine ⟨by decide, by decide, ?_⟩
    dsimp only [numB] at h
    have e : (0 : Int) - 10 ^ Int.toNat 60 = -(10 : Int) ^ 60 := by decide
    rw [e]
    refine ifB_of (fun q => ⟨by decide, by decide, RQ.here ?_⟩) fun q => RQ.here ?_
    · rw [q] at h
      exact h
    · rw [q] at h
      exact h
  | str x =>
    walk_at "st"
    exact onO_of (show isiP cx H (.str x) "int" = some false from rfl) (RQ.here h)
  | ref a =>
    walk_at "st"
    rcases hk with ⟨vs, q⟩ | ⟨vs, q⟩
    · exact onO_of (isi_li q) (RQ.here h)
    · exact onO_of (isi_ti q) (RQ.here h)
  | _ => exact hk.elim
noncomputable def NumSp (cx : Cx) (n : Nat) : Prop := ∀ (v : V) (H : HP) (Q : V → HP → Prop), Kn H v → Q (.bool (numB v)) H → CallP cx n 286 [v] H Q
theorem sized_ms (hn : NumSp cx n) (hu : Kn H u) (hw : Kn H w) (h : ∀ b, (b = true ↔ Sized u w) → Q (.bool b) H) : mwpSs cx n m_law_sized [u, w] H (NQ Q) (RQ Q) := by
  have uu : u ≠ .unb := by rintro rfl; exact hu
  have uw : w ≠ .unb := by rintro rfl; exact hw
  have nb : ∀ N : Nat, N ≤ 400 → numB (.int N) = true := fun N hN => by
    dsimp only [numB]
    rw [decide_eq_true (show -(10 : Int) ^ 60 < N by omega), decide_eq_true (show (N : Int) < (10 : Int) ^ 60 by omega)]; rfl
  have bad : ¬ Sized u w → mwpSs cx n (.cons (.ret (.cbool false)) .nil) [u, w] H (fun μ H => mwpSs cx n (.cons (.ret (.bop .And (.cons (.cmp2 (.cint (1)) .LtE (.loc 0) .LtE (.cint (400))) (.cons (.cmp2 (.cint (0)) .LtE (.loc 1) .LtE (.cint (20))) (.cons (.cmp (.loc 1) .Lt (.loc 0)) .nil))))) .nil) μ H (NQ Q) (RQ Q)) (RQ Q) := fun q => by
    refine S_cons ?_
    walk_at "st"
    exact RQ.here (h false ⟨(fun z => by cases z), fun q2 => (q q2).elim⟩)
  refine S_cons ?_
  walk_at "st"
  refine onL_of uu (hn _ _ _ hu ?_)
  walk_at "st"
  refine ifB_of (fun q => bad ?_) fun q => onL_of uw (hn _ _ _ hw ?_)
  · rintro ⟨N, d, rfl, rfl, h1, h2, h3⟩
    rw [nb N h3] at q; cases q
  walk_at "st"
  refine ifB_of (fun q2 => bad ?_) fun q2 => S_nil (S_cons ?_)
  · rintro ⟨N, d, rfl, rfl, h1, h2, h3⟩
    rw [nb d (by first | lia | omega)] at q2; cases q2
  cases u with
  | int s => cases w with
    | int d =>
      walk_at "st"
      have hS : Sized (.int s) (.int d) ↔ (1 ≤ s ∧ s ≤ 400) ∧ (0 ≤ d ∧ d ≤ 20) ∧ d < s := by
        constructor
        · rintro ⟨N, e, h1, h2, h3, h4, h5⟩
          cases h1; cases h2
          exact ⟨⟨by first | lia | omega, by first | lia | omega⟩, ⟨by first | lia | omega, by first | lia | omega⟩, by first | lia | omega⟩
        · rintro ⟨⟨h1, h2⟩, ⟨h3, h4⟩, h5⟩
          exact ⟨s.toNat, d.toNat, by rw [Int.toNat_of_nonneg (by first | lia | omega)], by rw [Int.toNat_of_nonneg h3], by first | lia | omega, by first | lia | omega, by first | lia | omega⟩
      have no : ∀ {p : Prop} [Decidable p], decide p = false → ((1 ≤ s ∧ s ≤ 400) ∧ (0 ≤ d ∧ d ≤ 20) ∧ d < s → p) → RQ Q (.bool false) H := fun q q2 => RQ.here (h false ⟨(fun z => by cases z), fun q3 => absurd (q2 (hS.mp q3)) (decide_eq_false_iff_not.mp q)⟩)
      refine ifB_of (fun q1 => ifB_of (fun q2 => ifB_of (fun q3 => ifB_of (fun q4 => RQ.here (h _ ?_)) fun q4 => no q4 fun x => x.2.1.2) fun q3 => no q3 fun x => x.2.1.1) fun q2 => no q2 fun x => x.1.2) fun q1 => no q1 fun x => x.1.1
      rw [decide_eq_true_iff] at q1 q2 q3 q4
      rw [decide_eq_true_iff, hS]
      exact ⟨fun q => ⟨⟨q1, q2⟩, ⟨q3, q4⟩, q⟩, fun q => q.2.2⟩
    | _ => cases q2
  | _ => cases q
noncomputable def SizedSpec (cx : Cx) (n : Nat) : Prop := ∀ (u w : V) (H : HP) (Q : V → HP → Prop), Kn H u → Kn H w → (∀ b, (b = true ↔ Sized u w) → Q (.bool b) H) → CallP cx n 293 [u, w] H Q
theorem new_ms (hn : 0 < n) (hcl : ClassSpec cx n) (hin : InitSpec cx (n - 1)) (hce : CellsSpec cx n) (hus : UsedSpec cx n) (hwd : WordsSpec cx n) (hx : cx.exs = [44, 56, 68, 80, 92]) (hu : Kn H u) (hw : Kn H w)
    (h1 : ¬ Sized u w → Q (.str (Str.ofString "size")) H) (h2 : Sized u w → Q (.str (Str.ofString "made")) H) : mwpSs cx n m_law_new [u, w, .unb, .unb, .unb] H (NQ Q) (RQ Q) := by
  have uu : u ≠ .unb := by rintro rfl; exact hu
  have uw : w ≠ .unb := by rintro rfl; exact hw
  refine S_cons ?_
  walk_at "st"
  refine S_cons ?_
  walk_at "st"
  refine ⟨trivial, onL_of uu (onL_of uw ⟨hn, fun dx hdx x hx' => ?_⟩)⟩
  have e1 := Ext.new hdx (.flds [])
  have e2 := e1.new' hx' (.inst 249 dx)
  have ndx : dx ≠ x := hx'.ne' (upd_same _ _ _)
  refine hin x dx u w _ _ (upd_same _ _ _) (by rw [upd_ne _ ndx]; exact upd_same _ _ _) (hu.ext e2.le) (hw.ext e2.le) (fun q => ?_) fun N d ew ed hd hN hN4 ra H' R hra hb hz => ?_
  · walk_at "st"
    refine ⟨fun _ e he μ hμ => ?_, fun q => absurd rfl q⟩
    have g : getL (setL μ 3 (.ref e)) 3 = .ref e := getL_setL_same _ _ _ (by rw [hμ]; show 3 < 5; decide)
    show onL (getL (setL μ 3 (.ref e)) 3) _
    rw [g]
    walk_at "st"
    exact hcl _ _ _ _ _ (upd_same _ _ _) (by rw [hx]; simp) ⟨H, (e2.new' he _).le, h1 q⟩
  · refine ⟨rfl, ?_⟩
    walk_at "st"
    refine S_nil (S_cons ?_)
    subst ew; subst ed
    have leH : LE H H' := fun a o q => hb a o (fun z => by subst z; rw [hdx.1] at q; cases q) (e2.le _ _ q)
    walk_at "st"
    refine ⟨mulOk_l (by decide), by simp, fun r1 hr1 => ⟨by simp, fun r2 hr2 => W_rep (lst_l lk_same) (by first | lia | omega) (by first | lia | omega) (by simp; first | lia | omega) fun r3 hr3 => ?_⟩⟩
    rw [rep_zero, show ((N : Int) - 1).toNat = N - 1 from by first | lia | omega]
    refine W_cat (lst_l (lk_fresh hr3 (lk_fresh hr2 lk_same))) (lst_l lk_same) (by simp [intsV]; first | lia | omega) fun r4 hr4 => S_cons ?_
    have x4 := (((Ext.new hr1 (.list [V.int (4 * (d : Int))])).new' hr2 (.list [V.int 0])).new' hr3 (.list (intsV (List.replicate (N - 1) 0)))).new' hr4 (.list ([V.int (4 * (d : Int))] ++ intsV (List.replicate (N - 1) 0)))
    have e4 : (upd (upd (upd (upd H' r1 (.list [V.int (4 * (d : Int))])) r2 (.list [V.int 0])) r3 (.list (intsV (List.replicate (N - 1) 0)))) r4 (.list ([V.int (4 * (d : Int))] ++ intsV (List.replicate (N - 1) 0)))) r4 = some (.list (intsV (rowN N [List.replicate d (false, 0)]))) := by
      rw [upd_same, ← rowN_room hN]; rfl
    generalize upd (upd (upd (upd H' r1 (.list [V.int (4 * (d : Int))])) r2 (.list [V.int 0])) r3 (.list (intsV (List.replicate (N - 1) 0)))) r4 (.list ([V.int (4 * (d : Int))] ++ intsV (List.replicate (N - 1) 0))) = H4 at x4 e4
    have R4 := R.ext x4.le
    walk_at "st"
    refine ⟨R4.no fun _ _ => rfl, hce _ _ _ _ _ _ _ R4 fun rc H5 x5 _ hrc => ?_⟩
    walk_at "st"
    refine hwd _ _ _ _ _ hrc (x5.lk (lk_of e4)) (by rw [rowN_length R.le]; first | lia | omega) ?_
    walk_at "st"
    refine ⟨(R4.ext x5.le).no fun _ _ => rfl, hus _ _ _ _ _ _ _ (R4.ext x5.le) ?_⟩
    walk_at "st"
    rw [eqv_int, List.length_singleton, pl_room, show (((d + 1 : Nat) : Int) == 1 + (d : Int)) = true by rw [beq_iff_eq]; first | lia | omega]
    refine ⟨.inr rfl, ⟨H, fun a o q => x5.le _ _ (x4.le _ _ (leH a o q)), ?_⟩⟩
    exact h2 ⟨N, d, rfl, rfl, hd, hN, hN4⟩
noncomputable def NewSpec (cx : Cx) (n : Nat) : Prop := ∀ (u w : V) (H : HP) (Q : V → HP → Prop), Kn H u → Kn H w → (¬ Sized u w → Q (.str (Str.ofString "size")) H) → (Sized u w → Q (.str (Str.ofString "made")) H) → CallP cx n 300 [u, w] H Q
end
end Mine
end

section
namespace Mine
open PySem PyProof.Rows
noncomputable def Sh (d : PyData) : Prop := d.showable = true ∧ d.leavesShort 100 = true ∧ d.weight ≤ 1000
theorem Sh.of {d : PyData} (h : (d.showable && (d.leavesShort 100 && decide (d.weight ≤ 1000))) = true) : Sh d := by
  simp only [Bool.and_eq_true, decide_eq_true_iff] at h
  exact h
section
variable {cx : Cx} {H H' : HP} {n : Nat} {a b r : Addr} {o : O} {Q : V → HP → Prop} {v u w : V} {vs : List V}
theorem new_abs (h : ∀ r H', Ext cx H H' → Fresh cx H r → H' r = some o → Q (.ref r) H') : new cx H o Q := fun r hr => h r _ (Ext.new hr o) hr (upd_same _ _ _)
theorem rdV_ext (x : Ext cx H H') : ∀ (m : Nat) (v : V) (d : PyData), rdV cx H m v = some d → rdV cx H' m v = some d
  | 0, _, _, h => h
  | m + 1, v, d, h => by
    have all : ∀ (vs : List V) (ds : List PyData), vs.mapM (rdV cx H m) = some ds → vs.mapM (rdV cx H' m) = some ds := by
      intro vs
      induction vs with
      | nil => exact fun _ h => h
      | cons v vs ih =>
        intro ds h
        simp only [List.mapM_cons, Option.pure_def, Option.bind_eq_bind, Option.bind_eq_some_iff] at h ⊢
        obtain ⟨d, h1, es, h2, h3⟩ := h
        exact ⟨d, rdV_ext x m v d h1, es, ih es h2, h3⟩
    cases v with
    | ref a =>
      have h : (match lk cx H a with | some (.list vs) => (vs.mapM (rdV cx H m)).map PyData.list | some (.tup vs) => (vs.mapM (rdV cx H m)).map PyData.tuple | _ => none) = some d := h
      show (match lk cx H' a with | some (.list vs) => (vs.mapM (rdV cx H' m)).map PyData.list | some (.tup vs) => (vs.mapM (rdV cx H' m)).map PyData.tuple | _ => none) = some d
      cases e : lk cx H a with
      | none => rw [e] at h; cases h
      | some o =>
        rw [e] at h
        rw [x.lk e]
        cases o with
        | list vs =>
          obtain ⟨ds, h1, rfl⟩ := Option.map_eq_some_iff.mp h
          dsimp only
          rw [all vs ds h1]; rfl
        | tup vs =>
          obtain ⟨ds, h1, rfl⟩ := Option.map_eq_some_iff.mp h
          dsimp only
          rw [all vs ds h1]; rfl
        | _ => cases h
    | _ => exact h
noncomputable def Show (cx : Cx) (H : HP) (v : V) : Prop := ∃ d, rdV cx H 3 v = some d ∧ Sh d
theorem Show.ext (x : Ext cx H H') (h : Show cx H v) : Show cx H' v := let ⟨d, h1, h2⟩ := h; ⟨d, rdV_ext x 3 v d h1, h2⟩
theorem rd_tup {m : Nat} (h : lk cx H a = some (.tup vs)) : rdV cx H (m + 1) (.ref a) = (vs.mapM (rdV cx H m)).map .tuple := by
  show (match lk cx H a with | some (.list vs) => (vs.mapM (rdV cx H m)).map PyData.list | some (.tup vs) => (vs.mapM (rdV cx H m)).map PyData.tuple | _ => none) = _
  rw [h]
theorem rd_list {m : Nat} (h : lk cx H a = some (.list vs)) : rdV cx H (m + 1) (.ref a) = (vs.mapM (rdV cx H m)).map .list := by
  show (match lk cx H a with | some (.list vs) => (vs.mapM (rdV cx H m)).map PyData.list | some (.tup vs) => (vs.mapM (rdV cx H m)).map PyData.tuple | _ => none) = _
  rw [h]
theorem mapM_cons' {m : Nat} {d : PyData} {ds : List PyData} (h1 : rdV cx H m v = some d) (h2 : vs.mapM (rdV cx H m) = some ds) : (v :: vs).mapM (rdV cx H m) = some (d :: ds) := by
  rw [List.mapM_cons, h1, h2]; rfl
theorem Show.tup {ds : List PyData} (h : H a = some (.tup vs)) (h2 : vs.mapM (rdV cx H 2) = some ds) (h3 : (PyData.showable (.tuple ds) && (PyData.leavesShort 100 (.tuple ds) && decide (PyData.weight (.tuple ds) ≤ 1000))) = true) : Show cx H (.ref a) :=
  ⟨.tuple ds, by rw [rd_tup (lk_of h), h2]; rfl, Sh.of h3⟩
theorem Show.list {ds : List PyData} (h : H a = some (.list vs)) (h2 : vs.mapM (rdV cx H 2) = some ds) (h3 : (PyData.showable (.list ds) && (PyData.leavesShort 100 (.list ds) && decide (PyData.weight (.list ds) ≤ 1000))) = true) : Show cx H (.ref a) :=
  ⟨.list ds, by rw [rd_list (lk_of h), h2]; rfl, Sh.of h3⟩
noncomputable def goodT (k : Nat) : Th := match k with
  | 0 => (false, 5)
  | 1 => (false, 10 ^ 60 - 1)
  | 2 => (false, 1 - 10 ^ 60)
  | 3 => (true, 0)
  | 4 => (true, 3)
  | 5 => (true, 1)
  | 6 => (true, 6)
  | 7 => (true, -1)
  | _ => (true, 12)
noncomputable def Pick (cx : Cx) (H : HP) (k : Nat) (v : V) : Prop := (k < 9 → ThAt cx H v (goodT k)) ∧ (9 ≤ k → BadT cx H v) ∧ Show cx H v
theorem Pick.ext (x : Ext cx H H') {k : Nat} (h : Pick cx H k v) : Pick cx H' k v := ⟨fun q => (h.1 q).ext x, fun q => (h.2.1 q).ext x.le, h.2.2.ext x⟩
noncomputable def PickAll (cx : Cx) (H : HP) : Nat → List V → Prop
  | _, [] => True
  | k, v :: vs => Pick cx H k v ∧ PickAll cx H (k + 1) vs
theorem PickAll.get : ∀ {vs : List V} {k i : Nat} {v : V}, PickAll cx H k vs → vs[i]? = some v → Pick cx H (k + i) v
  | [], _, _, _, _, q => by simp at q
  | u :: vs, k, 0, v, h, q => by simp at q; subst q; exact h.1
  | u :: vs, k, i + 1, v, h, q => by
    have := PickAll.get h.2 (i := i) (v := v) (by simpa using q)
    rw [show k + 1 + i = k + (i + 1) by omega] at this; exact this
theorem pk_good {k : Nat} {t : Th} (hk : k < 9) (e : goodT k = t) (h : H a = some (.tup (thV t))) (hs : Show cx H (.ref a)) : Pick cx H k (.ref a) := ⟨fun _ => ⟨a, rfl, by rw [e]; exact lk_of h⟩, fun q => absurd q (by omega), hs⟩
theorem pk_bad {k : Nat} (hk : 9 ≤ k) (h : BadT cx H v) (hs : Show cx H v) : Pick cx H k v := ⟨fun q => absurd q (by omega), fun _ => h, hs⟩
theorem s_number (m : Nat) : rdV cx H (m + 1) (.str (Str.ofString "number")) = some (.str (Str.ofString "number")) := rd_str ok_number m
theorem s_box (m : Nat) : rdV cx H (m + 1) (.str (Str.ofString "box")) = some (.str (Str.ofString "box")) := rd_str ok_box m
noncomputable def m_law_things : MSs :=
  (.cons (.assign 0 (.list (.cons (.tup (.cons (.cstr (Str.ofString "number")) (.cons (.cint (5)) .nil))) (.cons (.tup (.cons (.cstr (Str.ofString "number")) (.cons (.bin .Sub (.bin .Pow (.cint (10)) (.cint (60))) (.cint (1))) .nil))) (.cons (.tup (.cons (.cstr (Str.ofString "number")) (.cons (.bin .Sub (.cint (1)) (.bin .Pow (.cint (10)) (.cint (60)))) .nil))) (.cons (.tup (.cons (.cstr (Str.ofString "box")) (.cons (.cint (0)) .nil))) (.cons (.tup (.cons (.cstr (Str.ofString "box")) (.cons (.cint (3)) .nil))) (.cons (.tup (.cons (.cstr (Str.ofString "box")) (.cons (.cint (1)) .nil))) .nil))))))))
  (.cons (.assign 0 (.bin .Add (.loc 0) (.list (.cons (.tup (.cons (.cstr (Str.ofString "box")) (.cons (.cint (6)) .nil))) (.cons (.tup (.cons (.cstr (Str.ofString "box")) (.cons (.neg (.cint (1))) .nil))) (.cons (.tup (.cons (.cstr (Str.ofString "box")) (.cons (.cint (12)) .nil))) (.cons (.tup (.cons (.cstr (Str.ofString "number")) (.cons (.cbool true) .nil))) (.cons (.tup (.cons (.cstr (Str.ofString "number")) (.cons (.cstr (Str.ofString "5")) .nil))) (.cons (.tup (.cons (.cstr (Str.ofString "number")) (.cons .cnone .nil))) .nil)))))))))
  (.cons (.assign 0 (.bin .Add (.loc 0) (.list (.cons (.tup (.cons (.cstr (Str.ofString "box")) (.cons (.cbool false) .nil))) (.cons (.tup (.cons (.cstr (Str.ofString "box")) .nil)) (.cons (.list (.cons (.cstr (Str.ofString "number")) (.cons (.cint (1)) .nil))) (.cons (.cstr (Str.ofString "number")) (.cons (.tup (.cons (.cstr (Str.ofString "word")) (.cons (.cint (1)) .nil))) (.cons (.tup (.cons (.cint (1)) (.cons (.cint (2)) .nil))) (.cons .cnone .nil))))))))))
  (.cons (.ret (.bin .Add (.loc 0) (.list (.cons (.tup (.cons (.cstr (Str.ofString "number")) (.cons (.cint (1)) (.cons (.cint (2)) .nil)))) (.cons (.tup (.cons (.cstr (Str.ofString "box")) (.cons (.cint (0)) (.cons (.cint (0)) .nil)))) (.cons (.tup (.cons (.cstr (Str.ofString "box")) (.cons .cnone .nil))) (.cons (.tup (.cons (.cstr (Str.ofString "box")) (.cons (.cstr (Str.ofString "3")) .nil))) (.cons (.tup (.cons (.cstr (Str.ofString "number")) (.cons (.list (.cons (.cint (5)) .nil)) .nil))) (.cons (.tup (.cons (.cstr (Str.ofString "box")) (.cons (.tup (.cons (.cint (3)) .nil)) .nil))) .nil)))))))))
  .nil))))
theorem things_ms (hQ : ∀ r vs H', Ext cx H H' → H' r = some (.list vs) → vs.length = 25 → PickAll cx H' 0 vs → Q (.ref r) H') : mwpSs cx n m_law_things [.unb] H (NQ Q) (RQ Q) := by
  refine S_cons ?_
  walk_at "st"
  refine ⟨by simp, new_abs fun r0 H0 x0 f0 e0 => ?_⟩
  clear f0
  have xx := x0
  clear x0
  walk_at "st"
  refine ⟨by decide, by decide, ?_⟩
  refine ⟨by simp, new_abs fun r1 H1 x1 f1 e1 => ?_⟩
  clear f1
  replace e0 := x1.le _ _ e0
  replace xx := xx.trans x1
  clear x1
  walk_at "st"
  refine ⟨by decide, by decide, ?_⟩
  refine ⟨by simp, new_abs fun r2 H2 x2 f2 e2 => ?_⟩
  clear f2
  replace e0 := x2.le _ _ e0
  replace e1 := x2.le _ _ e1
  replace xx := xx.trans x2
  clear x2
  walk_at "st"
  refine ⟨by simp, new_abs fun r3 H3 x3 f3 e3 => ?_⟩
  clear f3
  replace e0 := x3.le _ _ e0
  replace e1 := x3.le _ _ e1
  replace e2 := x3.le _ _ e2
  replace xx := xx.trans x3
  clear x3
  walk_at "st"
  refine ⟨by simp, new_abs fun r4 H4 x4 f4 e4 => ?_⟩
  clear f4
  replace e0 := x4.le _ _ e0
  replace e1 := x4.le _ _ e1
  replace e2 := x4.le _ _ e2
  replace e3 := x4.le _ _ e3
  replace xx := xx.trans x4
  clear x4
  walk_at "st"
  refine ⟨by simp, new_abs fun r5 H5 x5 f5 e5 => ?_⟩
  clear f5
  replace e0 := x5.le _ _ e0
  replace e1 := x5.le _ _ e1
  replace e2 := x5.le _ _ e2
  replace e3 := x5.le _ _ e3
  replace e4 := x5.le _ _ e4
  replace xx := xx.trans x5
  clear x5
  walk_at "st"
  refine ⟨by simp, new_abs fun r6 H6 x6 f6 e6 => ?_⟩
  clear f6
  replace e0 := x6.le _ _ e0
  replace e1 := x6.le _ _ e1
  replace e2 := x6.le _ _ e2
  replace e3 := x6.le _ _ e3
  replace e4 := x6.le _ _ e4
  replace e5 := x6.le _ _ e5
  replace xx := xx.trans x6
  clear x6
  walk_at "st"
  refine S_cons ?_
  walk_at "st"
  refine ⟨by simp, new_abs fun r7 H7 x7 f7 e7 => ?_⟩
  clear f7
  replace e0 := x7.le _ _ e0
  replace e1 := x7.le _ _ e1
  replace e2 := x7.le _ _ e2
  replace e3 := x7.le _ _ e3
  replace e4 := x7.le _ _ e4
  replace e5 := x7.le _ _ e5
  replace e6 := x7.le _ _ e6
  replace xx := xx.trans x7
  clear x7
  walk_at "st"
  refine ⟨by simp, new_abs fun r8 H8 x8 f8 e8 => ?_⟩
  clear f8
  replace e0 := x8.le _ _ e0
  replace e1 := x8.le _ _ e1
  replace e2 := x8.le _ _ e2
  replace e3 := x8.le _ _ e3
  replace e4 := x8.le _ _ e4
  replace e5 := x8.le _ _ e5
  replace e6 := x8.le _ _ e6
  replace e7 := x8.le _ _ e7
  replace xx := xx.trans x8
  clear x8
  walk_at "st"
  refine ⟨by simp, new_abs fun r9 H9 x9 f9 e9 => ?_⟩
  clear f9
  replace e0 := x9.le _ _ e0
  replace e1 := x9.le _ _ e1
  replace e2 := x9.le _ _ e2
  replace e3 := x9.le _ _ e3
  replace e4 := x9.le _ _ e4
  replace e5 := x9.le _ _ e5
  replace e6 := x9.le _ _ e6
  replace e7 := x9.le _ _ e7
  replace e8 := x9.le _ _ e8
  replace xx := xx.trans x9
  clear x9
  walk_at "st"
  refine ⟨by simp, new_abs fun r10 H10 x10 f10 e10 => ?_⟩
  clear f10
  replace e0 := x10.le _ _ e0
  replace e1 := x10.le _ _ e1
  replace e2 := x10.le _ _ e2
  replace e3 := x10.le _ _ e3
  replace e4 := x10.le _ _ e4
  replace e5 := x10.le _ _ e5
  replace e6 := x10.le _ _ e6
  replace e7 := x10.le _ _ e7
  replace e8 := x10.le _ _ e8
  replace e9 := x10.le _ _ e9
  replace xx := xx.trans x10
  clear x10
  walk_at "st"
  refine ⟨by simp, new_abs fun r11 H11 x11 f11 e11 => ?_⟩
  clear f11
  replace e0 := x11.le _ _ e0
  replace e1 := x11.le _ _ e1
  replace e2 := x11.le _ _ e2
  replace e3 := x11.le _ _ e3
  replace e4 := x11.le _ _ e4
  replace e5 := x11.le _ _ e5
  replace e6 := x11.le _ _ e6
  replace e7 := x11.le _ _ e7
  replace e8 := x11.le _ _ e8
  replace e9 := x11.le _ _ e9
  replace e10 := x11.le _ _ e10
  replace xx := xx.trans x11
  clear x11
  walk_at "st"
  refine ⟨by simp, new_abs fun r12 H12 x12 f12 e12 => ?_⟩
  clear f12
  replace e0 := x12.le _ _ e0
  replace e1 := x12.le _ _ e1
  replace e2 := x12.le _ _ e2
  replace e3 := x12.le _ _ e3
  replace e4 := x12.le _ _ e4
  replace e5 := x12.le _ _ e5
  replace e6 := x12.le _ _ e6
  replace e7 := x12.le _ _ e7
  replace e8 := x12.le _ _ e8
  replace e9 := x12.le _ _ e9
  replace e10 := x12.le _ _ e10
  replace e11 := x12.le _ _ e11
  replace xx := xx.trans x12
  clear x12
  walk_at "st"
  refine ⟨by simp, new_abs fun r13 H13 x13 f13 e13 => ?_⟩
  clear f13
  replace e0 := x13.le _ _ e0
  replace e1 := x13.le _ _ e1
  replace e2 := x13.le _ _ e2
  replace e3 := x13.le _ _ e3
  replace e4 := x13.le _ _ e4
  replace e5 := x13.le _ _ e5
  replace e6 := x13.le _ _ e6
  replace e7 := x13.le _ _ e7
  replace e8 := x13.le _ _ e8
  replace e9 := x13.le _ _ e9
  replace e10 := x13.le _ _ e10
  replace e11 := x13.le _ _ e11
  replace e12 := x13.le _ _ e12
  replace xx := xx.trans x13
  clear x13
  walk_at "st"
  refine W_cat (lst_l (lk_of e6)) (lst_l (lk_of e13)) (by simp) (new_abs fun r14 H14 x14 f14 e14 => ?_)
  clear f14
  clear e6 e13
  replace e0 := x14.le _ _ e0
  replace e1 := x14.le _ _ e1
  replace e2 := x14.le _ _ e2
  replace e3 := x14.le _ _ e3
  replace e4 := x14.le _ _ e4
  replace e5 := x14.le _ _ e5
  replace e7 := x14.le _ _ e7
  replace e8 := x14.le _ _ e8
  replace e9 := x14.le _ _ e9
  replace e10 := x14.le _ _ e10
  replace e11 := x14.le _ _ e11
  replace e12 := x14.le _ _ e12
  replace xx := xx.trans x14
  clear x14
  refine S_cons ?_
  walk_at "st"
  refine ⟨by simp, new_abs fun r15 H15 x15 f15 e15 => ?_⟩
  clear f15
  replace e0 := x15.le _ _ e0
  replace e1 := x15.le _ _ e1
  replace e2 := x15.le _ _ e2
  replace e3 := x15.le _ _ e3
  replace e4 := x15.le _ _ e4
  replace e5 := x15.le _ _ e5
  replace e7 := x15.le _ _ e7
  replace e8 := x15.le _ _ e8
  replace e9 := x15.le _ _ e9
  replace e10 := x15.le _ _ e10
  replace e11 := x15.le _ _ e11
  replace e12 := x15.le _ _ e12
  replace e14 := x15.le _ _ e14
  replace xx := xx.trans x15
  clear x15
  walk_at "st"
  refine ⟨by simp, new_abs fun r16 H16 x16 f16 e16 => ?_⟩
  clear f16
  replace e0 := x16.le _ _ e0
  replace e1 := x16.le _ _ e1
  replace e2 := x16.le _ _ e2
  replace e3 := x16.le _ _ e3
  replace e4 := x16.le _ _ e4
  replace e5 := x16.le _ _ e5
  replace e7 := x16.le _ _ e7
  replace e8 := x16.le _ _ e8
  replace e9 := x16.le _ _ e9
  replace e10 := x16.le _ _ e10
  replace e11 := x16.le _ _ e11
  replace e12 := x16.le _ _ e12
  replace e14 := x16.le _ _ e14
  replace e15 := x16.le _ _ e15
  replace xx := xx.trans x16
  clear x16
  walk_at "st"
  refine ⟨by simp, new_abs fun r17 H17 x17 f17 e17 => ?_⟩
  clear f17
  replace e0 := x17.le _ _ e0
  replace e1 := x17.le _ _ e1
  replace e2 := x17.le _ _ e2
  replace e3 := x17.le _ _ e3
  replace e4 := x17.le _ _ e4
  replace e5 := x17.le _ _ e5
  replace e7 := x17.le _ _ e7
  replace e8 := x17.le _ _ e8
  replace e9 := x17.le _ _ e9
  replace e10 := x17.le _ _ e10
  replace e11 := x17.le _ _ e11
  replace e12 := x17.le _ _ e12
  replace e14 := x17.le _ _ e14
  replace e15 := x17.le _ _ e15
  replace e16 := x17.le _ _ e16
  replace xx := xx.trans x17
  clear x17
  walk_at "st"
  refine ⟨by simp, new_abs fun r18 H18 x18 f18 e18 => ?_⟩
  clear f18
  replace e0 := x18.le _ _ e0
  replace e1 := x18.le _ _ e1
  replace e2 := x18.le _ _ e2
  replace e3 := x18.le _ _ e3
  replace e4 := x18.le _ _ e4
  replace e5 := x18.le _ _ e5
  replace e7 := x18.le _ _ e7
  replace e8 := x18.le _ _ e8
  replace e9 := x18.le _ _ e9
  replace e10 := x18.le _ _ e10
  replace e11 := x18.le _ _ e11
  replace e12 := x18.le _ _ e12
  replace e14 := x18.le _ _ e14
  replace e15 := x18.le _ _ e15
  replace e16 := x18.le _ _ e16
  replace e17 := x18.le _ _ e17
  replace xx := xx.trans x18
  clear x18
  walk_at "st"
  refine ⟨by simp, new_abs fun r19 H19 x19 f19 e19 => ?_⟩
  clear f19
  replace e0 := x19.le _ _ e0
  replace e1 := x19.le _ _ e1
  replace e2 := x19.le _ _ e2
  replace e3 := x19.le _ _ e3
  replace e4 := x19.le _ _ e4
  replace e5 := x19.le _ _ e5
  replace e7 := x19.le _ _ e7
  replace e8 := x19.le _ _ e8
  replace e9 := x19.le _ _ e9
  replace e10 := x19.le _ _ e10
  replace e11 := x19.le _ _ e11
  replace e12 := x19.le _ _ e12
  replace e14 := x19.le _ _ e14
  replace e15 := x19.le _ _ e15
  replace e16 := x19.le _ _ e16
  replace e17 := x19.le _ _ e17
  replace e18 := x19.le _ _ e18
  replace xx := xx.trans x19
  clear x19
  walk_at "st"
  refine ⟨by simp, new_abs fun r20 H20 x20 f20 e20 => ?_⟩
  clear f20
  replace e0 := x20.le _ _ e0
  replace e1 := x20.le _ _ e1
  replace e2 := x20.le _ _ e2
  replace e3 := x20.le _ _ e3
  replace e4 := x20.le _ _ e4
  replace e5 := x20.le _ _ e5
  replace e7 := x20.le _ _ e7
  replace e8 := x20.le _ _ e8
  replace e9 := x20.le _ _ e9
  replace e10 := x20.le _ _ e10
  replace e11 := x20.le _ _ e11
  replace e12 := x20.le _ _ e12
  replace e14 := x20.le _ _ e14
  replace e15 := x20.le _ _ e15
  replace e16 := x20.le _ _ e16
  replace e17 := x20.le _ _ e17
  replace e18 := x20.le _ _ e18
  replace e19 := x20.le _ _ e19
  replace xx := xx.trans x20
  clear x20
  walk_at "st"
  refine W_cat (lst_l (lk_of e14)) (lst_l (lk_of e20)) (by simp) (new_abs fun r21 H21 x21 f21 e21 => ?_)
  clear f21
  clear e14 e20
  replace e0 := x21.le _ _ e0
  replace e1 := x21.le _ _ e1
  replace e2 := x21.le _ _ e2
  replace e3 := x21.le _ _ e3
  replace e4 := x21.le _ _ e4
  replace e5 := x21.le _ _ e5
  replace e7 := x21.le _ _ e7
  replace e8 := x21.le _ _ e8
  replace e9 := x21.le _ _ e9
  replace e10 := x21.le _ _ e10
  replace e11 := x21.le _ _ e11
  replace e12 := x21.le _ _ e12
  replace e15 := x21.le _ _ e15
  replace e16 := x21.le _ _ e16
  replace e17 := x21.le _ _ e17
  replace e18 := x21.le _ _ e18
  replace e19 := x21.le _ _ e19
  replace xx := xx.trans x21
  clear x21
  refine S_cons ?_
  walk_at "st"
  refine ⟨by simp, new_abs fun r22 H22 x22 f22 e22 => ?_⟩
  clear f22
  replace e0 := x22.le _ _ e0
  replace e1 := x22.le _ _ e1
  replace e2 := x22.le _ _ e2
  replace e3 := x22.le _ _ e3
  replace e4 := x22.le _ _ e4
  replace e5 := x22.le _ _ e5
  replace e7 := x22.le _ _ e7
  replace e8 := x22.le _ _ e8
  replace e9 := x22.le _ _ e9
  replace e10 := x22.le _ _ e10
  replace e11 := x22.le _ _ e11
  replace e12 := x22.le _ _ e12
  replace e15 := x22.le _ _ e15
  replace e16 := x22.le _ _ e16
  replace e17 := x22.le _ _ e17
  replace e18 := x22.le _ _ e18
  replace e19 := x22.le _ _ e19
  replace e21 := x22.le _ _ e21
  replace xx := xx.trans x22
  clear x22
  walk_at "st"
  refine ⟨by simp, new_abs fun r23 H23 x23 f23 e23 => ?_⟩
  clear f23
  replace e0 := x23.le _ _ e0
  replace e1 := x23.le _ _ e1
  replace e2 := x23.le _ _ e2
  replace e3 := x23.le _ _ e3
  replace e4 := x23.le _ _ e4
  replace e5 := x23.le _ _ e5
  replace e7 := x23.le _ _ e7
  replace e8 := x23.le _ _ e8
  replace e9 := x23.le _ _ e9
  replace e10 := x23.le _ _ e10
  replace e11 := x23.le _ _ e11
  replace e12 := x23.le _ _ e12
  replace e15 := x23.le _ _ e15
  replace e16 := x23.le _ _ e16
  replace e17 := x23.le _ _ e17
  replace e18 := x23.le _ _ e18
  replace e19 := x23.le _ _ e19
  replace e21 := x23.le _ _ e21
  replace e22 := x23.le _ _ e22
  replace xx := xx.trans x23
  clear x23
  walk_at "st"
  refine ⟨by simp, new_abs fun r24 H24 x24 f24 e24 => ?_⟩
  clear f24
  replace e0 := x24.le _ _ e0
  replace e1 := x24.le _ _ e1
  replace e2 := x24.le _ _ e2
  replace e3 := x24.le _ _ e3
  replace e4 := x24.le _ _ e4
  replace e5 := x24.le _ _ e5
  replace e7 := x24.le _ _ e7
  replace e8 := x24.le _ _ e8
  replace e9 := x24.le _ _ e9
  replace e10 := x24.le _ _ e10
  replace e11 := x24.le _ _ e11
  replace e12 := x24.le _ _ e12
  replace e15 := x24.le _ _ e15
  replace e16 := x24.le _ _ e16
  replace e17 := x24.le _ _ e17
  replace e18 := x24.le _ _ e18
  replace e19 := x24.le _ _ e19
  replace e21 := x24.le _ _ e21
  replace e22 := x24.le _ _ e22
  replace e23 := x24.le _ _ e23
  replace xx := xx.trans x24
  clear x24
  walk_at "st"
  refine ⟨by simp, new_abs fun r25 H25 x25 f25 e25 => ?_⟩
  clear f25
  replace e0 := x25.le _ _ e0
  replace e1 := x25.le _ _ e1
  replace e2 := x25.le _ _ e2
  replace e3 := x25.le _ _ e3
  replace e4 := x25.le _ _ e4
  replace e5 := x25.le _ _ e5
  replace e7 := x25.le _ _ e7
  replace e8 := x25.le _ _ e8
  replace e9 := x25.le _ _ e9
  replace e10 := x25.le _ _ e10
  replace e11 := x25.le _ _ e11
  replace e12 := x25.le _ _ e12
  replace e15 := x25.le _ _ e15
  replace e16 := x25.le _ _ e16
  replace e17 := x25.le _ _ e17
  replace e18 := x25.le _ _ e18
  replace e19 := x25.le _ _ e19
  replace e21 := x25.le _ _ e21
  replace e22 := x25.le _ _ e22
  replace e23 := x25.le _ _ e23
  replace e24 := x25.le _ _ e24
  replace xx := xx.trans x25
  clear x25
  walk_at "st"
  refine ⟨by simp, new_abs fun r26 H26 x26 f26 e26 => ?_⟩
  clear f26
  replace e0 := x26.le _ _ e0
  replace e1 := x26.le _ _ e1
  replace e2 := x26.le _ _ e2
  replace e3 := x26.le _ _ e3
  replace e4 := x26.le _ _ e4
  replace e5 := x26.le _ _ e5
  replace e7 := x26.le _ _ e7
  replace e8 := x26.le _ _ e8
  replace e9 := x26.le _ _ e9
  replace e10 := x26.le _ _ e10
  replace e11 := x26.le _ _ e11
  replace e12 := x26.le _ _ e12
  replace e15 := x26.le _ _ e15
  replace e16 := x26.le _ _ e16
  replace e17 := x26.le _ _ e17
  replace e18 := x26.le _ _ e18
  replace e19 := x26.le _ _ e19
  replace e21 := x26.le _ _ e21
  replace e22 := x26.le _ _ e22
  replace e23 := x26.le _ _ e23
  replace e24 := x26.le _ _ e24
  replace e25 := x26.le _ _ e25
  replace xx := xx.trans x26
  clear x26
  walk_at "st"
  refine ⟨by simp, new_abs fun r27 H27 x27 f27 e27 => ?_⟩
  clear f27
  replace e0 := x27.le _ _ e0
  replace e1 := x27.le _ _ e1
  replace e2 := x27.le _ _ e2
  replace e3 := x27.le _ _ e3
  replace e4 := x27.le _ _ e4
  replace e5 := x27.le _ _ e5
  replace e7 := x27.le _ _ e7
  replace e8 := x27.le _ _ e8
  replace e9 := x27.le _ _ e9
  replace e10 := x27.le _ _ e10
  replace e11 := x27.le _ _ e11
  replace e12 := x27.le _ _ e12
  replace e15 := x27.le _ _ e15
  replace e16 := x27.le _ _ e16
  replace e17 := x27.le _ _ e17
  replace e18 := x27.le _ _ e18
  replace e19 := x27.le _ _ e19
  replace e21 := x27.le _ _ e21
  replace e22 := x27.le _ _ e22
  replace e23 := x27.le _ _ e23
  replace e24 := x27.le _ _ e24
  replace e25 := x27.le _ _ e25
  replace e26 := x27.le _ _ e26
  replace xx := xx.trans x27
  clear x27
  walk_at "st"
  refine ⟨by simp, new_abs fun r28 H28 x28 f28 e28 => ?_⟩
  clear f28
  replace e0 := x28.le _ _ e0
  replace e1 := x28.le _ _ e1
  replace e2 := x28.le _ _ e2
  replace e3 := x28.le _ _ e3
  replace e4 := x28.le _ _ e4
  replace e5 := x28.le _ _ e5
  replace e7 := x28.le _ _ e7
  replace e8 := x28.le _ _ e8
  replace e9 := x28.le _ _ e9
  replace e10 := x28.le _ _ e10
  replace e11 := x28.le _ _ e11
  replace e12 := x28.le _ _ e12
  replace e15 := x28.le _ _ e15
  replace e16 := x28.le _ _ e16
  replace e17 := x28.le _ _ e17
  replace e18 := x28.le _ _ e18
  replace e19 := x28.le _ _ e19
  replace e21 := x28.le _ _ e21
  replace e22 := x28.le _ _ e22
  replace e23 := x28.le _ _ e23
  replace e24 := x28.le _ _ e24
  replace e25 := x28.le _ _ e25
  replace e26 := x28.le _ _ e26
  replace e27 := x28.le _ _ e27
  replace xx := xx.trans x28
  clear x28
  walk_at "st"
  refine ⟨by simp, new_abs fun r29 H29 x29 f29 e29 => ?_⟩
  clear f29
  replace e0 := x29.le _ _ e0
  replace e1 := x29.le _ _ e1
  replace e2 := x29.le _ _ e2
  replace e3 := x29.le _ _ e3
  replace e4 := x29.le _ _ e4
  replace e5 := x29.le _ _ e5
  replace e7 := x29.le _ _ e7
  replace e8 := x29.le _ _ e8
  replace e9 := x29.le _ _ e9
  replace e10 := x29.le _ _ e10
  replace e11 := x29.le _ _ e11
  replace e12 := x29.le _ _ e12
  replace e15 := x29.le _ _ e15
  replace e16 := x29.le _ _ e16
  replace e17 := x29.le _ _ e17
  replace e18 := x29.le _ _ e18
  replace e19 := x29.le _ _ e19
  replace e21 := x29.le _ _ e21
  replace e22 := x29.le _ _ e22
  replace e23 := x29.le _ _ e23
  replace e24 := x29.le _ _ e24
  replace e25 := x29.le _ _ e25
  replace e26 := x29.le _ _ e26
  replace e27 := x29.le _ _ e27
  replace e28 := x29.le _ _ e28
  replace xx := xx.trans x29
  clear x29
  walk_at "st"
  refine ⟨by simp, new_abs fun r30 H30 x30 f30 e30 => ?_⟩
  clear f30
  replace e0 := x30.le _ _ e0
  replace e1 := x30.le _ _ e1
  replace e2 := x30.le _ _ e2
  replace e3 := x30.le _ _ e3
  replace e4 := x30.le _ _ e4
  replace e5 := x30.le _ _ e5
  replace e7 := x30.le _ _ e7
  replace e8 := x30.le _ _ e8
  replace e9 := x30.le _ _ e9
  replace e10 := x30.le _ _ e10
  replace e11 := x30.le _ _ e11
  replace e12 := x30.le _ _ e12
  replace e15 := x30.le _ _ e15
  replace e16 := x30.le _ _ e16
  replace e17 := x30.le _ _ e17
  replace e18 := x30.le _ _ e18
  replace e19 := x30.le _ _ e19
  replace e21 := x30.le _ _ e21
  replace e22 := x30.le _ _ e22
  replace e23 := x30.le _ _ e23
  replace e24 := x30.le _ _ e24
  replace e25 := x30.le _ _ e25
  replace e26 := x30.le _ _ e26
  replace e27 := x30.le _ _ e27
  replace e28 := x30.le _ _ e28
  replace e29 := x30.le _ _ e29
  replace xx := xx.trans x30
  clear x30
  walk_at "st"
  refine W_cat (lst_l (lk_of e21)) (lst_l (lk_of e30)) (by simp) (new_abs fun r31 H31 x31 f31 e31 => ?_)
  clear f31
  clear e21 e30
  replace e0 := x31.le _ _ e0
  replace e1 := x31.le _ _ e1
  replace e2 := x31.le _ _ e2
  replace e3 := x31.le _ _ e3
  replace e4 := x31.le _ _ e4
  replace e5 := x31.le _ _ e5
  replace e7 := x31.le _ _ e7
  replace e8 := x31.le _ _ e8
  replace e9 := x31.le _ _ e9
  replace e10 := x31.le _ _ e10
  replace e11 := x31.le _ _ e11
  replace e12 := x31.le _ _ e12
  replace e15 := x31.le _ _ e15
  replace e16 := x31.le _ _ e16
  replace e17 := x31.le _ _ e17
  replace e18 := x31.le _ _ e18
  replace e19 := x31.le _ _ e19
  replace e22 := x31.le _ _ e22
  replace e23 := x31.le _ _ e23
  replace e24 := x31.le _ _ e24
  replace e25 := x31.le _ _ e25
  replace e26 := x31.le _ _ e26
  replace e27 := x31.le _ _ e27
  replace e28 := x31.le _ _ e28
  replace e29 := x31.le _ _ e29
  replace xx := xx.trans x31
  clear x31
  refine RQ.here (hQ _ _ _ xx e31 rfl ⟨?_, ?_, ?_, ?_, ?_, ?_, ?_, ?_, ?_, ?_, ?_, ?_, ?_, ?_, ?_, ?_, ?_, ?_, ?_, ?_, ?_, ?_, ?_, ?_, ?_, trivial⟩)
  · exact pk_good (by decide) rfl e0 (Show.tup e0 (mapM_cons' (s_number _) (mapM_cons' rfl rfl)) (by decide +kernel))
  · exact pk_good (by decide) rfl e1 (Show.tup e1 (mapM_cons' (s_number _) (mapM_cons' rfl rfl)) (by decide +kernel))
  · exact pk_good (by decide) rfl e2 (Show.tup e2 (mapM_cons' (s_number _) (mapM_cons' rfl rfl)) (by decide +kernel))
  · exact pk_good (by decide) rfl e3 (Show.tup e3 (mapM_cons' (s_box _) (mapM_cons' rfl rfl)) (by decide +kernel))
  · exact pk_good (by decide) rfl e4 (Show.tup e4 (mapM_cons' (s_box _) (mapM_cons' rfl rfl)) (by decide +kernel))
  · exact pk_good (by decide) rfl e5 (Show.tup e5 (mapM_cons' (s_box _) (mapM_cons' rfl rfl)) (by decide +kernel))
  · exact pk_good (by decide) rfl e7 (Show.tup e7 (mapM_cons' (s_box _) (mapM_cons' rfl rfl)) (by decide +kernel))
  · exact pk_good (by decide) rfl e8 (Show.tup e8 (mapM_cons' (s_box _) (mapM_cons' rfl rfl)) (by decide +kernel))
  · exact pk_good (by decide) rfl e9 (Show.tup e9 (mapM_cons' (s_box _) (mapM_cons' rfl rfl)) (by decide +kernel))
  · exact pk_bad (by decide) (.two _ _ _ _ e10 (s_number (cx := cx) (H := H) 0) trivial (by decide +kernel)) (Show.tup e10 (mapM_cons' (s_number _) (mapM_cons' rfl rfl)) (by decide +kernel))
  · exact pk_bad (by decide) (.two _ _ _ _ e11 (s_number (cx := cx) (H := H) 0) trivial (by decide +kernel)) (Show.tup e11 (mapM_cons' (s_number _) (mapM_cons' (rd_str (by decide +kernel) _) rfl)) (by decide +kernel))
  · exact pk_bad (by decide) (.two _ _ _ _ e12 (s_number (cx := cx) (H := H) 0) trivial (by decide +kernel)) (Show.tup e12 (mapM_cons' (s_number _) (mapM_cons' rfl rfl)) (by decide +kernel))
  · exact pk_bad (by decide) (.two _ _ _ _ e15 (s_box (cx := cx) (H := H) 0) trivial (by decide +kernel)) (Show.tup e15 (mapM_cons' (s_box _) (mapM_cons' rfl rfl)) (by decide +kernel))
  · exact pk_bad (by decide) (.tup _ _ e16 (by decide) (by decide)) (Show.tup e16 (mapM_cons' (s_box _) rfl) (by decide +kernel))
  · exact pk_bad (by decide) (.list _ _ e17) (Show.list e17 (mapM_cons' (s_number _) (mapM_cons' rfl rfl)) (by decide +kernel))
  · exact pk_bad (by decide) (.str _) ⟨_, s_number 2, Sh.of (by decide +kernel)⟩
  · exact pk_bad (by decide) (.two _ _ _ _ e18 (rd_str (cx := cx) (H := H) (by decide +kernel) 0) trivial (by decide +kernel)) (Show.tup e18 (mapM_cons' (rd_str (by decide +kernel) _) (mapM_cons' rfl rfl)) (by decide +kernel))
  · exact pk_bad (by decide) (.two _ _ _ _ e19 rfl trivial (by decide +kernel)) (Show.tup e19 (mapM_cons' rfl (mapM_cons' rfl rfl)) (by decide +kernel))
  · exact pk_bad (by decide) .none ⟨_, rfl, Sh.of (by decide +kernel)⟩
  · exact pk_bad (by decide) (.tup _ _ e22 (by decide) (by decide)) (Show.tup e22 (mapM_cons' (s_number _) (mapM_cons' rfl (mapM_cons' rfl rfl))) (by decide +kernel))
  · exact pk_bad (by decide) (.tup _ _ e23 (by decide) (by decide)) (Show.tup e23 (mapM_cons' (s_box _) (mapM_cons' rfl (mapM_cons' rfl rfl))) (by decide +kernel))
  · exact pk_bad (by decide) (.two _ _ _ _ e24 (s_box (cx := cx) (H := H) 0) trivial (by decide +kernel)) (Show.tup e24 (mapM_cons' (s_box _) (mapM_cons' rfl rfl)) (by decide +kernel))
  · exact pk_bad (by decide) (.two _ _ _ _ e25 (s_box (cx := cx) (H := H) 0) trivial (by decide +kernel)) (Show.tup e25 (mapM_cons' (s_box _) (mapM_cons' (rd_str (by decide +kernel) _) rfl)) (by decide +kernel))
  · exact pk_bad (by decide) (.two _ _ _ _ e27 (s_number (cx := cx) (H := H) 0) (.inl ⟨_, e26⟩) (show (_ || true) = true from Bool.or_true _)) (Show.tup e27 (mapM_cons' (s_number _) (mapM_cons' (by rw [rd_list (lk_of e26)]; rfl) rfl)) (by decide +kernel))
  · exact pk_bad (by decide) (.two _ _ _ _ e29 (s_box (cx := cx) (H := H) 0) (.inr ⟨_, e28⟩) (show (_ || true) = true from Bool.or_true _)) (Show.tup e29 (mapM_cons' (s_box _) (mapM_cons' (by rw [rd_tup (lk_of e28)]; rfl) rfl)) (by decide +kernel))
noncomputable def ThingsSpec (cx : Cx) (n : Nat) : Prop := ∀ (H : HP) (Q : V → HP → Prop), (∀ r vs H', Ext cx H H' → H' r = some (.list vs) → vs.length = 25 → PickAll cx H' 0 vs → Q (.ref r) H') → CallP cx n 307 [] H Q
end
end Mine
end

section
namespace Mine
open PySem PyProof.Rows
noncomputable def wordK (k : Nat) : Str := if k < 5 then Str.ofString "" else if 8 < k then Str.ofString "thing" else Str.ofString "box"
theorem ok_thing : PyData.strOk (Str.ofString "thing") = true := by decide +kernel
theorem ok_empty : PyData.strOk (Str.ofString "") = true := by decide +kernel
theorem wordK_ok (k : Nat) : PyData.strOk (wordK k) = true := by
  unfold wordK
  split
  · exact ok_empty
  · split
    · exact ok_thing
    · exact ok_box
theorem wk_thing (k : Nat) : (wordK k == Str.ofString "thing") = decide (8 < k) := by
  unfold wordK
  split
  · rw [decide_eq_false (by omega)]; decide
  · split
    · rename_i h; rw [decide_eq_true h]; decide
    · rename_i h; rw [decide_eq_false h]; decide
theorem wk_box (k : Nat) : (wordK k == Str.ofString "box") = (decide (5 ≤ k) && decide (k ≤ 8)) := by
  unfold wordK
  split
  · rw [decide_eq_false (show ¬ 5 ≤ k by omega), Bool.false_and]; decide
  · split
    · rw [decide_eq_false (show ¬ k ≤ 8 by omega), Bool.and_false]; decide
    · rw [decide_eq_true (show 5 ≤ k by omega), decide_eq_true (show k ≤ 8 by omega)]; decide
noncomputable def dueM (m : Nat) (ks : List Nat) : Str := if ∃ k ∈ ks, 8 < k then Str.ofString "thing" else if ∃ k ∈ ks, 5 ≤ k then Str.ofString "box" else if 5 < m then Str.ofString "room" else Str.ofString ""
section
variable {cx : Cx} {H H' : HP} {n : Nat} {a b r : Addr} {o : O} {Q : V → HP → Prop} {v u w : V} {vs : List V}
noncomputable def m_law_word : MSs :=
  (.cons (.ite (.cmp (.loc 0) .Lt (.cint (5))) (.cons (.ret (.cstr (Str.ofString "")))
    .nil) .nil)
  (.cons (.ret (.sub (.list (.cons (.cstr (Str.ofString "box")) (.cons (.cstr (Str.ofString "thing")) .nil))) (.callb .int (.cons (.cmp (.loc 0) .Gt (.cint (8))) .nil))))
  .nil))
noncomputable def m_law_made_due : MSs :=
  (.cons (.assign 2 (.comp (.callf 314 (.cons (.loc 4) .nil)) (.loc 1) (.cbool true)))
  (.cons (.for_ 3 (.list (.cons (.cstr (Str.ofString "thing")) (.cons (.cstr (Str.ofString "box")) .nil))) (.cons (.ite (.cmp (.loc 3) .In (.loc 2)) (.cons (.ret (.loc 3))
      .nil) .nil)
    .nil))
  (.cons (.ret (.bin .Mult (.cstr (Str.ofString "room")) (.callb .int (.cons (.cmp (.loc 0) .Gt (.cint (5))) .nil))))
  .nil)))
noncomputable def m_law_put_due : MSs :=
  (.cons (.ite (.bop .Or (.cons (.cmp (.loc 1) .NotIn (.tup (.cons (.cint (0)) (.cons (.cint (3)) .nil)))) (.cons (.cmp (.loc 1) .Is (.cbool false)) .nil))) (.cons (.ret (.cstr (Str.ofString "box")))
    .nil) .nil)
  (.cons (.ite (.cmp (.loc 0) .Eq (.cint (2))) (.cons (.ret (.cstr (Str.ofString "")))
    .nil) .nil)
  (.cons (.ite (.bop .Or (.cons (.not (.callf 286 (.cons (.loc 2) .nil))) (.cons (.not (.cmp2 (.cint (0)) .LtE (.loc 2) .Lt (.cint (2)))) .nil))) (.cons (.ret (.cstr (Str.ofString "field")))
    .nil) .nil)
  (.cons (.ret (.callf 314 (.cons (.loc 3) .nil)))
  .nil))))
theorem word_ms {k : Nat} (h : Q (.str (wordK k)) H) : mwpSs cx n m_law_word [.int k] H (NQ Q) (RQ Q) := by
  unfold wordK at h
  refine S_cons ?_
  walk_at "st"
  refine ifB_of (fun q => S_cons ?_) fun q => S_nil (S_cons ?_)
  · rw [decide_eq_true_iff] at q
    walk_at "st"
    rw [if_pos (by first | lia | omega)] at h
    exact RQ.here h
  · rw [decide_eq_false_iff_not] at q
    rw [if_neg (by first | lia | omega)] at h
    walk_at "st"
    refine ⟨by simp, new_abs fun r1 H1 x1 _ e1 => ?_⟩
    walk_at "st"
    by_cases hk : 8 < k
    · rw [show decide ((8 : Int) < (k : Int)) = true from decide_eq_true (by first | lia | omega)]
      rw [if_pos hk] at h
      exact W_sub (sq_l (lk_of e1)) (by decide) (by simp) (v := .str (Str.ofString "thing")) rfl ⟨H, x1.le, h⟩
    · rw [show decide ((8 : Int) < (k : Int)) = false from decide_eq_false (by first | lia | omega)]
      rw [if_neg hk] at h
      exact W_sub (sq_l (lk_of e1)) (by decide) (by simp) (v := .str (Str.ofString "box")) rfl ⟨H, x1.le, h⟩
noncomputable def WordSp (cx : Cx) (n : Nat) : Prop := ∀ (k : Nat) (H : HP) (Q : V → HP → Prop), Q (.str (wordK k)) H → CallP cx n 314 [.int k] H Q
noncomputable def strsV (xs : List Str) : List V := xs.map .str
theorem rd_strs {xs : List Str} (hx : ∀ x ∈ xs, PyData.strOk x = true) (h : lk cx H a = some (.list (strsV xs))) : rdV cx H 1 (.ref a) = some (.list (xs.map .str)) := by
  rw [rd_list h]
  have : (strsV xs).mapM (rdV cx H 0) = some (xs.map .str) := by
    clear h
    induction xs with
    | nil => rfl
    | cons x xs ih =>
      refine mapM_cons' ?_ (ih fun y hy => hx y (List.mem_cons_of_mem _ hy))
      show rdS x = _
      unfold rdS; rw [if_pos (hx x List.mem_cons_self)]
  rw [this]; rfl
theorem in_strs {xs : List Str} {y : Str} (hx : ∀ x ∈ xs, PyData.strOk x = true) (hy : PyData.strOk y = true) (h : lk cx H a = some (.list (strsV xs))) : inP cx (.str y) (.ref a) H = some (xs.any fun x => x == y) := by
  unfold inP
  rw [rd_str hy, rd_strs hx h, Option.bind_some, Option.bind_some]
  dsimp only
  rw [List.any_map]
  congr 2
theorem madedue_ms {m : Nat} {pa : Addr} {ks : List Nat} (hwd : WordSp cx n) (hp : lk cx H pa = some (.list (natsV ks))) (hl : ks.length ≤ 1000) (h : Q (.str (dueM m ks)) H) : mwpSs cx n m_law_made_due [.int m, .ref pa, .unb, .unb] H (NQ Q) (RQ Q) := by
  refine S_cons ?_
  walk_at "st"
  refine W_iter hp (by rw [natsV_length]; first | lia | omega) ⟨by rw [natsV_length]; first | lia | omega, fun done acc H' => acc = strsV ((ks.take done.length).map wordK) ∧ H' = H, ⟨rfl, rfl⟩, ?_, ?_, ?_⟩
  · rintro _ _ _ ⟨_, rfl⟩; exact hp
  · rintro done x rest acc H' e ⟨rfl, rfl⟩
    have hx : (natsV ks)[done.length]? = some x := by rw [e]; simp
    rw [natsV_get?] at hx
    cases hk : ks[done.length]? with
    | none => rw [hk] at hx; cases hx
    | some k =>
    rw [hk] at hx
    simp only [Option.map_some, Option.some.injEq] at hx
    subst hx
    walk_at "st"
    refine hwd _ _ _ ⟨_, LE.refl _, ?_, rfl⟩
    rw [List.length_append, List.length_singleton, List.take_add_one, hk, List.map_append]
    simp [strsV]
  rintro acc H' ⟨rfl, rfl⟩ r1 hr1
  rw [natsV_length, List.take_length]
  have x1 := Ext.new hr1 (.list (strsV (ks.map wordK)))
  have e1 : lk cx (upd H' r1 (.list (strsV (ks.map wordK)))) r1 = some (.list (strsV (ks.map wordK))) := lk_same
  generalize upd H' r1 (.list (strsV (ks.map wordK))) = H1 at x1 e1
  have ok : ∀ x ∈ ks.map wordK, PyData.strOk x = true := fun x hx => by
    obtain ⟨k, _, rfl⟩ := List.mem_map.mp hx
    exact wordK_ok k
  have anyT : ((ks.map wordK).any fun x => x == Str.ofString "thing") = decide (∃ k ∈ ks, 8 < k) := by
    rw [List.any_map, Bool.eq_iff_iff, List.any_eq_true, decide_eq_true_iff]
    simp only [Function.comp, wk_thing, decide_eq_true_iff]
  have anyB : (¬ ∃ k ∈ ks, 8 < k) → ((ks.map wordK).any fun x => x == Str.ofString "box") = decide (∃ k ∈ ks, 5 ≤ k) := fun hn => by
    rw [List.any_map, Bool.eq_iff_iff, List.any_eq_true, decide_eq_true_iff]
    simp only [Function.comp, wk_box, Bool.and_eq_true, decide_eq_true_iff]
    constructor
    · rintro ⟨k, hk, q, _⟩; exact ⟨k, hk, q⟩
    · rintro ⟨k, hk, q⟩; exact ⟨k, hk, q, by rcases Nat.lt_or_ge 8 k with z | z; exact absurd ⟨k, hk, z⟩ hn; exact z⟩
  unfold dueM at h
  walk_at "st"
  refine S_cons ?_
  walk_at "st"
  refine ⟨by simp, new_abs fun r2 H2 x2 _ e2 => W_iter (lk_of e2) (by simp) ⟨fun done μ H' => (∃ z, μ = [.int m, .ref pa, .ref r1, z]) ∧ H' = H2 ∧ (done ≠ [] → ¬ ∃ k ∈ ks, 8 < k) ∧ (2 ≤ done.length → ¬ ∃ k ∈ ks, 5 ≤ k), ⟨⟨_, rfl⟩, rfl, fun q => absurd rfl q, fun q => by simp at q⟩, ?_, ?_, ?_⟩⟩
  · rintro _ _ _ ⟨_, rfl, _⟩; exact lk_of e2
  · rintro done x rest μ H3 e ⟨⟨z, rfl⟩, rfl, hd1, hd2⟩
    have ex2 := x2.lk e1
    match done, e with
    | [], e =>
      cases e
      refine S_cons ?_
      walk_at "st"
      refine onO_of (show cmpP cx .In _ _ _ = _ from in_strs ok ok_thing ex2) ?_
      rw [anyT]
      refine ifB_of (fun q => S_cons ?_) fun q => S_nil (S_nil ⟨_, LE.refl _, ⟨_, rfl⟩, rfl, fun _ => decide_eq_false_iff_not.mp q, fun q => by simp at q⟩)
      walk_at "st"
      rw [if_pos (decide_eq_true_iff.mp q)] at h
      exact ⟨_, (x1.trans x2).le, h⟩
    | [d0], e =>
      cases e
      have hn := hd1 (by simp)
      rw [if_neg hn] at h
      refine S_cons ?_
      walk_at "st"
      refine onO_of (show cmpP cx .In _ _ _ = _ from in_strs ok ok_box ex2) ?_
      rw [anyB hn]
      refine ifB_of (fun q => S_cons ?_) fun q => S_nil (S_nil ⟨_, LE.refl _, ⟨_, rfl⟩, rfl, fun _ => hn, fun _ => decide_eq_false_iff_not.mp q⟩)
      walk_at "st"
      rw [if_pos (decide_eq_true_iff.mp q)] at h
      exact ⟨_, (x1.trans x2).le, h⟩
    | d0 :: d1 :: r, e => simp at e
  · rintro μ H3 ⟨⟨z, rfl⟩, rfl, hd1, hd2⟩
    rw [if_neg (hd1 (by simp)), if_neg (hd2 (by simp))] at h
    refine S_cons ?_
    walk_at "st"
    by_cases hm : 5 < m
    · rw [show decide ((5 : Int) < (m : Int)) = true from decide_eq_true (by first | lia | omega)]
      rw [if_pos hm] at h
      exact ⟨.inr rfl, ⟨_, (x1.trans x2).le, h⟩⟩
    · rw [show decide ((5 : Int) < (m : Int)) = false from decide_eq_false (by first | lia | omega)]
      rw [if_neg hm] at h
      exact ⟨.inl rfl, ⟨_, (x1.trans x2).le, h⟩⟩
noncomputable def MadeDueSpec (cx : Cx) (n : Nat) : Prop := ∀ (m : Nat) (pa : Addr) (ks : List Nat) (H : HP) (Q : V → HP → Prop), lk cx H pa = some (.list (natsV ks)) → ks.length ≤ 1000 → Q (.str (dueM m ks)) H → CallP cx n 319 [.int m, .ref pa] H Q
inductive Jk (H : HP) : V → Prop
  | none : Jk H .none
  | bool (b : Bool) : Jk H (.bool b)
  | int (i : Int) : Jk H (.int i)
  | str (x : Str) : PyData.strOk x = true → Jk H (.str x)
  | list (a : Addr) (i : Int) : H a = some (.list [.int i]) → Jk H (.ref a)
  | tup (a : Addr) (i : Int) : H a = some (.tup [.int i]) → Jk H (.ref a)
theorem Jk.kn (h : Jk H v) : Kn H v := by
  cases h with
  | list a i q => exact .inl ⟨_, q⟩
  | tup a i q => exact .inr ⟨_, q⟩
  | _ => trivial
theorem Jk.ext (x : LE H H') (h : Jk H v) : Jk H' v := by
  cases h with
  | none => exact .none
  | bool b => exact .bool b
  | int i => exact .int i
  | str x h => exact .str x h
  | list a i q => exact .list a i (x _ _ q)
  | tup a i q => exact .tup a i (x _ _ q)
noncomputable def jd (v : V) (d : PyData) : Prop := match v with
  | .none => d = .none
  | .bool b => d = .bool b
  | .int i => d = .int i
  | .str x => d = .str x
  | _ => ∃ i, d = .list [.int i] ∨ d = .tuple [.int i]
theorem Jk.rd (h : Jk H v) (m : Nat) : ∃ d, rdV cx H (m + 1) v = some d ∧ jd v d := by
  cases h with
  | none => exact ⟨_, rfl, rfl⟩
  | bool b => exact ⟨_, rfl, rfl⟩
  | int i => exact ⟨_, rfl, rfl⟩
  | str x h => exact ⟨_, rd_str h m, rfl⟩
  | list a i q => exact ⟨_, by rw [rd_list (lk_of q), mapM_cons' (d := .int i) (ds := []) (by cases m <;> rfl) rfl]; rfl, i, .inl rfl⟩
  | tup a i q => exact ⟨_, by rw [rd_tup (lk_of q), mapM_cons' (d := .int i) (ds := []) (by cases m <;> rfl) rfl]; rfl, i, .inr rfl⟩
noncomputable def isInt (v : V) (i : Int) : Bool := match v with
  | .int j => j == i
  | _ => false
noncomputable def isB0 (v : V) : Bool := match v with
  | .bool b => !b
  | _ => false
theorem jd_eqv {d : PyData} (h : jd v d) {i : Int} (hi : i ≠ 0) (hi1 : i ≠ 1) : PyData.eqv d (.int i) = isInt v i ∧ PyData.eqv (.int i) d = isInt v i := by
  cases v with
  | int j => cases h; rw [eqv_int, eqv_int]; exact ⟨rfl, by show (i == j) = (j == i); exact Bool.beq_comm⟩
  | bool b =>
    cases h
    have : ∀ b : Bool, PyData.eqv (.bool b) (.int i) = false ∧ PyData.eqv (.int i) (.bool b) = false := fun b => by
      cases b <;> (unfold PyData.eqv; simp; omega)
    exact this b
  | none => cases h; constructor <;> (unfold PyData.eqv; rfl)
  | str x => cases h; constructor <;> (unfold PyData.eqv; rfl)
  | _ => obtain ⟨j, rfl | rfl⟩ := h <;> constructor <;> (unfold PyData.eqv; rfl)
theorem jd_eqv0 {d : PyData} (h : jd v d) : PyData.eqv (.int 0) d = (isInt v 0 || isB0 v) := by
  cases v with
  | int j => cases h; rw [eqv_int]; show (0 == j) = (j == 0 || false); rw [Bool.or_false]; exact Bool.beq_comm
  | bool b => cases h; cases b <;> (unfold PyData.eqv; rfl)
  | none => cases h; unfold PyData.eqv; rfl
  | str x => cases h; unfold PyData.eqv; rfl
  | _ => obtain ⟨j, rfl | rfl⟩ := h <;> (unfold PyData.eqv; rfl)
noncomputable def is03 (v : V) : Bool := isInt v 0 || isInt v 3
noncomputable def okF (f : V) : Bool := isInt f 0 || isInt f 1
noncomputable def dueP (call : Int) (v f : V) (k : Nat) : Str := if is03 v = false then Str.ofString "box" else if call = 2 then Str.ofString "" else if okF f = false then Str.ofString "field" else wordK k
theorem isP_false (h : Jk H v) : isP v (.bool false) = some (isB0 v) := by
  cases h with
  | bool b => cases b <;> rfl
  | _ => rfl
theorem okF_iff {i : Int} : okF (.int i) = (decide (0 ≤ i) && decide (i < 2)) := by
  show (i == 0 || i == 1) = _
  rw [Bool.eq_iff_iff]
  simp only [Bool.or_eq_true, beq_iff_eq, Bool.and_eq_true, decide_eq_true_iff]
  omega
theorem putdue_ms {f : V} {call : Int} {k : Nat} (hwd : WordSp cx n) (hnu : NumSp cx n) (hv : Jk H v) (hf : Jk H f) (h : Q (.str (dueP call v f k)) H) : mwpSs cx n m_law_put_due [.int call, v, f, .int k] H (NQ Q) (RQ Q) := by
  have uv : v ≠ .unb := by rintro rfl; cases hv
  have uf : f ≠ .unb := by rintro rfl; cases hf
  unfold dueP at h
  refine S_cons ?_
  walk_at "st"
  refine onL_of uv ⟨by simp, new_abs fun r1 H1 x1 _ e1 => ?_⟩
  obtain ⟨d, hd, hj⟩ := (hv.ext x1.le).rd (cx := cx) 0
  have hin : inP cx v (.ref r1) H1 = some ((isInt v 0 || isB0 v) || isInt v 3) := by
    unfold inP
    rw [hd, rd_tup (lk_of e1), mapM_cons' (d := .int 0) (ds := [.int 3]) rfl (mapM_cons' (d := .int 3) (ds := []) rfl rfl), Option.map_some, Option.bind_some, Option.bind_some]
    dsimp only
    rw [List.any_cons, List.any_cons, List.any_nil, Bool.or_false, jd_eqv0 hj, (jd_eqv hj (by decide) (by decide)).2]
  refine onO_of (show cmpP cx .NotIn v (.ref r1) H1 = some (!((isInt v 0 || isB0 v) || isInt v 3)) by show (inP cx v (.ref r1) H1).map _ = _; rw [hin]; rfl) ?_
  have box : is03 v = false → mwpSs cx n (.cons (.ret (.cstr (Str.ofString "box"))) .nil) [.int call, v, f, .int k] H1 (fun μ H => mwpSs cx n (.cons (.ite (.cmp (.loc 0) .Eq (.cint (2))) (.cons (.ret (.cstr (Str.ofString ""))) .nil) .nil) (.cons (.ite (.bop .Or (.cons (.not (.callf 286 (.cons (.loc 2) .nil))) (.cons (.not (.cmp2 (.cint (0)) .LtE (.loc 2) .Lt (.cint (2)))) .nil))) (.cons (.ret (.cstr (Str.ofString "field"))) .nil) .nil) (.cons (.ret (.callf 314 (.cons (.loc 3) .nil))) .nil))) μ H (NQ Q) (RQ Q)) (RQ Q) := fun q => by
    refine S_cons ?_
    walk_at "st"
    rw [if_pos q] at h
    exact ⟨_, x1.le, h⟩
  refine ifB_of (fun q => box ?_) fun q => onL_of uv (onO_of (show cmpP cx .Is v (.bool false) H1 = some (isB0 v) from isP_false hv) (ifB_of (fun q2 => box ?_) fun q2 => S_nil (S_cons ?_)))
  · unfold is03
    simp only [Bool.not_eq_true', Bool.or_eq_false_iff] at q
    rw [q.1.1, q.2]; rfl
  · unfold is03
    cases v with
    | bool b => rfl
    | _ => cases q2
  have h03 : is03 v = true := by
    unfold is03
    simp only [Bool.not_eq_false', Bool.or_eq_true] at q
    rw [q2] at q
    simp only [Bool.false_eq_true, or_false] at q
    rcases q with q | q <;> simp [q]
  rw [if_neg (by rw [h03]; decide)] at h
  walk_at "st"
  rw [eqv_int]
  refine ifB_of (fun q3 => S_cons ?_) fun q3 => S_nil (S_cons ?_)
  · walk_at "st"
    rw [if_pos (beq_iff_eq.mp q3)] at h
    exact ⟨_, x1.le, h⟩
  rw [if_neg (fun z => by rw [z] at q3; cases q3)] at h
  have fld : okF f = false → mwpSs cx n (.cons (.ret (.cstr (Str.ofString "field"))) .nil) [.int call, v, f, .int k] H1 (fun μ H => mwpSs cx n (.cons (.ret (.callf 314 (.cons (.loc 3) .nil))) .nil) μ H (NQ Q) (RQ Q)) (RQ Q) := fun q => by
    refine S_cons ?_
    walk_at "st"
    rw [if_pos q] at h
    exact ⟨_, x1.le, h⟩
  walk_at "st"
  refine onL_of uf (hnu _ _ _ (hf.ext x1.le).kn ?_)
  cases en : numB f with
  | false =>
    walk_at "st"
    refine fld ?_
    cases f with
    | int i =>
      rw [okF_iff]
      dsimp only [numB] at en
      by_cases hz : 0 ≤ i ∧ i < 2
      · rw [decide_eq_true (show -(10 : Int) ^ 60 < i by omega), decide_eq_true (show i < (10 : Int) ^ 60 by omega)] at en; cases en
      · rw [Bool.eq_false_iff]
        simp only [ne_eq, Bool.and_eq_true, decide_eq_true_iff]
        exact hz
    | _ => rfl
  | true =>
    cases f with
    | int i =>
      walk_at "st"
      have fin : okF (.int i) = true → mwpSs cx n .nil [.int call, v, .int i, .int k] H1 (fun μ H => mwpSs cx n (.cons (.ret (.callf 314 (.cons (.loc 3) .nil))) .nil) μ H (NQ Q) (RQ Q)) (RQ Q) := fun q => by
        refine S_nil (S_cons ?_)
        walk_at "st"
        rw [if_neg (by rw [q]; decide)] at h
        exact hwd _ _ _ ⟨_, x1.le, h⟩
      refine ifB_of (fun q4 => ?_) fun q4 => fld (by rw [okF_iff, q4]; rfl)
      by_cases hi : i < 2
      · rw [decide_eq_true hi]
        exact fin (by rw [okF_iff, q4, decide_eq_true hi]; rfl)
      · rw [decide_eq_false hi]
        exact fld (by rw [okF_iff, decide_eq_false hi, Bool.and_false])
    | _ => cases en
noncomputable def PutDueSpec (cx : Cx) (n : Nat) : Prop := ∀ (call : Int) (v f : V) (k : Nat) (H : HP) (Q : V → HP → Prop), Jk H v → Jk H f → Q (.str (dueP call v f k)) H → CallP cx n 326 [.int call, v, f, .int k] H Q
end
end Mine
end

section
namespace Mine
open PySem PyProof.Rows
section
variable {cx : Cx} {rm dx ra : Addr} {N : Nat} {B : Bx} {H H' H1 : HP} {n : Nat} {a b r : Addr} {o : O} {Q : V → HP → Prop} {v u w : V} {vs : List V}
noncomputable def m_law_called : MSs :=
  (.cons (.try_ (.cons (.ite (.cmp (.loc 1) .Eq (.cint (0))) (.cons (.xdo (some 5) (.mt 249 (Str.ofString "made") 197 0) (.cons (.loc 2) .nil))
      .nil) (.cons (.ite (.cmp (.loc 1) .Eq (.cint (1))) (.cons (.xdo (some 5) (.mt 249 (Str.ofString "put") 204 0) (.cons (.loc 3) (.cons (.loc 4) (.cons (.sub (.loc 2) (.cint (0))) .nil))))
        .nil) (.cons (.xdo (some 5) (.mt 249 (Str.ofString "told") 211 0) (.cons (.loc 3) .nil))
        .nil))
      .nil))
    .nil) (.cons 56 6 (.tup (.cons (.callq 279 (.cons (.loc 6) (.cons (.cstr (Str.ofString "thing")) .nil))) (.cons .cnone .nil))) (.cons 68 6 (.tup (.cons (.callq 279 (.cons (.loc 6) (.cons (.cstr (Str.ofString "box")) .nil))) (.cons .cnone .nil))) (.cons 80 6 (.tup (.cons (.callq 279 (.cons (.loc 6) (.cons (.cstr (Str.ofString "field")) .nil))) (.cons .cnone .nil))) (.cons 92 6 (.tup (.cons (.callq 279 (.cons (.loc 6) (.cons (.cstr (Str.ofString "room")) .nil))) (.cons .cnone .nil))) .nil)))))
  (.cons (.ret (.tup (.cons (.cstr (Str.ofString "")) (.cons (.loc 5) .nil))))
  .nil))
noncomputable def TupR (cx : Cx) (H : HP) (Q : V → HP → Prop) (s : String) : Prop := ∀ tb H', Ext cx H H' → H' tb = some (.tup [.str (Str.ofString s), .none]) → Q (.ref tb) H'
noncomputable def hexp (s : String) : ME := .tup (.cons (.callq 279 (.cons (.loc 6) (.cons (.cstr (Str.ofString s)) .nil))) (.cons .cnone .nil))
noncomputable def hs4 : MHs := .cons 56 6 (hexp "thing") (.cons 68 6 (hexp "box") (.cons 80 6 (hexp "field") (.cons 92 6 (hexp "room") .nil)))
theorem han {s : String} {C : Addr} (hcl : ClassSpec cx n) (hC : C ∈ cx.exs) (h : TupR cx H Q s) : ∀ e, Fresh cx H e → ∀ μ : List V, μ.length = 7 → mwpE cx n (hexp s) (setL μ 6 (.ref e)) (upd H e (.exo C)) (RQ Q) := by
  intro e he μ hμ
  have g : getL (setL μ 6 (.ref e)) 6 = .ref e := getL_setL_same _ _ _ (by rw [hμ]; decide)
  show onL (getL (setL μ 6 (.ref e)) 6) _
  rw [g]
  walk_at "st"
  refine hcl _ _ _ _ _ (upd_same _ _ _) hC ?_
  walk_at "st"
  exact ⟨by simp, fun tb htb => RQ.here (h tb _ ((Ext.new he _).new' htb _) (upd_same _ _ _))⟩
theorem han56 (hcl : ClassSpec cx n) (hx : cx.exs = [44, 56, 68, 80, 92]) (h : TupR cx H Q "thing") : hanP cx n 7 H (RQ Q) 56 hs4 := ⟨fun _ => han hcl (by rw [hx]; decide) h, fun q => absurd rfl q⟩
theorem han68 (hcl : ClassSpec cx n) (hx : cx.exs = [44, 56, 68, 80, 92]) (h : TupR cx H Q "box") : hanP cx n 7 H (RQ Q) 68 hs4 := ⟨fun q => absurd q (by decide), fun _ => ⟨fun _ => han hcl (by rw [hx]; decide) h, fun q => absurd rfl q⟩⟩
theorem han80 (hcl : ClassSpec cx n) (hx : cx.exs = [44, 56, 68, 80, 92]) (h : TupR cx H Q "field") : hanP cx n 7 H (RQ Q) 80 hs4 := ⟨fun q => absurd q (by decide), fun _ => ⟨fun q => absurd q (by decide), fun _ => ⟨fun _ => han hcl (by rw [hx]; decide) h, fun q => absurd rfl q⟩⟩⟩
theorem han92 (hcl : ClassSpec cx n) (hx : cx.exs = [44, 56, 68, 80, 92]) (h : TupR cx H Q "room") : hanP cx n 7 H (RQ Q) 92 hs4 := ⟨fun q => absurd q (by decide), fun _ => ⟨fun q => absurd q (by decide), fun _ => ⟨fun q => absurd q (by decide), fun _ => ⟨fun _ => han hcl (by rw [hx]; decide) h, fun q => absurd rfl q⟩⟩⟩⟩
theorem called0_ms {la : Addr} {f : V} (hcl : ClassSpec cx n) (hx : cx.exs = [44, 56, 68, 80, 92]) (hmd : MadeSpec cx n) (R : RoomAt N rm dx ra B H) (hl : lk cx H la = some (.list vs)) (hle1 : vs.length ≤ 1000) (hts0 : ∀ v ∈ vs, (∃ t, ThAt cx H v t) ∨ BadT cx H v)
    (x1 : (∃ v ∈ vs, BadT cx H v) → TupR cx H Q "thing")
    (x2 : ∀ ts, All2 (ThAt cx H) vs ts → (∃ t ∈ ts, t.1 = true ∧ t.2 ∉ plI B) → TupR cx H Q "box")
    (x3 : ∀ ts : List Th, All2 (ThAt cx H) vs (ts.map (plt B)) → (∀ t ∈ ts, OkT B t) → N < pl B B.length + 1 + ts.length → TupR cx H Q "room")
    (hQ : ∀ ts : List Th, All2 (ThAt cx H) vs (ts.map (plt B)) → (∀ t ∈ ts, OkT B t) → pl B B.length + 1 + ts.length ≤ N → ∀ ra' tb H', RoomAt N rm dx ra' (B ++ [ts]) H' → But dx H H' → KZ cx H H' → H' tb = some (.tup [.str (Str.ofString ""), .int (pl B B.length)]) → Q (.ref tb) H') :
    mwpSs cx n m_law_called [.ref rm, .int 0, .ref la, v, f, .unb, .unb] H (NQ Q) (RQ Q) := by
  refine S_cons ?_
  walk_at "st"
  refine S_cons ?_
  walk_at "st"
  rw [eqv_int]
  refine ifB_t' rfl (S_cons ?_)
  walk_at "st"
  refine ⟨R.no fun _ _ => rfl, hmd _ _ _ _ _ _ _ _ _ R hl hle1 hts0 (fun q => han56 hcl hx (x1 q)) (fun ts h1 h2 => han68 hcl hx (x2 ts h1 h2)) (fun ts h1 h2 h3 => han92 hcl hx (x3 ts h1 h2 h3)) fun ts h1 h2 h3 ra' H' R' hra hb hz => ?_⟩
  walk_at "st"
  refine S_nil (S_nil (S_cons ?_))
  walk_at "st"
  refine ⟨by simp, new_abs fun tb H2 x2 hf e2 => RQ.here (hQ ts h1 h2 h3 ra' tb H2 (R'.ext x2.le) (fun a o ha e => x2.le _ _ (hb a o ha e)) (fun a l q1 q2 => x2.z a l q1 (hz a l q1 q2)) e2)⟩
theorem called1_ms {la : Addr} {f t' : V} {vs : List V} (hcl : ClassSpec cx n) (hx : cx.exs = [44, 56, 68, 80, 92])
    (hpt : ∀ (N : Nat) (rm dx ra : Addr) (B : Bx) (v f t' : V) (H : HP) (Q : V → HP → Prop), RoomAt N rm dx ra B H → Kn H v → Kn H f → ((∃ t, ThAt cx H t' t) ∨ BadT cx H t') → (¬ InPl B v → Q (.exc 68) H) →
      (∀ k fl, v = .int (pl B k) → B[k]? = some fl → (¬ ∃ j : Nat, f = .int j ∧ j < fl.length) → Q (.exc 80) H) →
      (∀ k fl (j : Nat), v = .int (pl B k) → B[k]? = some fl → f = .int j → j < fl.length → BadT cx H t' → Q (.exc 56) H) →
      (∀ k fl (j : Nat) t, v = .int (pl B k) → B[k]? = some fl → f = .int j → j < fl.length → ThAt cx H t' t → t.1 = true → t.2 ∉ plI B → Q (.exc 68) H) →
      (∀ k fl (j : Nat) t, v = .int (pl B k) → B[k]? = some fl → f = .int j → j < fl.length → ThAt cx H t' (plt B t) → OkT B t → ∀ H', RoomAt N rm dx ra (B.set k (fl.set j t)) H' → But ra H H' → KZ cx H H' → Q .none H') → CallX cx n 204 [.ref rm, v, f, t'] H Q)
    (R : RoomAt N rm dx ra B H) (hkv : Kn H v) (hkf : Kn H f) (hl : lk cx H la = some (.list (t' :: vs))) (hle : (t' :: vs).length ≤ 1000) (hkt : (∃ t, ThAt cx H t' t) ∨ BadT cx H t')
    (x1 : ¬ InPl B v → TupR cx H Q "box")
    (x2 : ∀ k fl, v = .int (pl B k) → B[k]? = some fl → (¬ ∃ j : Nat, f = .int j ∧ j < fl.length) → TupR cx H Q "field")
    (x3 : ∀ k fl (j : Nat), v = .int (pl B k) → B[k]? = some fl → f = .int j → j < fl.length → BadT cx H t' → TupR cx H Q "thing")
    (x4 : ∀ k fl (j : Nat) t, v = .int (pl B k) → B[k]? = some fl → f = .int j → j < fl.length → ThAt cx H t' t → t.1 = true → t.2 ∉ plI B → TupR cx H Q "box")
    (hQ : ∀ k fl (j : Nat) t, v = .int (pl B k) → B[k]? = some fl → f = .int j → j < fl.length → ThAt cx H t' (plt B t) → OkT B t → ∀ tb H', RoomAt N rm dx ra (B.set k (fl.set j t)) H' → But ra H H' → KZ cx H H' → H' tb = some (.tup [.str (Str.ofString ""), .none]) → Q (.ref tb) H') :
    mwpSs cx n m_law_called [.ref rm, .int 1, .ref la, v, f, .unb, .unb] H (NQ Q) (RQ Q) := by
  have uv : v ≠ .unb := by rintro rfl; exact hkv
  have uf : f ≠ .unb := by rintro rfl; exact hkf
  refine S_cons ?_
  walk_at "st"
  refine S_cons ?_
  walk_at "st"
  rw [eqv_int]
  refine ifB_f' rfl (S_cons ?_)
  walk_at "st"
  rw [eqv_int]
  refine ifB_t' rfl (S_cons ?_)
  walk_at "st"
  refine ⟨R.no fun _ _ => rfl, onL_of uv (onL_of uf (W_sub (sq_l hl) (by decide) (by first | lia | omega) (v := t') rfl ?_))⟩
  refine hpt _ _ _ _ _ _ _ _ _ _ R hkv hkf hkt (fun q => han68 hcl hx (x1 q)) (fun k fl h1 h2 h3 => han80 hcl hx (x2 k fl h1 h2 h3)) (fun k fl j h1 h2 h3 h4 h5 => han56 hcl hx (x3 k fl j h1 h2 h3 h4 h5)) (fun k fl j t h1 h2 h3 h4 h5 h6 h7 => han68 hcl hx (x4 k fl j t h1 h2 h3 h4 h5 h6 h7)) fun k fl j t h1 h2 h3 h4 h5 h6 H' R' hb hz => ?_
  walk_at "st"
  refine S_nil (S_nil (S_nil (S_cons ?_)))
  walk_at "st"
  refine ⟨by simp, new_abs fun tb H2 x2 hf e2 => RQ.here (hQ k fl j t h1 h2 h3 h4 h5 h6 tb H2 (R'.ext x2.le) (fun a o ha e => x2.le _ _ (hb a o ha e)) (fun a l q1 q2 => x2.z a l q1 (hz a l q1 q2)) e2)⟩
theorem called2_ms {la : Addr} {f : V} (hcl : ClassSpec cx n) (hx : cx.exs = [44, 56, 68, 80, 92]) (htd : ToldSpec cx n) (R : RoomAt N rm dx ra B H) (hkv : Kn H v)
    (x1 : ¬ InPl B v → TupR cx H Q "box")
    (hQ : ∀ k fl, v = .int (pl B k) → B[k]? = some fl → ∀ r vs tb H', Ext cx H H' → H' r = some (.list vs) → All2 (ThAt cx H') vs (fl.map (plt B)) → H' tb = some (.tup [.str (Str.ofString ""), .ref r]) → Q (.ref tb) H') :
    mwpSs cx n m_law_called [.ref rm, .int 2, .ref la, v, f, .unb, .unb] H (NQ Q) (RQ Q) := by
  have uv : v ≠ .unb := by rintro rfl; exact hkv
  refine S_cons ?_
  walk_at "st"
  refine S_cons ?_
  walk_at "st"
  rw [eqv_int]
  refine ifB_f' rfl (S_cons ?_)
  walk_at "st"
  rw [eqv_int]
  refine ifB_f' rfl (S_cons ?_)
  walk_at "st"
  refine ⟨R.no fun _ _ => rfl, onL_of uv (htd _ _ _ _ _ _ _ _ R hkv (fun q => han68 hcl hx (x1 q)) fun k fl h1 h2 r vs H' x' _ hr ha => ?_)⟩
  walk_at "st"
  refine S_nil (S_nil (S_nil (S_cons ?_)))
  walk_at "st"
  refine ⟨by simp, new_abs fun tb H2 x2 hf e2 => RQ.here (hQ k fl h1 h2 r vs tb H2 (x'.trans x2) (x2.le _ _ hr) (ha.imp fun _ _ q => q.ext x2) e2)⟩
noncomputable def PutSpec (cx : Cx) (n : Nat) : Prop := ∀ (N : Nat) (rm dx ra : Addr) (B : Bx) (v f t' : V) (H : HP) (Q : V → HP → Prop), RoomAt N rm dx ra B H → Kn H v → Kn H f → ((∃ t, ThAt cx H t' t) ∨ BadT cx H t') → (¬ InPl B v → Q (.exc 68) H) →
      (∀ k fl, v = .int (pl B k) → B[k]? = some fl → (¬ ∃ j : Nat, f = .int j ∧ j < fl.length) → Q (.exc 80) H) →
      (∀ k fl (j : Nat), v = .int (pl B k) → B[k]? = some fl → f = .int j → j < fl.length → BadT cx H t' → Q (.exc 56) H) →
      (∀ k fl (j : Nat) t, v = .int (pl B k) → B[k]? = some fl → f = .int j → j < fl.length → ThAt cx H t' t → t.1 = true → t.2 ∉ plI B → Q (.exc 68) H) →
      (∀ k fl (j : Nat) t, v = .int (pl B k) → B[k]? = some fl → f = .int j → j < fl.length → ThAt cx H t' (plt B t) → OkT B t → ∀ H', RoomAt N rm dx ra (B.set k (fl.set j t)) H' → But ra H H' → KZ cx H H' → Q .none H') → CallX cx n 204 [.ref rm, v, f, t'] H Q
noncomputable def B0 : Bx := [[(false, 0), (false, 0)], [(false, 5), (true, 0)]]
noncomputable def row0 : List Int := [8, 0, 0, 8, 10, 1, 0, 0, 0, 0, 0, 0]
theorem row_B0 : rowN 12 B0 = row0 := by decide
theorem plI_B0 : plI B0 = [0, 3] := by decide
theorem pl_B0 : pl B0 B0.length = 6 := by decide
theorem wfb_B0 : WFB B0 := by
  refine ⟨by decide, fun f hf t ht e => ?_⟩
  simp only [B0, List.mem_cons, List.not_mem_nil, or_false] at hf
  rcases hf with rfl | rfl <;> simp only [List.mem_cons, List.not_mem_nil, or_false] at ht <;> rcases ht with rfl | rfl <;> first | (cases e; done) | exact ⟨0, rfl, by decide⟩
noncomputable def m_law_behind : MSs :=
  (.cons (.assign 4 (.list (.cons (.cint (8)) (.cons (.cint (0)) (.cons (.cint (0)) (.cons (.cint (8)) (.cons (.cint (10)) (.cons (.cint (1)) (.cons (.cint (0)) (.cons (.cint (0)) (.cons (.cint (0)) (.cons (.cint (0)) (.cons (.cint (0)) (.cons (.cint (0)) .nil))))))))))))))
  (.cons (.assign 5 (.list .nil))
  (.cons (.for_ 6 (.loc 1) (.cons (.expr (.app (.loc 5) (.bin .Add (.bin .Mult (.cint (2)) (.sub (.loc 6) (.cint (1)))) (.callb .int (.cons (.cmp (.sub (.loc 6) (.cint (0))) .Eq (.cstr (Str.ofString "box"))) .nil)))))
    .nil))
  (.cons (.ite (.cmp (.loc 0) .Eq (.cint (0))) (.cons (.ret (.bin .Add (.bin .Add (.bin .Add (.slice (.loc 4) .cnone (.cint (6))) (.list (.cons (.bin .Mult (.cint (4)) (.callb .len (.cons (.loc 5) .nil))) .nil))) (.loc 5)) (.slice (.loc 4) (.bin .Add (.cint (7)) (.callb .len (.cons (.loc 5) .nil))) .cnone)))
    .nil) .nil)
  (.cons (.ite (.cmp (.loc 0) .Eq (.cint (1))) (.cons (.setSub (.loc 4) (.bin .Add (.bin .Add (.loc 2) (.cint (1))) (.loc 3)) (.sub (.loc 5) (.cint (0))))
    .nil) .nil)
  (.cons (.ret (.loc 4))
  .nil))))))
theorem behind_ms {la : Addr} {call : Int} {ts : List Th} {f : V} (hl : lk cx H la = some (.list vs)) (hle : ts.length ≤ 1000) (hts : All2 (ThAt cx H) vs (ts.map (plt B0))) (hok : ∀ t ∈ ts, OkT B0 t)
    (h0 : call = 0 → 7 + ts.length ≤ 12 ∧ ∀ r H', Ext cx H H' → H' r = some (.list (intsV (rowN 12 (B0 ++ [ts])))) → Q (.ref r) H')
    (h1 : call ≠ 0 → call = 1 ∧ ∃ k fl j t, v = .int (pl B0 k) ∧ B0[k]? = some fl ∧ f = .int (j : Nat) ∧ j < fl.length ∧ ts = [t] ∧ ∀ r H', Ext cx H H' → H' r = some (.list (intsV (rowN 12 (B0.set k (fl.set j t))))) → Q (.ref r) H') :
    mwpSs cx n m_law_behind [.int call, .ref la, v, f, .unb, .unb, .unb] H (NQ Q) (RQ Q) := by
  have hvl := hts.1
  rw [List.length_map] at hvl
  refine S_cons ?_
  walk_at "st"
  refine ⟨by simp, new_abs fun r1 H1 x1 f1 e1 => S_cons ?_⟩
  replace e1 : H1 r1 = some (.list (intsV row0)) := e1
  walk_at "st"
  refine ⟨by simp, new_abs fun r2 H2 x2 f2 e2 => S_cons ?_⟩
  have n12 : r1 ≠ r2 := f2.ne' e1
  replace e1 := x2.le _ _ e1
  have x12 := x1.trans x2
  have hr2 : Fresh cx H r2 := x1.fresh f2
  have hr1 := f1
  clear f2 f1 x2 x1
  walk_at "st"
  refine W_iter (x12.lk hl) (by first | lia | omega) ⟨fun done μ H' => (∃ z, μ = [.int call, .ref la, v, f, .ref r1, .ref r2, z]) ∧ Ext cx H H' ∧ H' r1 = some (.list (intsV row0)) ∧ H' r2 = some (.list (intsV ((ts.take done.length).map (word (pl B0))))), ⟨⟨_, rfl⟩, x12, e1, e2⟩, ?_, ?_, ?_⟩
  · rintro _ _ _ ⟨_, x, _⟩; exact x.lk hl
  · rintro done x rest μ H3 e ⟨⟨z, rfl⟩, x3, g1, g2⟩
    obtain ⟨t', ht', b, rfl, hb⟩ := hts.get (i := done.length) (x := x) (by rw [e]; simp)
    rw [List.getElem?_map] at ht'
    cases ht : ts[done.length]? with
    | none => rw [ht] at ht'; cases ht'
    | some t =>
    rw [ht] at ht'; cases ht'
    have htl := (List.getElem?_eq_some_iff.mp ht).1
    have hb3 := x3.lk hb
    refine S_cons ?_
    walk_at "st"
    refine ⟨W_la g2, W_t1 hb3 ?_⟩
    walk_at "st"
    refine ⟨mulOk_l (by decide), W_t0 hb3 (onO_of (eqs (rd_str (ths_ok _) _) ok_box) ?_)⟩
    walk_at "st"
    rw [eqv_str, ths_b]
    refine W_app g2 (by rw [ints_length, List.length_map, List.length_take]; first | lia | omega) (S_nil ⟨_, LE.refl _, ⟨_, rfl⟩, x3.upd hr2.1 hr2.2.2 _, by rw [upd_ne _ n12]; exact g1, ?_⟩)
    rw [upd_same, List.length_append, List.length_singleton, List.take_add_one, ht, List.map_append, ← ints_append]
    congr 3
    show [V.int _] = [V.int (word (pl B0) t)]
    rw [← word_plt]
    unfold wordP
    cases (plt B0 t).1 <;> simp
  rintro μ H3 ⟨⟨z, rfl⟩, x3, g1, g2⟩
  rw [hvl, List.take_length] at g2
  refine S_cons ?_
  walk_at "st"
  rw [eqv_int]
  have wl : (intsV (ts.map (word (pl B0)))).length = ts.length := by rw [ints_length, List.length_map]
  refine ifB_of (fun q => S_cons ?_) fun q => S_nil (S_cons ?_)
  · obtain ⟨hfit, hQ⟩ := h0 (beq_iff_eq.mp q)
    walk_at "st"
    refine W_slice (lk_of g1) (show cutLo _ .none = some 0 from rfl) (cutHi_nn (by decide)) (by decide) (new_abs fun r3 H4 x4 _ g3 => ?_)
    replace g1 := x4.le _ _ g1
    replace g2 := x4.le _ _ g2
    walk_at "st"
    refine W_len (sq_l (lk_of g2)) (by first | lia | omega) ?_
    walk_at "st"
    refine ⟨mulOk_l (by decide), by simp, new_abs fun r4 H5 x5 _ g4 => ?_⟩
    replace g1 := x5.le _ _ g1
    replace g2 := x5.le _ _ g2
    replace g3 := x5.le _ _ g3
    refine W_cat (lst_l (lk_of g3)) (lst_l (lk_of g4)) (by simp [cut]; first | lia | omega) (new_abs fun r5 H6 x6 _ g5 => ?_)
    replace g1 := x6.le _ _ g1
    replace g2 := x6.le _ _ g2
    refine W_cat (lst_l (lk_of g5)) (lst_l (lk_of g2)) (by simp [cut, wl]; first | lia | omega) (new_abs fun r6 H7 x7 _ g6 => ?_)
    replace g1 := x7.le _ _ g1
    replace g2 := x7.le _ _ g2
    walk_at "st"
    refine W_len (sq_l (lk_of g2)) (by first | lia | omega) ?_
    walk_at "st"
    rw [wl] at g6 ⊢
    refine W_slice (lk_of g1) (cutLo_nn (by first | lia | omega)) (show cutHi _ .none = some _ from rfl) (by decide) (new_abs fun r7 H8 x8 _ g7 => ?_)
    replace g6 := x8.le _ _ g6
    refine W_cat (lst_l (lk_of g6)) (lst_l (lk_of g7)) (by simp [cut, wl, row0, intsV]; first | lia | omega) (new_abs fun r8 H9 x9 _ g8 => ?_)
    refine RQ.here (hQ r8 H9 (x3.trans (x4.trans (x5.trans (x6.trans (x7.trans (x8.trans x9)))))) ?_)
    rw [g8, ← rowN_app (N := 12) (B := B0) (by exact wfb_B0) (by rw [pl_B0]; omega) hok, row_B0, pl_B0, cut_ints, cut_ints]
    rw [ints_length, show (7 + (ts.length : Int)).toNat = 7 + ts.length by omega, Nat.min_eq_left (show 7 + ts.length ≤ row0.length by show 7 + ts.length ≤ 12; omega), List.take_of_length_le (Nat.le_refl row0.length)]
    rw [show (6 : Nat) + 1 + ts.length = 7 + ts.length by omega]
    simp [intsV, row0]
  · obtain ⟨rfl, k, fl, j, t, rfl, hk, rfl, hj, rfl, hQ⟩ := h1 (fun z => by rw [z] at q; cases q)
    walk_at "st"
    rw [eqv_int]
    refine ifB_t' rfl (S_cons ?_)
    walk_at "st"
    refine W_sub (sq_l (lk_of g2)) (by decide) (by rw [wl]; show 1 ≤ 16777216; decide) (v := .int (word (pl B0) t)) rfl ?_
    walk_at "st"
    rw [show (pl B0 k : Int) + 1 + (j : Int) = ((pl B0 k + 1 + j : Nat) : Int) from by first | lia | omega]
    have hsh : Shp B0 row0 := by rw [← row_B0]; exact shp_N (by rw [pl_B0]; decide) (by decide)
    have hfl : fl[j]? = some fl[j] := List.getElem?_eq_getElem hj
    have hxl := (List.getElem?_eq_some_iff.mp (hsh.fld hk hfl)).1
    refine W_setSub g1 (by first | lia | omega) (by decide) (by rw [ints_length, Int.toNat_natCast]; exact hxl) (S_nil (S_cons ?_))
    walk_at "st"
    refine RQ.here (hQ r1 _ (x3.upd hr1.1 hr1.2.2 _) ?_)
    rw [upd_same, Int.toNat_natCast, ints_set, ← row_B0, rowN_set hk hj]
end
end Mine
end

section
namespace Mine
open PySem PyProof.Rows
noncomputable def thD (t : Th) : PyData := .tuple [.str (ths t), .int t.2]
theorem eqv_thD (t : Th) : PyData.eqv (thD t) (thD t) = true := by
  unfold thD
  rw [PyData.eqv, PyData.eqvAll, PyData.eqvAll, PyData.eqvAll]
  simp [PyData.eqv]
theorem eqv_ths : ∀ ts : List Th, PyData.eqvAll (ts.map thD) (ts.map thD) = true
  | [] => rfl
  | t :: ts => by rw [List.map_cons, PyData.eqvAll, eqv_thD, eqv_ths ts]; rfl
section
variable {cx : Cx} {rm dx ra : Addr} {N : Nat} {B : Bx} {H H' H1 : HP} {n : Nat} {a b r : Addr} {o : O} {Q : V → HP → Prop} {v u w : V} {vs : List V}
noncomputable def m_law_sound : MSs :=
  (.cons (.assign 3 (.bin .Add (.list (.cons (.cint (0)) (.cons (.cint (3)) .nil))) (.bin .Mult (.list (.cons (.cint (6)) .nil)) (.callb .int (.cons (.cmp (.loc 2) .Gt (.cint (6))) .nil)))))
  (.cons (.ite (.bop .Or (.cons (.not (.callf 272 (.cons (.callm 249 (Str.ofString "cells") 246 0 .nil) (.cons (.loc 1) .nil)))) (.cons (.not (.callf 272 (.cons (.list (.cons (.callm 249 (Str.ofString "used") 239 0 .nil) .nil)) (.cons (.list (.cons (.loc 2) .nil)) .nil)))) .nil))) (.cons (.ret (.cbool false))
    .nil) .nil)
  (.cons (.ite (.not (.callf 272 (.cons (.callm 249 (Str.ofString "places") 218 0 .nil) (.cons (.loc 3) .nil)))) (.cons (.ret (.cbool false))
    .nil) .nil)
  (.cons (.ite (.cmp (.loc 2) .Gt (.cint (10))) (.cons (.ret (.cbool true))
    .nil) .nil)
  (.cons (.assign 4 (.callm 249 (Str.ofString "made") 197 0 (.cons (.list (.cons (.tup (.cons (.cstr (Str.ofString "number")) (.cons (.cint (4)) .nil))) .nil)) .nil)))
  (.cons (.ite (.bop .Or (.cons (.not (.callf 272 (.cons (.list (.cons (.loc 4) (.cons (.callm 249 (Str.ofString "used") 239 0 .nil) .nil))) (.cons (.list (.cons (.loc 2) (.cons (.bin .Add (.loc 2) (.cint (2))) .nil))) .nil)))) (.cons (.cmp (.callm 249 (Str.ofString "told") 211 0 (.cons (.loc 4) .nil)) .NotEq (.list (.cons (.tup (.cons (.cstr (Str.ofString "number")) (.cons (.cint (4)) .nil))) .nil))) .nil))) (.cons (.ret (.cbool false))
    .nil) .nil)
  (.cons (.ret (.callf 272 (.cons (.callm 249 (Str.ofString "cells") 246 0 .nil) (.cons (.bin .Add (.bin .Add (.slice (.loc 1) .cnone (.loc 2)) (.list (.cons (.cint (4)) (.cons (.cint (8)) .nil)))) (.slice (.loc 1) (.bin .Add (.loc 2) (.cint (2))) .cnone)) .nil))))
  .nil)))))))
theorem All2.cons_inv {α β : Type} {R : α → β → Prop} {x : α} {y : β} {xs : List α} {ys : List β} (h : All2 R (x :: xs) (y :: ys)) : R x y ∧ All2 R xs ys :=
  ⟨h.2 0 x y rfl rfl, by have := h.1; simpa using this, fun i u v hu hv => h.2 (i + 1) u v (by simpa using hu) (by simpa using hv)⟩
theorem ths_inj {t t' : Th} (h : thV t = thV t') : t = t' := by
  obtain ⟨b, v⟩ := t
  obtain ⟨b', v'⟩ := t'
  unfold thV at h
  injection h with h1 h2
  injection h2 with h2 _
  injection h2 with h2
  injection h1 with h1
  dsimp only at h1 h2
  subst h2
  cases b <;> cases b'
  · rfl
  · exact absurd h1 (show ¬ Str.ofString "number" = Str.ofString "box" by decide)
  · exact absurd h1 (show ¬ Str.ofString "box" = Str.ofString "number" by decide)
  · rfl
theorem ThAt.inj {t t' : Th} (h : ThAt cx H v t) (h' : ThAt cx H v t') : t = t' := by
  obtain ⟨b, rfl, hb⟩ := h
  obtain ⟨b', e, hb'⟩ := h'
  cases e
  rw [hb] at hb'
  exact ths_inj (by injection hb' with q; injection q)
theorem all_inj : ∀ {vs : List V} {ts ts' : List Th}, All2 (ThAt cx H) vs ts → All2 (ThAt cx H) vs ts' → ts = ts'
  | [], [], [], _, _ => rfl
  | [], _ :: _, _, h, _ => by have := h.1; cases this
  | [], _, _ :: _, _, h => by have := h.1; cases this
  | _ :: _, [], _, h, _ => by have := h.1; cases this
  | _ :: _, _, [], _, h => by have := h.1; cases this
  | v :: vs, t :: ts, t' :: ts', h, h' => by
    obtain ⟨a1, a2⟩ := h.cons_inv
    obtain ⟨b1, b2⟩ := h'.cons_inv
    rw [a1.inj b1, all_inj a2 b2]
theorem rd_th {t : Th} (h : ThAt cx H v t) : rdV cx H 2 v = some (thD t) := by
  obtain ⟨b, rfl, hb⟩ := h
  rw [rd_tup hb, show (thV t).mapM (rdV cx H 1) = some [.str (ths t), .int t.2] from mapM_cons' (rd_str (ths_ok t) 0) (mapM_cons' rfl rfl)]
  rfl
theorem rd_ths {ts : List Th} (h : lk cx H a = some (.list vs)) (ha : All2 (ThAt cx H) vs ts) : rdV cx H 3 (.ref a) = some (.list (ts.map thD)) := by
  rw [rd_list h]
  have : ∀ {vs : List V} {ts : List Th}, All2 (ThAt cx H) vs ts → vs.mapM (rdV cx H 2) = some (ts.map thD) := by
    intro vs
    induction vs with
    | nil => intro ts h; cases ts with
      | nil => rfl
      | cons => have := h.1; cases this
    | cons v vs ih => intro ts h; cases ts with
      | nil => have := h.1; cases this
      | cons t ts =>
        obtain ⟨a1, a2⟩ := h.cons_inv
        exact mapM_cons' (rd_th a1) (ih a2)
  rw [this ha]; rfl
theorem eq_ths {ts : List Th} {vs ws : List V} (h1 : lk cx H a = some (.list vs)) (h2 : lk cx H b = some (.list ws)) (a1 : All2 (ThAt cx H) vs ts) (a2 : All2 (ThAt cx H) ws ts) : cmpP cx .NotEq (.ref a) (.ref b) H = some false := by
  show (eqG cx (.ref a) (.ref b) H).map _ = _
  unfold eqG
  rw [rd_ths h1 a1, rd_ths h2 a2]
  show some (!PyData.eqv _ _) = _
  rw [PyData.eqv, eqv_ths]; rfl
theorem But.lst {vs : List V} (hb : But dx H H') (h : H a = some (.list vs)) {fs : List (Str × V)} (hd : H dx = some (.flds fs)) : H' a = some (.list vs) := hb a _ (fun q => by subst q; rw [hd] at h; cases h) h
theorem sound_ms {ca : Addr} (hce : CellsSpec cx n) (hus : UsedSpec cx n) (hpl : PlSpec cx n) (hwd : WordsSpec cx n) (hmd : MadeSpec cx n) (htd : ToldSpec cx n)
    (R : RoomAt 12 rm dx ra B H) (hc : H ca = some (.list (intsV (rowN 12 B)))) (hpI : plI B = [0, 3] ++ if 6 < pl B B.length then [6] else []) (hQ : ∀ H', Q (.bool true) H') :
    mwpSs cx n m_law_sound [.ref rm, .ref ca, .int (pl B B.length), .unb, .unb] H (NQ Q) (RQ Q) := by
  have hle := R.le
  have hlen := rowN_length R.le
  have hpl2 : (plI B).length ≤ 1000 := by rw [hpI]; split <;> simp
  refine S_cons ?_
  walk_at "st"
  refine ⟨by simp, new_abs fun r1 H1 x1 _ e1 => ?_⟩
  walk_at "st"
  refine ⟨by simp, new_abs fun r2 H2 x2 _ e2 => ?_⟩
  walk_at "st"
  have hrep : (List.replicate (if decide ((6 : Int) < (pl B B.length : Int)) = true then (1 : Int) else 0).toNat [V.int 6]).flatten = intsV (if 6 < pl B B.length then [6] else []) := by
    by_cases q : 6 < pl B B.length
    · rw [if_pos q, if_pos (decide_eq_true (by first | lia | omega))]; rfl
    · rw [if_neg q, if_neg (by rw [decide_eq_true_iff]; first | lia | omega)]; rfl
  refine W_rep (lst_l (lk_of e2)) (by split <;> decide) (by split <;> decide) (by split <;> decide) (new_abs fun r3 H3 x3 _ e3 => ?_)
  rw [hrep] at e3
  refine W_cat (lst_l (lk_of (x3.le _ _ (x2.le _ _ e1)))) (lst_l (lk_of e3)) (by rw [ints_length]; split <;> decide) (new_abs fun r4 H4 x4 _ e4 => S_cons ?_)
  have x14 := x1.trans (x2.trans (x3.trans x4))
  have e4' : H4 r4 = some (.list (intsV (plI B))) := by rw [e4, hpI, ← ints_append]; rfl
  clear e4 e3 e2 e1 hrep x1 x2 x3 x4
  have R4 := R.ext x14.le
  have hc4 := x14.le _ _ hc
  walk_at "st"
  refine ⟨R4.no fun _ _ => rfl, hce _ _ _ _ _ _ _ R4 fun rc H5 x5 _ hrc => ?_⟩
  walk_at "st"
  refine hwd _ _ _ _ _ hrc (lk_of (x5.le _ _ hc4)) (by first | lia | omega) ?_
  have R5 := R4.ext x5.le
  walk_at "st"
  refine ⟨R5.no fun _ _ => rfl, hus _ _ _ _ _ _ _ R5 ?_⟩
  walk_at "st"
  refine ⟨by simp, new_abs fun r6 H6 x6 _ e6 => ?_⟩
  walk_at "st"
  refine ⟨by simp, new_abs fun r7 H7 x7 _ e7 => ?_⟩
  refine hwd r6 r7 [(pl B B.length : Int)] _ _ (x7.le _ _ e6) (lk_of e7) (by simp) ?_
  walk_at "st"
  refine S_nil (S_cons ?_)
  have x57 := x5.trans (x6.trans x7)
  have R7 := R4.ext x57.le
  have e47 := x57.le _ _ e4'
  have hc7 := x57.le _ _ hc4
  clear e6 e7 hrc x5 x6 x7 R5 e4' hc4
  walk_at "st"
  refine ⟨R7.no fun _ _ => rfl, hpl _ _ _ _ _ _ _ R7 fun rp H8 x8 _ hrp => ?_⟩
  walk_at "st"
  refine hwd _ _ _ _ _ hrp (lk_of (x8.le _ _ e47)) hpl2 ?_
  walk_at "st"
  refine S_nil (S_cons ?_)
  have R8 := R7.ext x8.le
  have hc8 := x8.le _ _ hc7
  walk_at "st"
  refine ifB_of (fun q => S_cons ?_) fun q => S_nil (S_cons ?_)
  · walk_at "st"
    exact RQ.here (hQ _)
  rw [decide_eq_false_iff_not] at q
  have hu10 : pl B B.length ≤ 10 := by first | lia | omega
  walk_at "st"
  refine ⟨R8.no fun _ _ => rfl, by simp, new_abs fun tb H9 x9 _ e9 => ?_⟩
  walk_at "st"
  refine ⟨by simp, new_abs fun lb HA xA _ eA => ?_⟩
  have x8A := x9.trans xA
  have RA := R8.ext x8A.le
  have hcA := x8A.le _ _ hc8
  have thA : ThAt cx HA (.ref tb) (false, 4) := ⟨tb, rfl, lk_of (xA.le _ _ e9)⟩
  have al : All2 (ThAt cx HA) [.ref tb] [(false, 4)] := All2.nil.snoc thA
  clear e9 x9 xA
  refine hmd _ _ _ _ _ _ _ _ _ RA (lk_of eA) (by simp) (fun u hu => .inl ⟨(false, 4), by rw [List.mem_singleton.mp hu]; exact thA⟩) (fun ⟨u, hu, hb⟩ => by rw [List.mem_singleton.mp hu] at hb; exact (hb.notTh thA).elim)
    (fun ts h1 ⟨t, ht, q1, _⟩ => by rw [all_inj h1 al, List.mem_singleton] at ht; rw [ht] at q1; cases q1)
    (fun ts h1 _ h3 => by have := h1.1; rw [List.length_map] at this; simp at this; omega) fun ts h1 hok h3 ra' HB RB _ hbt hz => ?_
  have hts : ts = [(false, 4)] := by
    have e := all_inj h1 al
    match ts, e with
    | [t], e =>
      obtain ⟨b, z⟩ := t
      simp only [List.map_cons, List.map_nil, List.cons.injEq, and_true] at e
      cases b
      · rw [show plt B (false, z) = (false, z) from rfl] at e; rw [e]
      · rw [show plt B (true, z) = (true, (pl B z.toNat : Int)) from by simp [plt]] at e; cases e
  subst hts
  have hcB := hbt.lst hcA RA.d
  have hU : pl (B ++ [[(false, 4)]]) (B ++ [[(false, 4)]]).length = pl B B.length + 2 := by rw [pl_app_len]; rfl
  walk_at "st"
  refine S_cons ?_
  walk_at "st"
  refine ⟨RB.no fun _ _ => rfl, hus _ _ _ _ _ _ _ RB ?_⟩
  walk_at "st"
  refine ⟨by simp, new_abs fun rC HC xC _ eC => ?_⟩
  walk_at "st"
  refine ⟨by simp, new_abs fun rD HD xD _ eD => ?_⟩
  rw [hU] at eC
  refine hwd rC rD [(pl B B.length : Int), ((pl B B.length + 2 : Nat) : Int)] _ _ (xD.le _ _ eC) (lk_of eD) (by simp) ?_
  have xBD := xC.trans xD
  have RD := RB.ext xBD.le
  have hcD := xBD.le _ _ hcB
  clear eC eD xC xD
  walk_at "st"
  have hkB : (B ++ [[(false, 4)]])[B.length]? = some [(false, 4)] := by simp
  have hplB : pl (B ++ [[(false, 4)]]) B.length = pl B B.length := pl_app B _ (Nat.le_refl _)
  refine ⟨RD.no fun _ _ => rfl, htd _ _ _ _ _ _ _ _ RD trivial (fun q => (q ⟨_, rfl, mem_plI.mpr ⟨B.length, by simp, by rw [hplB]⟩⟩).elim) fun k f hk1 hk2 rE vs HE xE _ hrE haE => ?_⟩
  have hkk : k = B.length := by
    have h1 : pl (B ++ [[(false, 4)]]) B.length = pl (B ++ [[(false, 4)]]) k := by
      injection hk1 with q
      rw [hplB]; omega
    exact (pl_inj (by simp) (List.getElem?_eq_some_iff.mp hk2).1 h1).symm
  subst hkk
  rw [hkB] at hk2
  cases hk2
  walk_at "st"
  refine ⟨by simp, new_abs fun tF HF xF _ eF => ?_⟩
  walk_at "st"
  refine ⟨by simp, new_abs fun rG HG xG _ eG => ?_⟩
  have xFG := xF.trans xG
  refine onO_of (eq_ths (ts := [(false, 4)]) (lk_of (xFG.le _ _ hrE)) (lk_of eG) (haE.imp fun _ _ q => q.ext xFG) (All2.nil.snoc ⟨tF, rfl, lk_of (xG.le _ _ eF)⟩)) ?_
  walk_at "st"
  refine S_nil (S_cons ?_)
  have xDG := xE.trans xFG
  have RG := RD.ext xDG.le
  have hcG := xDG.le _ _ hcD
  clear eF eG hrE haE xE xF xG xFG
  walk_at "st"
  refine ⟨RG.no fun _ _ => rfl, hce _ _ _ _ _ _ _ RG fun rI HI xI _ hrI => ?_⟩
  have hcI := xI.le _ _ hcG
  have hrl : (intsV (rowN 12 B)).length ≤ 16777216 := by rw [ints_length]; first | lia | omega
  walk_at "st"
  refine W_slice (lk_of hcI) (show cutLo _ .none = some 0 from rfl) (cutHi_nn (by first | lia | omega)) hrl (new_abs fun r1 J1 y1 _ j1 => ?_)
  walk_at "st"
  refine ⟨by simp, new_abs fun r2 J2 y2 _ j2 => ?_⟩
  refine W_cat (lst_l (lk_of (y2.le _ _ j1))) (lst_l (lk_of j2)) (by simp [cut]; first | lia | omega) (new_abs fun r3 J3 y3 _ j3 => ?_)
  walk_at "st"
  have y13 := y1.trans (y2.trans y3)
  refine W_slice (lk_of (y13.le _ _ hcI)) (cutLo_nn (by first | lia | omega)) (show cutHi _ .none = some _ from rfl) hrl (new_abs fun r4 J4 y4 _ j4 => ?_)
  refine W_cat (lst_l (lk_of (y4.le _ _ j3))) (lst_l (lk_of j4)) (by simp [cut, ints_length, hlen]; first | lia | omega) (new_abs fun r5 J5 y5 _ j5 => ?_)
  refine hwd rI r5 (rowN 12 (B ++ [[(false, 4)]])) _ _ (y5.le _ _ (y4.le _ _ (y13.le _ _ hrI))) (lk_of ?_) (by rw [rowN_length RB.le]; decide) (RQ.here (hQ _))
  rw [j5, ← rowN_app (N := 12) R.w (by show pl B B.length + 1 + 1 ≤ 12; omega) (fun t ht q => by rw [List.mem_singleton.mp ht] at q; cases q), cut_ints, cut_ints, ints_length, hlen]
  rw [Int.toNat_natCast, show ((pl B B.length : Int) + 2).toNat = pl B B.length + 2 by omega, Nat.min_eq_left hle, Nat.min_eq_left (show pl B B.length + 2 ≤ 12 by omega), List.drop_zero, List.take_of_length_le (show (rowN 12 B).length ≤ 12 by omega)]
  simp [intsV, word]
noncomputable def SoundSpec (cx : Cx) (n : Nat) : Prop := ∀ (rm dx ra ca : Addr) (B : Bx) (H : HP) (Q : V → HP → Prop), RoomAt 12 rm dx ra B H → H ca = some (.list (intsV (rowN 12 B))) → (plI B = [0, 3] ++ if 6 < pl B B.length then [6] else []) → (∀ H', Q (.bool true) H') → CallP cx n 354 [.ref rm, .ref ca, .int (pl B B.length)] H Q
end
end Mine
end

section
namespace Mine
open PySem PyProof.Rows
section
variable {cx : Cx} {H H' : HP} {n : Nat} {a b r : Addr} {o : O} {Q : V → HP → Prop} {v u w : V} {vs : List V}
theorem fa_cons {P : V → Prop} (h : P v) (hs : ∀ u ∈ vs, P u) : ∀ u ∈ v :: vs, P u := fun u hu => (List.mem_cons.mp hu).elim (fun q => q ▸ h) (hs u)
theorem fa_nil {P : V → Prop} : ∀ u ∈ ([] : List V), P u := fun _ q => nomatch q
theorem W_subA {P : V → Prop} {i : Int} (h : sq cx H a = some vs) (hl : vs.length ≤ 16777216) (h1 : 0 ≤ i) (h2 : i.toNat < vs.length) (hP : ∀ v ∈ vs, P v) (q : ∀ v, P v → Q v H) : subP cx (.ref a) (.int i) H Q :=
  W_sub h h1 hl (List.getElem?_eq_getElem h2) (q _ (hP _ (List.getElem_mem h2)))
theorem fmod_lt (x : Int) {m : Int} {k : Nat} (hm : 0 < m) (hk : m.toNat ≤ k) : 0 ≤ x.fmod m ∧ (x.fmod m).toNat < k := by
  obtain ⟨h1, h2⟩ := fmod_pos_bounds x hm
  exact ⟨h1, by omega⟩
theorem ok_7 : PyData.strOk (Str.ofString "7") = true := by decide +kernel
theorem ok_0 : PyData.strOk (Str.ofString "0") = true := by decide +kernel
theorem ok_3 : PyData.strOk (Str.ofString "3") = true := by decide +kernel
noncomputable def m_law_drawn_place : MSs :=
  (.cons (.ret (.sub (.list (.cons (.cint (0)) (.cons (.cint (3)) (.cons (.cint (3)) (.cons (.cint (0)) (.cons (.cint (3)) (.cons (.cint (3)) (.cons (.cint (0)) (.cons (.cint (1)) (.cons (.cint (6)) (.cons (.neg (.cint (3))) (.cons (.cbool true) (.cons (.cbool false) (.cons .cnone (.cons (.cstr (Str.ofString "3")) (.cons (.bin .Pow (.cint (10)) (.cint (64))) (.cons (.list (.cons (.cint (3)) .nil)) (.cons (.tup (.cons (.cint (0)) .nil)) .nil)))))))))))))))))) (.bin .Mod (.loc 0) (.cint (17)))))
  .nil)
noncomputable def m_law_drawn_field : MSs :=
  (.cons (.ret (.sub (.list (.cons (.cint (0)) (.cons (.cint (1)) (.cons (.cint (0)) (.cons (.cint (1)) (.cons (.cint (0)) (.cons (.cint (2)) (.cons (.neg (.cint (1))) (.cons (.cbool true) (.cons (.cbool false) (.cons .cnone (.cons (.cstr (Str.ofString "0")) (.cons (.bin .Pow (.cint (10)) (.cint (64))) (.cons (.list (.cons (.cint (0)) .nil)) (.cons (.tup (.cons (.cint (1)) .nil)) .nil))))))))))))))) (.bin .Mod (.loc 0) (.cint (14)))))
  .nil)
noncomputable def m_law_sizes_right : MSs :=
  (.cons (.assign 1 (.list (.cons (.cint (1)) (.cons (.cint (400)) (.cons (.cint (401)) (.cons (.cint (0)) (.cons (.neg (.cint (1))) (.cons (.cbool true) (.cons (.cstr (Str.ofString "7")) (.cons .cnone (.cons (.bin .Add (.cint (1)) (.bin .Mod (.callb .abs (.cons (.callf 260 (.cons (.loc 0) (.cons (.cint (0)) .nil))) .nil)) (.cint (400)))) (.cons (.list (.cons (.cint (5)) .nil)) (.cons (.tup (.cons (.cint (7)) .nil)) .nil)))))))))))))
  (.cons (.assign 2 (.sub (.loc 1) (.bin .Mod (.callf 260 (.cons (.loc 0) (.cons (.cint (0)) .nil))) (.cint (11)))))
  (.cons (.assign 3 (.sub (.list (.cons (.cint (0)) (.cons (.cint (20)) (.cons (.cint (21)) (.cons (.cint (1)) (.cons (.neg (.cint (1))) (.cons (.cbool false) (.cons (.cstr (Str.ofString "0")) (.cons .cnone (.cons (.bin .Mod (.callb .abs (.cons (.callf 260 (.cons (.loc 0) (.cons (.cint (1)) .nil))) .nil)) (.cint (21))) (.cons (.list (.cons (.cint (0)) .nil)) (.cons (.tup (.cons (.cint (1)) .nil)) .nil)))))))))))) (.bin .Mod (.callf 260 (.cons (.loc 0) (.cons (.cint (1)) .nil))) (.cint (11)))))
  (.cons (.ret (.cmp (.callf 300 (.cons (.loc 2) (.cons (.loc 3) .nil))) .Eq (.sub (.list (.cons (.cstr (Str.ofString "size")) (.cons (.cstr (Str.ofString "made")) .nil))) (.callb .int (.cons (.callf 293 (.cons (.loc 2) (.cons (.loc 3) .nil))) .nil)))))
  .nil))))
theorem drawn_place_ms {c : Int} (hQ : ∀ v H', Ext cx H H' → Jk H' v → Q v H') : mwpSs cx n m_law_drawn_place [.int c] H (NQ Q) (RQ Q) := by
  refine S_cons ?_
  walk_at "st"
  refine ⟨by decide, by decide, by simp, new_abs fun r1 H1 x1 _ e1 => ?_⟩
  walk_at "st"
  refine ⟨by simp, new_abs fun r2 H2 x2 _ e2 => ?_⟩
  walk_at "st"
  refine ⟨by simp, new_abs fun r3 H3 x3 _ e3 => ?_⟩
  walk_at "st"
  replace e1 := x3.le _ _ (x2.le _ _ e1)
  replace e2 := x3.le _ _ e2
  obtain ⟨b1, b2⟩ := fmod_lt c (m := 17) (k := 17) (by decide) (by decide)
  exact ⟨by decide, W_subA (P := Jk H3) (sq_l (lk_of e3)) (by simp) b1 b2 (fa_cons (.int _) (fa_cons (.int _) (fa_cons (.int _) (fa_cons (.int _) (fa_cons (.int _) (fa_cons (.int _) (fa_cons (.int _) (fa_cons (.int _) (fa_cons (.int _) (fa_cons (.int _) (fa_cons (.bool _) (fa_cons (.bool _) (fa_cons .none (fa_cons (.str _ ok_3) (fa_cons (.int _) (fa_cons (.list _ _ e1) (fa_cons (.tup _ _ e2) fa_nil))))))))))))))))) fun v hv => RQ.here (hQ v H3 (x1.trans (x2.trans x3)) hv)⟩
noncomputable def Drawn_placeSpec (cx : Cx) (n : Nat) : Prop := ∀ (c : Int) (H : HP) (Q : V → HP → Prop), (∀ v H', Ext cx H H' → Jk H' v → Q v H') → CallP cx n 361 [.int c] H Q
theorem drawn_field_ms {c : Int} (hQ : ∀ v H', Ext cx H H' → Jk H' v → Q v H') : mwpSs cx n m_law_drawn_field [.int c] H (NQ Q) (RQ Q) := by
  refine S_cons ?_
  walk_at "st"
  refine ⟨by decide, by decide, by simp, new_abs fun r1 H1 x1 _ e1 => ?_⟩
  walk_at "st"
  refine ⟨by simp, new_abs fun r2 H2 x2 _ e2 => ?_⟩
  walk_at "st"
  refine ⟨by simp, new_abs fun r3 H3 x3 _ e3 => ?_⟩
  walk_at "st"
  replace e1 := x3.le _ _ (x2.le _ _ e1)
  replace e2 := x3.le _ _ e2
  obtain ⟨b1, b2⟩ := fmod_lt c (m := 14) (k := 14) (by decide) (by decide)
  exact ⟨by decide, W_subA (P := Jk H3) (sq_l (lk_of e3)) (by simp) b1 b2 (fa_cons (.int _) (fa_cons (.int _) (fa_cons (.int _) (fa_cons (.int _) (fa_cons (.int _) (fa_cons (.int _) (fa_cons (.int _) (fa_cons (.bool _) (fa_cons (.bool _) (fa_cons .none (fa_cons (.str _ ok_0) (fa_cons (.int _) (fa_cons (.list _ _ e1) (fa_cons (.tup _ _ e2) fa_nil)))))))))))))) fun v hv => RQ.here (hQ v H3 (x1.trans (x2.trans x3)) hv)⟩
noncomputable def Drawn_fieldSpec (cx : Cx) (n : Nat) : Prop := ∀ (c : Int) (H : HP) (Q : V → HP → Prop), (∀ v H', Ext cx H H' → Jk H' v → Q v H') → CallP cx n 368 [.int c] H Q
theorem sizes_ms {sa : Addr} {ns : List Int} (hat : AtSpec cx n sa ns) (hnw : NewSpec cx n) (hsz : SizedSpec cx n) (hs : lk cx H sa = some (.list (intsV ns))) (hQ : ∀ H', Ext cx H H' → Q (.bool true) H') : mwpSs cx n m_law_sizes_right [.ref sa, .unb, .unb, .unb] H (NQ Q) (RQ Q) := by
  refine S_cons ?_
  walk_at "st"
  refine hat _ _ _ hs (by decide) fun s0 => ?_
  walk_at "st"
  refine ⟨by decide, by simp, new_abs fun r1 H1 x1 _ e1 => ?_⟩
  walk_at "st"
  refine ⟨by simp, new_abs fun r2 H2 x2 _ e2 => ?_⟩
  walk_at "st"
  refine ⟨by simp, new_abs fun r3 H3 x3 _ e3 => S_cons ?_⟩
  replace e1 := x3.le _ _ (x2.le _ _ e1)
  replace e2 := x3.le _ _ e2
  have xx := x1.trans (x2.trans x3)
  walk_at "st"
  refine hat _ _ _ (xx.lk hs) (by decide) fun s1 => ?_
  walk_at "st"
  obtain ⟨b1, b2⟩ := fmod_lt s1 (m := 11) (k := 11) (by decide) (by decide)
  refine ⟨by decide, W_subA (P := Jk H3) (sq_l (lk_of e3)) (by simp) b1 b2 (fa_cons (.int _) (fa_cons (.int _) (fa_cons (.int _) (fa_cons (.int _) (fa_cons (.int _) (fa_cons (.bool _) (fa_cons (.str _ ok_7) (fa_cons .none (fa_cons (.int _) (fa_cons (.list _ _ e1) (fa_cons (.tup _ _ e2) fa_nil))))))))))) fun u hu => S_cons ?_⟩
  clear e1 e2 e3 b1 b2
  walk_at "st"
  refine hat _ _ _ (xx.lk hs) (by decide) fun s2 => ?_
  walk_at "st"
  refine ⟨by decide, by simp, new_abs fun r4 H4 x4 _ e4 => ?_⟩
  walk_at "st"
  refine ⟨by simp, new_abs fun r5 H5 x5 _ e5 => ?_⟩
  walk_at "st"
  refine ⟨by simp, new_abs fun r6 H6 x6 _ e6 => ?_⟩
  replace e4 := x6.le _ _ (x5.le _ _ e4)
  replace e5 := x6.le _ _ e5
  have x46 := x4.trans (x5.trans x6)
  replace xx := xx.trans x46
  walk_at "st"
  refine hat _ _ _ (xx.lk hs) (by decide) fun s3 => ?_
  walk_at "st"
  obtain ⟨b1, b2⟩ := fmod_lt s3 (m := 11) (k := 11) (by decide) (by decide)
  refine ⟨by decide, W_subA (P := Jk H6) (sq_l (lk_of e6)) (by simp) b1 b2 (fa_cons (.int _) (fa_cons (.int _) (fa_cons (.int _) (fa_cons (.int _) (fa_cons (.int _) (fa_cons (.bool _) (fa_cons (.str _ ok_0) (fa_cons .none (fa_cons (.int _) (fa_cons (.list _ _ e4) (fa_cons (.tup _ _ e5) fa_nil))))))))))) fun w hw => S_cons ?_⟩
  clear e4 e5 e6 b1 b2
  replace hu := hu.ext x46.le
  have uu : u ≠ .unb := by rintro rfl; cases hu
  have uw : w ≠ .unb := by rintro rfl; cases hw
  walk_at "st"
  have rest : ∀ (s : String), (∀ b, (b = true ↔ Sized u w) → s = if b then "made" else "size") → mwpE cx n (.sub (.list (.cons (.cstr (Str.ofString "size")) (.cons (.cstr (Str.ofString "made")) .nil))) (.callb .int (.cons (.callf 293 (.cons (.loc 2) (.cons (.loc 3) .nil))) .nil))) [.ref sa, .ref r3, u, w] H6 fun b H => onO (cmpP cx .Eq (.str (Str.ofString s)) b H) fun c => RQ Q (.bool c) H := fun s hsb => by
    walk_at "st"
    refine ⟨by simp, new_abs fun r7 H7 x7 _ e7 => ?_⟩
    walk_at "st"
    refine onL_of uu (onL_of uw (hsz _ _ _ _ (hu.ext x7.le).kn (hw.ext x7.le).kn fun b hb => ?_))
    walk_at "st"
    have hs' := hsb b hb
    cases b with
    | false =>
      refine W_sub (sq_l (lk_of e7)) (by decide) (by simp) (v := .str (Str.ofString "size")) rfl ?_
      rw [hs']
      exact onO_of (show cmpP cx .Eq _ _ _ = some (Str.ofString "size" == Str.ofString "size") from rfl) (RQ.here (by rw [beq_self_eq_true]; exact hQ _ (xx.trans x7)))
    | true =>
      refine W_sub (sq_l (lk_of e7)) (by decide) (by simp) (v := .str (Str.ofString "made")) rfl ?_
      rw [hs']
      exact onO_of (show cmpP cx .Eq _ _ _ = some (Str.ofString "made" == Str.ofString "made") from rfl) (RQ.here (by rw [beq_self_eq_true]; exact hQ _ (xx.trans x7)))
  refine onL_of uu (onL_of uw (hnw _ _ _ _ hu.kn hw.kn (fun q => rest "size" fun b hb => ?_) fun q => rest "made" fun b hb => ?_))
  · cases b
    · rfl
    · exact (q (hb.mp rfl)).elim
  · rw [hb.mpr q]; rfl
noncomputable def SizesSpec (cx : Cx) (n : Nat) (sa : Addr) (ns : List Int) : Prop := ∀ (H : HP) (Q : V → HP → Prop), lk cx H sa = some (.list (intsV ns)) → (∀ H', Ext cx H H' → Q (.bool true) H') → CallP cx n 347 [.ref sa] H Q
end
end Mine
end

section
namespace Mine
open PySem PyProof.Rows
noncomputable def del (H : HP) (l : Addr) : HP := fun a => if a = l then none else H a
theorem del_same (H : HP) (l : Addr) : del H l l = none := by simp [del]
theorem del_ne {H : HP} {a l : Addr} (h : a ≠ l) : del H l a = H a := by simp [del, h]
theorem del_le (H : HP) (l : Addr) : LE (del H l) H := fun a o e => by
  by_cases h : a = l
  · subst h; rw [del_same] at e; cases e
  · rw [del_ne h] at e; exact e
theorem upd_del {H : HP} {l : Addr} {o : O} (h : H l = some o) : upd (del H l) l o = H := by
  funext a
  by_cases q : a = l
  · subst q; rw [upd_same, h]
  · rw [upd_ne _ q, del_ne q]
theorem del_upd {K : HP} {l : Addr} {o : O} (h : K l = none) : del (upd K l o) l = K := by
  funext a
  by_cases q : a = l
  · subst q; rw [del_same, h]
  · rw [del_ne q, upd_ne _ q]
section
variable {cx : Cx} {rm dx ra l : Addr} {N : Nat} {B : Bx} {H H' K : HP} {n : Nat} {a b r : Addr} {o : O} {Q Q' : V → HP → Prop} {v u w : V} {vs : List V}
theorem frame1 {q : Bool} {f : Addr} {args : List V} (hl : K l = none) (h : CallY q cx n f args K Q') (hQ : ∀ v H1, Q' v H1 → H1 l = none → Q v (upd H1 l (.list vs))) : CallY q cx n f args (upd K l (.list vs)) Q := by
  intro A s ws hA hq S hf e
  have hK : LE K (upd K l (.list vs)) := fun a o q => by rw [upd_ne _ (fun z => by subst z; rw [hl] at q; cases q)]; exact q
  obtain ⟨items, c, gl, m⟩ := S.hr l (.list vs) (upd_same _ _ _)
  have nK : ∀ b, b ≠ l → (upd K l (.list vs)) b = none → K b = none := fun b nb q => by rw [upd_ne _ nb] at q; exact q
  refine codeAny_mono (h A s ws hA hq (S.le hK) (fun fl e => (hf fl e).le hK) e) fun r s' hr => ?_
  have fin : ∀ H1, HS cx H1 s' → KE s K s' H1 → H1 l = none ∧ HS cx (upd H1 l (.list vs)) s' ∧ KE s (upd K l (.list vs)) s' (upd H1 l (.list vs)) := fun H1 S1 k1 => by
    have h1 := k1.dom l _ gl hl id
    have gl' := k1.same gl hl id (by intro es ep q; cases q)
    refine ⟨h1, ⟨fun a o q => ?_, S1.ext, fun a o q => ?_⟩, ⟨fun b o q1 q2 w => ?_, fun a o q1 q2 w => ?_, k1.os, k1.gens⟩⟩
    · by_cases z : a = l
      · subst z; rw [upd_same] at q; cases q; exact ⟨items, c, gl', m⟩
      · rw [upd_ne _ z] at q; exact S1.hr a o q
    · by_cases z : a = l
      · subst z; exact S.low a _ (upd_same _ _ _)
      · rw [upd_ne _ z] at q; exact S1.low a o q
    · by_cases z : b = l
      · subst z; rw [upd_same] at q2; cases q2
      · exact k1.keep b o q1 (nK b z q2) w
    · by_cases z : a = l
      · subst z; rw [upd_same] at q2; cases q2
      · rw [upd_ne _ z]; exact k1.dom a o q1 (nK a z q2) w
  rcases hr with ⟨v, H1, rfl, S1, k1, q⟩ | ⟨ex, C, T, H1, rfl, S1, k1, x, nT, q⟩
  · obtain ⟨h1, S2, k2⟩ := fin H1 S1 k1
    exact .inl ⟨v, _, rfl, S2, k2, hQ _ _ q h1⟩
  · obtain ⟨h1, S2, k2⟩ := fin H1 S1 k1
    have ne : ex ≠ l := fun z => by subst z; exact x.e0 _ gl hl
    have nt : T ≠ l := fun z => by subst z; exact x.t0 _ gl hl
    refine .inr ⟨ex, C, T, _, rfl, S2, k2, ⟨fun o q1 q2 => x.e0 o q1 (nK ex ne q2), fun o q1 q2 => x.t0 o q1 (nK T nt q2), by rw [upd_ne _ ne]; exact x.e1, by rw [upd_ne _ nt]; exact x.t1, x.e2, x.t2, x.at_⟩, nT, hQ _ _ q h1⟩
theorem beside (hl : K l = none) (hz : cx.Z l = none) {o : O} (x : Ext cx (upd K l o) H') : Ext cx K (del H' l) ∧ H' l = some o ∧ upd (del H' l) l o = H' := by
  have h1 : H' l = some o := x.le _ _ (upd_same _ _ _)
  refine ⟨⟨fun a o' q => ?_, fun a z q1 q2 => ?_⟩, h1, upd_del h1⟩
  · have ne : a ≠ l := fun z => by subst z; rw [hl] at q; cases q
    rw [del_ne ne]
    exact x.le a o' (by rw [upd_ne _ ne]; exact q)
  · by_cases ne : a = l
    · subst ne; exact del_same _ _
    · rw [del_ne ne]; exact x.z a z q1 (by rw [upd_ne _ ne]; exact q2)
noncomputable def Lab (cx : Cx) (H : HP) (v : V) (o : Option Nat) : Prop := match o with
  | none => ∃ j : Nat, j < 10 ∧ ThAt cx H v (false, (j : Int))
  | some k => k < 25 ∧ Pick cx H k v
theorem Lab.ext (x : Ext cx H H') {o : Option Nat} (h : Lab cx H v o) : Lab cx H' v o := by
  cases o with
  | none => obtain ⟨j, h1, h2⟩ := h; exact ⟨j, h1, h2.ext x⟩
  | some k => exact ⟨h.1, h.2.ext x⟩
theorem sh_num : ∀ j : Nat, j < 10 → (PyData.showable (thD (false, (j : Int))) && (PyData.leavesShort 100 (thD (false, (j : Int))) && decide (PyData.weight (thD (false, (j : Int))) ≤ 1000))) = true := by decide +kernel
theorem sh_good : ∀ k : Nat, k < 9 → (PyData.showable (thD (goodT k)) && (PyData.leavesShort 100 (thD (goodT k)) && decide (PyData.weight (thD (goodT k)) ≤ 1000))) = true := by decide +kernel
theorem rdV_up : ∀ (m : Nat) (v : V) (d : PyData), rdV cx H m v = some d → rdV cx H (m + 1) v = some d
  | 0, v, d, h => by
    cases v <;> first | exact h | cases h
  | m + 1, v, d, h => by
    have all : ∀ (vs : List V) (ds : List PyData), vs.mapM (rdV cx H m) = some ds → vs.mapM (rdV cx H (m + 1)) = some ds := by
      intro vs
      induction vs with
      | nil => exact fun _ h => h
      | cons v vs ih =>
        intro ds h
        rw [List.mapM_cons] at h
        simp only [Option.pure_def, Option.bind_eq_bind, Option.bind_eq_some_iff] at h
        obtain ⟨d, h1, es, h2, h3⟩ := h
        cases h3
        exact mapM_cons' (rdV_up m v d h1) (ih es h2)
    cases v with
    | ref a =>
      cases e : lk cx H a with
      | none =>
        have h : (match lk cx H a with | some (.list vs) => (vs.mapM (rdV cx H m)).map PyData.list | some (.tup vs) => (vs.mapM (rdV cx H m)).map PyData.tuple | _ => none) = some d := h
        rw [e] at h; cases h
      | some o => cases o with
        | list vs =>
          rw [rd_list e] at h ⊢
          obtain ⟨ds, h1, rfl⟩ := Option.map_eq_some_iff.mp h
          rw [all vs ds h1]; rfl
        | tup vs =>
          rw [rd_tup e] at h ⊢
          obtain ⟨ds, h1, rfl⟩ := Option.map_eq_some_iff.mp h
          rw [all vs ds h1]; rfl
        | _ =>
          have h : (match lk cx H a with | some (.list vs) => (vs.mapM (rdV cx H m)).map PyData.list | some (.tup vs) => (vs.mapM (rdV cx H m)).map PyData.tuple | _ => none) = some d := h
          rw [e] at h; cases h
    | _ => exact h
theorem th_show {t : Th} (h : ThAt cx H v t) (hs : Sh (thD t)) : Show cx H v := ⟨_, rdV_up 2 v _ (rd_th h), hs⟩
theorem Lab.show {o : Option Nat} (h : Lab cx H v o) : Show cx H v := by
  cases o with
  | none => obtain ⟨j, h1, h2⟩ := h; exact th_show h2 (Sh.of (sh_num j h1))
  | some k => exact h.2.2.2
theorem Lab.kind {o : Option Nat} (h : Lab cx H v o) : (∃ t, ThAt cx H v t) ∨ BadT cx H v := by
  cases o with
  | none => obtain ⟨j, h1, h2⟩ := h; exact .inl ⟨_, h2⟩
  | some k =>
    by_cases q : k < 9
    · exact .inl ⟨_, h.2.1 q⟩
    · exact .inr (h.2.2.1 (by omega))
theorem show_all (hs : ∀ v ∈ vs, Show cx H v) (hl : vs.length ≤ 10) : ∃ d, d.shown.length ≤ 16777216 ∧ d.showable = true ∧ ∀ a, lk cx H a = some (.list vs) → rdV cx H 4 (.ref a) = some d := by
  have key : ∀ {vs : List V}, (∀ v ∈ vs, Show cx H v) → ∃ ds, vs.mapM (rdV cx H 3) = some ds ∧ PyData.showableAll ds = true ∧ PyData.leavesShortAll 100 ds = true ∧ PyData.weightAll ds ≤ 1001 * vs.length := by
    intro vs
    induction vs with
    | nil => exact fun _ => ⟨[], rfl, rfl, rfl, Nat.le_refl _⟩
    | cons v vs ih =>
      intro h
      obtain ⟨ds, h1, h2, h3, h4⟩ := ih fun u hu => h u (List.mem_cons_of_mem _ hu)
      obtain ⟨d, g1, g2, g3, g4⟩ := h v List.mem_cons_self
      refine ⟨d :: ds, mapM_cons' g1 h1, by rw [PyData.showableAll, g2, h2]; rfl, by rw [PyData.leavesShortAll, g3, h3]; rfl, ?_⟩
      rw [PyData.weightAll, List.length_cons]; omega
  obtain ⟨ds, h1, h2, h3, h4⟩ := key hs
  refine ⟨.list ds, ?_, by rw [PyData.showable]; exact h2, fun a ha => by rw [rd_list ha, h1]; rfl⟩
  have := PyData.shown_le 100 (by decide) (.list ds) (by rw [PyData.leavesShort]; exact h3)
  rw [show PyData.weight (.list ds) = PyData.weightAll ds by rw [PyData.weight]] at this
  have h5 : PyData.weightAll ds ≤ 10010 := by omega
  have h6 : (100 + 2) * PyData.weightAll ds ≤ 102 * 10010 := Nat.mul_le_mul_left _ h5
  omega
end
end Mine
end

section
namespace Mine
open PySem PyProof.Rows
noncomputable def dropS : Nat → MSs → MSs
  | 0, m => m
  | _ + 1, .nil => .nil
  | k + 1, .cons _ r => dropS k r
noncomputable def tp (v : V) : List Th := if isInt v 3 = true then [(false, 5), (true, 0)] else [(false, 0), (false, 0)]
section
variable {cx : Cx} {rm dx ra : Addr} {N : Nat} {B : Bx} {H H' : HP} {n : Nat} {a b r : Addr} {o : O} {Q : V → HP → Prop} {v u w : V} {vs : List V}
noncomputable def m_law6 : MSs :=
  (.cons (.ite (.not (.callf 347 (.cons (.loc 0) .nil))) (.cons (.ret (.cbool false))
    .nil) .nil)
  (.cons (.assign 1 (.mk 249 178 (.cons (.cint (12)) (.cons (.cint (2)) .nil))))
  (.cons (.expr (.callm 249 (Str.ofString "made") 197 1 (.cons (.list (.cons (.tup (.cons (.cstr (Str.ofString "number")) (.cons (.cint (5)) .nil))) (.cons (.tup (.cons (.cstr (Str.ofString "box")) (.cons (.cint (0)) .nil))) .nil))) .nil)))
  (.cons (.assign 2 (.sub (.list (.cons (.cint (0)) (.cons (.cint (0)) (.cons (.cint (1)) (.cons (.cint (1)) (.cons (.cint (2)) .nil)))))) (.bin .Mod (.callf 260 (.cons (.loc 0) (.cons (.cint (2)) .nil))) (.cint (5)))))
  (.cons (.assign 3 (.bin .Mod (.callf 260 (.cons (.loc 0) (.cons (.cint (3)) .nil))) (.cint (25))))
  (.cons (.assign 4 (.callf 361 (.cons (.callf 260 (.cons (.loc 0) (.cons (.cint (4)) .nil))) .nil)))
  (.cons (.assign 5 (.callf 368 (.cons (.callf 260 (.cons (.loc 0) (.cons (.cint (5)) .nil))) .nil)))
  (.cons (.assign 6 (.bin .Mod (.callf 260 (.cons (.loc 0) (.cons (.cint (6)) .nil))) (.cint (10))))
  (.cons (.assign 7 (.bin .Mod (.callf 260 (.cons (.loc 0) (.cons (.cint (7)) .nil))) (.callb .max (.cons (.cint (1)) (.cons (.loc 6) .nil)))))
  (.cons (.assign 8 (.compR (.tup (.cons (.cstr (Str.ofString "number")) (.cons (.loc 14) .nil))) (.cint (0)) (.loc 6) (.cbool true)))
  (.cons (.assign 9 (.list .nil))
  (.cons (.ite (.bop .And (.cons (.cmp (.loc 2) .Eq (.cint (0))) (.cons (.cmp (.loc 6) .Gt (.cint (0))) .nil))) (.cons (.setSub (.loc 8) (.loc 7) (.sub (.callf 307 .nil) (.loc 3)))
    (.cons (.assign 9 (.list (.cons (.loc 3) .nil)))
    .nil)) .nil)
  (.cons (.ite (.bop .And (.cons (.cmp (.loc 2) .Eq (.cint (0))) (.cons (.cmp (.loc 6) .Gt (.cint (1))) (.cons (.cmp (.bin .Mod (.callf 260 (.cons (.loc 0) (.cons (.cint (8)) .nil))) (.cint (2))) .Eq (.cint (0))) .nil)))) (.cons (.assign 9 (.list (.cons (.loc 3) (.cons (.bin .Mod (.bin .FloorDiv (.callf 260 (.cons (.loc 0) (.cons (.cint (8)) .nil))) (.cint (2))) (.cint (25))) .nil))))
    (.cons (.setSub (.loc 8) (.bin .Mod (.bin .Add (.loc 7) (.cint (1))) (.loc 6)) (.sub (.callf 307 .nil) (.sub (.loc 9) (.cint (1)))))
    .nil)) .nil)
  (.cons (.ite (.cmp (.loc 2) .Eq (.cint (1))) (.cons (.assign 8 (.list (.cons (.sub (.callf 307 .nil) (.loc 3)) .nil)))
    .nil) .nil)
  (.cons (.assign 10 (.callf 326 (.cons (.loc 2) (.cons (.loc 4) (.cons (.loc 5) (.cons (.loc 3) .nil))))))
  (.cons (.ite (.cmp (.loc 2) .Eq (.cint (0))) (.cons (.assign 10 (.callf 319 (.cons (.loc 6) (.cons (.loc 9) .nil))))
    .nil) .nil)
  (.cons (.assign 11 (.callb .list (.cons (.loc 8) .nil)))
  (.cons (.assign 12 (.callf 333 (.cons (.loc 1) (.cons (.loc 2) (.cons (.loc 11) (.cons (.loc 4) (.cons (.loc 5) .nil)))))))
  (.cons (.ite (.bop .Or (.cons (.cmp (.sub (.loc 12) (.cint (0))) .NotEq (.loc 10)) (.cons (.cmp (.callb .repr (.cons (.loc 11) .nil)) .NotEq (.callb .repr (.cons (.loc 8) .nil))) .nil))) (.cons (.ret (.cbool false))
    .nil) .nil)
  (.cons (.ite (.bop .Or (.cons (.cmp (.loc 10) .NotEq (.cstr (Str.ofString ""))) (.cons (.cmp (.loc 2) .Eq (.cint (2))) .nil))) (.cons (.assign 13 (.list (.cons (.tup (.cons (.cstr (Str.ofString "number")) (.cons (.cint (0)) .nil))) (.cons (.tup (.cons (.cstr (Str.ofString "number")) (.cons (.cint (0)) .nil))) .nil))))
    (.cons (.ite (.cmp (.loc 4) .Eq (.cint (3))) (.cons (.assign 13 (.list (.cons (.tup (.cons (.cstr (Str.ofString "number")) (.cons (.cint (5)) .nil))) (.cons (.tup (.cons (.cstr (Str.ofString "box")) (.cons (.cint (0)) .nil))) .nil))))
      .nil) .nil)
    (.cons (.ite (.bop .And (.cons (.cmp (.loc 10) .Eq (.cstr (Str.ofString ""))) (.cons (.cmp (.sub (.loc 12) (.cint (1))) .NotEq (.loc 13)) .nil))) (.cons (.ret (.cbool false))
      .nil) .nil)
    (.cons (.ret (.callf 354 (.cons (.loc 1) (.cons (.list (.cons (.cint (8)) (.cons (.cint (0)) (.cons (.cint (0)) (.cons (.cint (8)) (.cons (.cint (10)) (.cons (.cint (1)) (.cons (.cint (0)) (.cons (.cint (0)) (.cons (.cint (0)) (.cons (.cint (0)) (.cons (.cint (0)) (.cons (.cint (0)) .nil))))))))))))) (.cons (.cint (6)) .nil)))))
    .nil)))) .nil)
  (.cons (.ite (.bop .Or (.cons (.bop .And (.cons (.cmp (.loc 2) .Eq (.cint (0))) (.cons (.bop .Or (.cons (.not (.callf 267 (.cons (.sub (.loc 12) (.cint (1))) .nil))) (.cons (.cmp (.sub (.loc 12) (.cint (1))) .NotEq (.cint (6))) .nil))) .nil))) (.cons (.bop .And (.cons (.cmp (.loc 2) .Eq (.cint (1))) (.cons (.cmp (.sub (.loc 12) (.cint (1))) .IsNot .cnone) .nil))) .nil))) (.cons (.ret (.cbool false))
    .nil) .nil)
  (.cons (.ret (.callf 354 (.cons (.loc 1) (.cons (.callf 340 (.cons (.loc 2) (.cons (.loc 8) (.cons (.loc 4) (.cons (.loc 5) .nil))))) (.cons (.bin .Add (.cint (6)) (.bin .Mult (.callb .int (.cons (.cmp (.loc 2) .Eq (.cint (0))) .nil)) (.bin .Add (.cint (1)) (.loc 6)))) .nil)))))
  .nil))))))))))))))))))))))
theorem jk_eq3 (h : Jk H v) : cmpP cx .Eq v (.int 3) H = some (isInt v 3) := by
  obtain ⟨d, h1, h2⟩ := h.rd (cx := cx) 2
  have g : eqG cx v (.int 3) H = some (isInt v 3) := by
    unfold eqG
    rw [h1, show rdV cx H 3 (.int 3) = some (.int 3) from rfl]
    show some (PyData.eqv d (.int 3)) = _
    rw [(jd_eqv h2 (by decide) (by decide)).1]
  cases v <;> exact g
theorem strEq {x y : Str} : cmpP cx .Eq (.str x) (.str y) H = some (x == y) := rfl
theorem strNe {x y : Str} : cmpP cx .NotEq (.str x) (.str y) H = some (!(x == y)) := rfl
noncomputable def lawBlk : MSs :=
  (.cons (.assign 13 (.list (.cons (.tup (.cons (.cstr (Str.ofString "number")) (.cons (.cint (0)) .nil))) (.cons (.tup (.cons (.cstr (Str.ofString "number")) (.cons (.cint (0)) .nil))) .nil))))
  (.cons (.ite (.cmp (.loc 4) .Eq (.cint (3))) (.cons (.assign 13 (.list (.cons (.tup (.cons (.cstr (Str.ofString "number")) (.cons (.cint (5)) .nil))) (.cons (.tup (.cons (.cstr (Str.ofString "box")) (.cons (.cint (0)) .nil))) .nil)))) .nil) .nil)
  (.cons (.ite (.bop .And (.cons (.cmp (.loc 10) .Eq (.cstr (Str.ofString ""))) (.cons (.cmp (.sub (.loc 12) (.cint (1))) .NotEq (.loc 13)) .nil))) (.cons (.ret (.cbool false)) .nil) .nil)
  (.cons (.ret (.callf 354 (.cons (.loc 1) (.cons (.list (.cons (.cint (8)) (.cons (.cint (0)) (.cons (.cint (0)) (.cons (.cint (8)) (.cons (.cint (10)) (.cons (.cint (1)) (.cons (.cint (0)) (.cons (.cint (0)) (.cons (.cint (0)) (.cons (.cint (0)) (.cons (.cint (0)) (.cons (.cint (0)) .nil))))))))))))) (.cons (.cint (6)) .nil)))))
  .nil))))
theorem blk_ms {z0 z2 z3 z5 z6 z7 z8 z9 z11 z13 x12 : V} {tb : Addr} {due s0 : Str} {N' : List V → HP → Prop} (hsd : SoundSpec cx n) (R : RoomAt 12 rm dx ra B0 H) (hv : Jk H v) (ht : H tb = some (.tup [.str s0, x12]))
    (hf : due = Str.ofString "" → ∃ r ws, x12 = .ref r ∧ H r = some (.list ws) ∧ All2 (ThAt cx H) ws (tp v)) (hQ : ∀ H', Q (.bool true) H') :
    mwpSs cx n lawBlk [z0, .ref rm, z2, z3, v, z5, z6, z7, z8, z9, .str due, z11, .ref tb, z13] H N' (RQ Q) := by
  have uv : v ≠ .unb := by rintro rfl; cases hv
  have last : ∀ {H1 : HP} {rl : Addr} {ws : List V}, Ext cx H H1 → H1 rl = some (.list ws) → All2 (ThAt cx H1) ws (tp v) → mwpSs cx n (dropS 2 lawBlk) [z0, .ref rm, z2, z3, v, z5, z6, z7, z8, z9, .str due, z11, .ref tb, .ref rl] H1 N' (RQ Q) := fun {H1 rl ws} x1 e1 a1 => by
    have fin : ∀ (μ : List V), getL μ 1 = .ref rm → mwpSs cx n (dropS 3 lawBlk) μ H1 N' (RQ Q) := fun μ hμ => by
      refine S_cons ?_
      show onL (getL μ 1) _
      rw [hμ]
      walk_at "st"
      refine ⟨by simp, new_abs fun ca H2 x2 _ e2 => ?_⟩
      refine hsd rm dx ra ca B0 _ _ (R.ext (x1.trans x2).le) (by rw [e2, row_B0]; rfl) (by rw [plI_B0, pl_B0]; rfl) fun H' => RQ.here (hQ H')
    refine S_cons ?_
    walk_at "st"
    refine onO_of strEq (ifB_of (fun q => ?_) fun q => S_nil (fin _ rfl))
    obtain ⟨r, ws', rfl, g1, g2⟩ := hf (eq_of_beq q)
    refine W_sub (sq_t (lk_of (x1.le _ _ ht))) (by decide) (show 2 ≤ 16777216 by decide) (v := .ref r) rfl ?_
    walk_at "st"
    refine onO_of (eq_ths (lk_of (x1.le _ _ g1)) (lk_of e1) (g2.imp fun _ _ q => q.ext x1) a1) ?_
    walk_at "st"
    exact S_nil (fin _ rfl)
  refine S_cons ?_
  walk_at "st"
  refine ⟨by simp, new_abs fun t1 H1 x1 _ e1 => ?_⟩
  walk_at "st"
  refine ⟨by simp, new_abs fun t2 H2 x2 _ e2 => ?_⟩
  walk_at "st"
  refine ⟨by simp, new_abs fun r3 H3 x3 _ e3 => S_cons ?_⟩
  have x13 := x1.trans (x2.trans x3)
  walk_at "st"
  refine onL_of uv (onO_of (jk_eq3 (hv.ext x13.le)) (ifB_of (fun q => S_cons ?_) fun q => S_nil (last x13 e3 ?_)))
  · walk_at "st"
    refine ⟨by simp, new_abs fun t4 H4 x4 _ e4 => ?_⟩
    walk_at "st"
    refine ⟨by simp, new_abs fun t5 H5 x5 _ e5 => ?_⟩
    walk_at "st"
    refine ⟨by simp, new_abs fun r6 H6 x6 _ e6 => S_nil (last (x13.trans (x4.trans (x5.trans x6))) e6 ?_)⟩
    unfold tp
    rw [if_pos q]
    exact (All2.nil.snoc ⟨t4, rfl, lk_of (x6.le _ _ (x5.le _ _ e4))⟩).snoc ⟨t5, rfl, lk_of (x6.le _ _ e5)⟩
  · unfold tp
    rw [if_neg (by rw [q]; decide)]
    exact (All2.nil.snoc ⟨t1, rfl, lk_of (x3.le _ _ (x2.le _ _ e1))⟩).snoc ⟨t2, rfl, lk_of (x3.le _ _ e2)⟩
theorem look_ms {call : Int} {z0 z3 z5 z6 z7 z9 z13 x12 : V} {tb l8 l11 : Addr} {due : Str} (hlen : vs.length ≤ 10) (ht : H tb = some (.tup [.str due, x12])) (h8 : H l8 = some (.list vs)) (h11 : H l11 = some (.list vs)) (hs : ∀ v ∈ vs, Show cx H v)
    (h : mwpSs cx n (dropS 19 m_law6) [z0, .ref rm, .int call, z3, v, z5, z6, z7, .ref l8, z9, .str due, .ref l11, .ref tb, z13] H (NQ Q) (RQ Q)) :
    mwpSs cx n (dropS 18 m_law6) [z0, .ref rm, .int call, z3, v, z5, z6, z7, .ref l8, z9, .str due, .ref l11, .ref tb, z13] H (NQ Q) (RQ Q) := by
  obtain ⟨d, d1, d2, d3⟩ := show_all hs hlen
  refine S_cons ?_
  walk_at "st"
  refine W_sub (sq_t (lk_of ht)) (by decide) (show 2 ≤ 16777216 by decide) (v := .str due) rfl (onO_of strNe ?_)
  rw [beq_self_eq_true]
  walk_at "st"
  refine onO_of (d3 _ (lk_of h11)) ⟨d1, d2, ?_⟩
  walk_at "st"
  refine onO_of (d3 _ (lk_of h8)) ⟨d1, d2, onO_of strNe ?_⟩
  rw [beq_self_eq_true]
  exact ifB_f' rfl (S_nil h)
theorem err_ms {call : Int} {z0 z3 z5 z6 z7 z9 z13 x12 : V} {tb l8 l11 : Addr} {due : Str} (hsd : SoundSpec cx n) (hlen : vs.length ≤ 10) (ht : H tb = some (.tup [.str due, x12])) (h8 : H l8 = some (.list vs)) (h11 : H l11 = some (.list vs)) (hs : ∀ v ∈ vs, Show cx H v)
    (R : RoomAt 12 rm dx ra B0 H) (hv : Jk H v) (hd : due ≠ Str.ofString "" ∨ call = 2 ∧ ∃ r ws, x12 = .ref r ∧ H r = some (.list ws) ∧ All2 (ThAt cx H) ws (tp v)) (hQ : ∀ H', Q (.bool true) H') :
    mwpSs cx n (dropS 18 m_law6) [z0, .ref rm, .int call, z3, v, z5, z6, z7, .ref l8, z9, .str due, .ref l11, .ref tb, z13] H (NQ Q) (RQ Q) := by
  refine look_ms hlen ht h8 h11 hs ?_
  have blk := fun N' => blk_ms (cx := cx) (n := n) (Q := Q) (z0 := z0) (z2 := .int call) (z3 := z3) (z5 := z5) (z6 := z6) (z7 := z7) (z8 := .ref l8) (z9 := z9) (z11 := .ref l11) (z13 := z13) (due := due) (N' := N') hsd R hv ht (fun q => hd.elim (fun z => absurd q z) fun z => z.2) hQ
  refine S_cons ?_
  walk_at "st"
  refine onO_of strNe (ifB_of (fun q => blk _) fun q => ?_)
  rw [eqv_int]
  have h2 : call = 2 := by
    rcases hd with z | z
    · exact absurd (eq_of_beq (by simpa using q)) z
    · exact z.1
  rw [h2] at blk ⊢
  exact blk _
theorem succ0_ms {z0 z3 z5 z7 z9 z13 : V} {m : Nat} {tb l8 l11 : Addr} {ts : List Th} (hsd : SoundSpec cx n) (hint : IntSp cx n)
    (hbh : ∀ (la : Addr) (vs : List V) (ts : List Th) (v f : V) (H : HP) (Q : V → HP → Prop), lk cx H la = some (.list vs) → ts.length ≤ 1000 → All2 (ThAt cx H) vs (ts.map (plt B0)) → (∀ t ∈ ts, OkT B0 t) → 7 + ts.length ≤ 12 → v ≠ .unb → f ≠ .unb →
      (∀ r H', Ext cx H H' → H' r = some (.list (intsV (rowN 12 (B0 ++ [ts])))) → Q (.ref r) H') → CallP cx n 340 [.int 0, .ref la, v, f] H Q)
    (hlen : vs.length ≤ 10) (ht : H tb = some (.tup [.str (Str.ofString ""), .int 6])) (h8 : H l8 = some (.list vs)) (h11 : H l11 = some (.list vs)) (hs : ∀ v ∈ vs, Show cx H v)
    (R : RoomAt 12 rm dx ra (B0 ++ [ts]) H) (ha : All2 (ThAt cx H) vs (ts.map (plt B0))) (hok : ∀ t ∈ ts, OkT B0 t) (hfit : 7 + ts.length ≤ 12) (hm : m = ts.length) (uv : v ≠ .unb) (uf : z5 ≠ .unb) (hQ : ∀ H', Q (.bool true) H') :
    mwpSs cx n (dropS 18 m_law6) [z0, .ref rm, .int 0, z3, v, z5, .int m, z7, .ref l8, z9, .str (Str.ofString ""), .ref l11, .ref tb, z13] H (NQ Q) (RQ Q) := by
  refine look_ms hlen ht h8 h11 hs ?_
  refine S_cons ?_
  walk_at "st"
  refine onO_of strNe (ifB_f' (by decide) ?_)
  rw [eqv_int]
  refine ifB_f' (by decide) (S_nil (S_cons ?_))
  walk_at "st"
  rw [eqv_int]
  refine ifB_t' (by decide) (W_sub (sq_t (lk_of ht)) (by decide) (show 2 ≤ 16777216 by decide) (v := .int 6) rfl (hint _ _ _ ?_))
  walk_at "st"
  refine W_sub (sq_t (lk_of ht)) (by decide) (show 2 ≤ 16777216 by decide) (v := .int 6) rfl ?_
  walk_at "st"
  rw [eqv_int]
  refine ifB_f' (by decide) ?_
  rw [eqv_int]
  refine ifB_f' (by decide) (S_nil (S_cons ?_))
  walk_at "st"
  refine onL_of uv (onL_of uf (hbh _ _ ts _ _ _ _ (lk_of h8) (by omega) ha hok hfit uv uf fun ca H1 x1 e1 => ?_))
  walk_at "st"
  rw [eqv_int]
  refine ⟨mulOk_l (by decide), ?_⟩
  have hU : pl (B0 ++ [ts]) (B0 ++ [ts]).length = 7 + ts.length := by rw [pl_app_len, pl_B0]
  rw [show (6 : Int) + (if ((0 : Int) == 0) = true then 1 else 0) * (1 + (m : Int)) = ((pl (B0 ++ [ts]) (B0 ++ [ts]).length : Nat) : Int) by rw [hU, hm]; simp; omega]
  refine hsd _ _ _ _ _ _ _ (R.ext x1.le) e1 ?_ fun H' => RQ.here (hQ H')
  rw [hU, if_pos (by omega)]
  show ((List.range (B0 ++ [ts]).length).map (pl (B0 ++ [ts]))).map _ = _
  rw [show (B0 ++ [ts]).length = 3 from rfl]
  show [((pl (B0 ++ [ts]) 0 : Nat) : Int), ((pl (B0 ++ [ts]) 1 : Nat) : Int), ((pl (B0 ++ [ts]) 2 : Nat) : Int)] = _
  rw [pl_app B0 ts (by decide), pl_app B0 ts (by decide), pl_app B0 ts (by decide)]
  rfl
theorem succ1_ms {z0 z3 z7 z9 z13 : V} {m : Int} {tb l8 l11 : Addr} {k j : Nat} {fl : List Th} {t : Th} (hsd : SoundSpec cx n)
    (hbh : ∀ (la : Addr) (vs : List V) (k j : Nat) (fl : List Th) (t : Th) (H : HP) (Q : V → HP → Prop), lk cx H la = some (.list vs) → All2 (ThAt cx H) vs [plt B0 t] → OkT B0 t → B0[k]? = some fl → j < fl.length →
      (∀ r H', Ext cx H H' → H' r = some (.list (intsV (rowN 12 (B0.set k (fl.set j t))))) → Q (.ref r) H') → CallP cx n 340 [.int 1, .ref la, .int (pl B0 k), .int j] H Q)
    (hlen : vs.length ≤ 10) (ht : H tb = some (.tup [.str (Str.ofString ""), .none])) (h8 : H l8 = some (.list vs)) (h11 : H l11 = some (.list vs)) (hs : ∀ v ∈ vs, Show cx H v)
    (R : RoomAt 12 rm dx ra (B0.set k (fl.set j t)) H) (ha : All2 (ThAt cx H) vs [plt B0 t]) (hok : OkT B0 t) (hk : B0[k]? = some fl) (hj : j < fl.length) (hQ : ∀ H', Q (.bool true) H') :
    mwpSs cx n (dropS 18 m_law6) [z0, .ref rm, .int 1, z3, .int (pl B0 k), .int j, .int m, z7, .ref l8, z9, .str (Str.ofString ""), .ref l11, .ref tb, z13] H (NQ Q) (RQ Q) := by
  refine look_ms hlen ht h8 h11 hs ?_
  refine S_cons ?_
  walk_at "st"
  refine onO_of strNe (ifB_f' (by decide) ?_)
  rw [eqv_int]
  refine ifB_f' (by decide) (S_nil (S_cons ?_))
  walk_at "st"
  rw [eqv_int]
  refine ifB_f' (by decide) ?_
  rw [eqv_int]
  refine ifB_t' (by decide) (W_sub (sq_t (lk_of ht)) (by decide) (show 2 ≤ 16777216 by decide) (v := .none) rfl ?_)
  walk_at "st"
  refine S_cons ?_
  walk_at "st"
  refine hbh _ _ k j fl t _ _ (lk_of h8) ha hok hk hj fun ca H1 x1 e1 => ?_
  walk_at "st"
  rw [eqv_int]
  refine ⟨mulOk_l (by decide), ?_⟩
  have hU : pl (B0.set k (fl.set j t)) (B0.set k (fl.set j t)).length = 6 := by rw [pl_set hk (by simp), List.length_set]; exact pl_B0
  rw [show (6 : Int) + (if ((1 : Int) == 0) = true then 1 else 0) * (1 + m) = ((pl (B0.set k (fl.set j t)) (B0.set k (fl.set j t)).length : Nat) : Int) by rw [hU]; simp]
  refine hsd _ _ _ _ _ _ _ (R.ext x1.le) e1 ?_ fun H' => RQ.here (hQ H')
  rw [hU, if_neg (by decide)]
  show ((List.range (B0.set k (fl.set j t)).length).map (pl (B0.set k (fl.set j t)))).map _ = _
  rw [show pl (B0.set k (fl.set j t)) = pl B0 from funext fun i => pl_set hk (by simp) i, List.length_set]
  exact plI_B0
end
end Mine
end

section
namespace Mine
open PySem PyProof.Rows
theorem gt_no : ∀ k : Nat, k < 9 → (goodT k).1 = true → (goodT k).2 ∉ [(0 : Int), 3] → 5 ≤ k := by decide +kernel
theorem gt_yes : ∀ k : Nat, k < 9 → 5 ≤ k → (goodT k).1 = true ∧ (goodT k).2 ∉ [(0 : Int), 3] := by decide +kernel
theorem plt_ok {t : Th} (h : OkT B0 t) (q : (plt B0 t).1 = true) : (plt B0 t).2 ∈ [(0 : Int), 3] := by
  unfold plt at q ⊢
  by_cases e : t.1 = true
  · rw [if_pos e]
    obtain ⟨j, h1, h2⟩ := h e
    rw [← plI_B0]
    exact mem_plI.mpr ⟨t.2.toNat, by rw [h1]; exact h2, rfl⟩
  · rw [if_neg e] at q; exact absurd q e
section
variable {cx : Cx} {rm dx ra sa l8 : Addr} {N m : Nat} {B : Bx} {H H' K K' : HP} {n : Nat} {a b r : Addr} {o : O} {Q : V → HP → Prop} {v u w f : V} {vs : List V} {ls : List (Option Nat)} {ks : List Nat} {ns : List Int} {ts : List Th}
theorem lab_bad (hl : All2 (Lab cx H) vs ls) (hk : ∀ k, some k ∈ ls ↔ k ∈ ks) (h : ∃ v ∈ vs, BadT cx H v) : ∃ k ∈ ks, 8 < k := by
  obtain ⟨v, hv, hb⟩ := h
  obtain ⟨i, hi⟩ := List.mem_iff_getElem?.mp hv
  obtain ⟨o, ho, hL⟩ := hl.get hi
  cases o with
  | none => obtain ⟨j, _, h2⟩ := hL; exact (hb.notTh h2).elim
  | some k =>
    refine ⟨k, (hk k).mp (List.mem_of_getElem? ho), ?_⟩
    by_cases q : k < 9
    · exact (hb.notTh (hL.2.1 q)).elim
    · omega
theorem lab_th (hl : All2 (Lab cx H) vs ls) (hk : ∀ k, some k ∈ ls ↔ k ∈ ks) (ht : All2 (ThAt cx H) vs ts) : (∀ k ∈ ks, k < 9 ∧ goodT k ∈ ts) ∧ ∀ t ∈ ts, t.1 = true → ∃ k ∈ ks, k < 9 ∧ t = goodT k := by
  constructor
  · intro k hk'
    obtain ⟨i, hi⟩ := List.mem_iff_getElem?.mp ((hk k).mpr hk')
    obtain ⟨v, hv, hL⟩ := hl.get' hi
    obtain ⟨t, ht1, ht2⟩ := ht.get hv
    by_cases q : k < 9
    · exact ⟨q, by rw [(hL.2.1 q).inj ht2]; exact List.mem_of_getElem? ht1⟩
    · exact ((hL.2.2.1 (by omega)).notTh ht2).elim
  · intro t ht1 ht2
    obtain ⟨i, hi⟩ := List.mem_iff_getElem?.mp ht1
    obtain ⟨v, hv, hT⟩ := ht.get' hi
    obtain ⟨o, ho, hL⟩ := hl.get hv
    cases o with
    | none => obtain ⟨j, _, h2⟩ := hL; rw [hT.inj h2] at ht2; cases ht2
    | some k =>
      by_cases q : k < 9
      · exact ⟨k, (hk k).mp (List.mem_of_getElem? ho), q, hT.inj (hL.2.1 q)⟩
      · exact ((hL.2.2.1 (by omega)).notTh hT).elim
theorem due_thing (h : ∃ k ∈ ks, 8 < k) : dueM m ks = Str.ofString "thing" := by unfold dueM; rw [if_pos h]
theorem due_box (h1 : ¬ ∃ k ∈ ks, 8 < k) (h : ∃ k ∈ ks, 5 ≤ k) : dueM m ks = Str.ofString "box" := by unfold dueM; rw [if_neg h1, if_pos h]
theorem due_ok (h : ∀ k ∈ ks, k < 5) : dueM m ks = if 5 < m then Str.ofString "room" else Str.ofString "" := by
  unfold dueM
  rw [if_neg (fun ⟨k, h1, h2⟩ => by have := h k h1; omega), if_neg (fun ⟨k, h1, h2⟩ => by have := h k h1; omega)]
theorem lab_box (hl : All2 (Lab cx H) vs ls) (hk : ∀ k, some k ∈ ls ↔ k ∈ ks) (ht : All2 (ThAt cx H) vs ts) (h : ∃ t ∈ ts, t.1 = true ∧ t.2 ∉ plI B0) : dueM m ks = Str.ofString "box" := by
  obtain ⟨t, h1, h2, h3⟩ := h
  obtain ⟨g1, g2⟩ := lab_th hl hk ht
  obtain ⟨k, q1, q2, rfl⟩ := g2 t h1 h2
  rw [plI_B0] at h3
  exact due_box (fun ⟨k, z1, z2⟩ => by have := (g1 k z1).1; omega) ⟨k, q1, gt_no k q2 h2 h3⟩
theorem lab_ok (hl : All2 (Lab cx H) vs ls) (hk : ∀ k, some k ∈ ls ↔ k ∈ ks) (ht : All2 (ThAt cx H) vs (ts.map (plt B0))) (ho : ∀ t ∈ ts, OkT B0 t) : ∀ k ∈ ks, k < 5 := by
  obtain ⟨g1, _⟩ := lab_th hl hk ht
  intro k hk'
  obtain ⟨q1, q2⟩ := g1 k hk'
  by_cases h5 : 5 ≤ k
  · obtain ⟨z1, z2⟩ := gt_yes k q1 h5
    obtain ⟨t, t1, t2⟩ := List.mem_map.mp q2
    rw [← t2] at z1 z2
    exact absurd (plt_ok (ho t t1) z1) z2
  · omega
noncomputable def Called0 (cx : Cx) (n : Nat) : Prop := ∀ (rm dx ra la : Addr) (vs : List V) (v f : V) (H : HP) (Q : V → HP → Prop), RoomAt 12 rm dx ra B0 H → lk cx H la = some (.list vs) → vs.length ≤ 1000 → (∀ v ∈ vs, (∃ t, ThAt cx H v t) ∨ BadT cx H v) → v ≠ .unb → f ≠ .unb →
  ((∃ v ∈ vs, BadT cx H v) → TupR cx H Q "thing") → (∀ ts, All2 (ThAt cx H) vs ts → (∃ t ∈ ts, t.1 = true ∧ t.2 ∉ plI B0) → TupR cx H Q "box") →
  (∀ ts : List Th, All2 (ThAt cx H) vs (ts.map (plt B0)) → (∀ t ∈ ts, OkT B0 t) → 5 < ts.length → TupR cx H Q "room") →
  (∀ ts : List Th, All2 (ThAt cx H) vs (ts.map (plt B0)) → (∀ t ∈ ts, OkT B0 t) → 7 + ts.length ≤ 12 → ∀ ra' tb H', RoomAt 12 rm dx ra' (B0 ++ [ts]) H' → But dx H H' → KZ cx H H' → H' tb = some (.tup [.str (Str.ofString ""), .int 6]) → Q (.ref tb) H') →
  CallP cx n 333 [.ref rm, .int 0, .ref la, v, f] H Q
noncomputable def Called1 (cx : Cx) (n : Nat) : Prop := ∀ (rm dx ra la : Addr) (v f t' : V) (H : HP) (Q : V → HP → Prop), RoomAt 12 rm dx ra B0 H → Kn H v → Kn H f → lk cx H la = some (.list [t']) → ((∃ t, ThAt cx H t' t) ∨ BadT cx H t') →
  (¬ InPl B0 v → TupR cx H Q "box") → (∀ k fl, v = .int (pl B0 k) → B0[k]? = some fl → (¬ ∃ j : Nat, f = .int j ∧ j < fl.length) → TupR cx H Q "field") →
  (∀ k fl (j : Nat), v = .int (pl B0 k) → B0[k]? = some fl → f = .int j → j < fl.length → BadT cx H t' → TupR cx H Q "thing") →
  (∀ k fl (j : Nat) t, v = .int (pl B0 k) → B0[k]? = some fl → f = .int j → j < fl.length → ThAt cx H t' t → t.1 = true → t.2 ∉ plI B0 → TupR cx H Q "box") →
  (∀ k fl (j : Nat) t, v = .int (pl B0 k) → B0[k]? = some fl → f = .int j → j < fl.length → ThAt cx H t' (plt B0 t) → OkT B0 t → ∀ tb H', RoomAt 12 rm dx ra (B0.set k (fl.set j t)) H' → But ra H H' → KZ cx H H' → H' tb = some (.tup [.str (Str.ofString ""), .none]) → Q (.ref tb) H') →
  CallP cx n 333 [.ref rm, .int 1, .ref la, v, f] H Q
noncomputable def Called2 (cx : Cx) (n : Nat) : Prop := ∀ (rm dx ra la : Addr) (v f : V) (H : HP) (Q : V → HP → Prop), RoomAt 12 rm dx ra B0 H → Kn H v → f ≠ .unb → (¬ InPl B0 v → TupR cx H Q "box") →
  (∀ k fl, v = .int (pl B0 k) → B0[k]? = some fl → ∀ r vs tb H', Ext cx H H' → H' r = some (.list vs) → All2 (ThAt cx H') vs (fl.map (plt B0)) → H' tb = some (.tup [.str (Str.ofString ""), .ref r]) → Q (.ref tb) H') →
  CallP cx n 333 [.ref rm, .int 2, .ref la, v, f] H Q
noncomputable def Behind0 (cx : Cx) (n : Nat) : Prop := ∀ (la : Addr) (vs : List V) (ts : List Th) (v f : V) (H : HP) (Q : V → HP → Prop), lk cx H la = some (.list vs) → ts.length ≤ 1000 → All2 (ThAt cx H) vs (ts.map (plt B0)) → (∀ t ∈ ts, OkT B0 t) → 7 + ts.length ≤ 12 → v ≠ .unb → f ≠ .unb →
      (∀ r H', Ext cx H H' → H' r = some (.list (intsV (rowN 12 (B0 ++ [ts])))) → Q (.ref r) H') → CallP cx n 340 [.int 0, .ref la, v, f] H Q
noncomputable def Behind1 (cx : Cx) (n : Nat) : Prop := ∀ (la : Addr) (vs : List V) (k j : Nat) (fl : List Th) (t : Th) (H : HP) (Q : V → HP → Prop), lk cx H la = some (.list vs) → All2 (ThAt cx H) vs [plt B0 t] → OkT B0 t → B0[k]? = some fl → j < fl.length →
      (∀ r H', Ext cx H H' → H' r = some (.list (intsV (rowN 12 (B0.set k (fl.set j t))))) → Q (.ref r) H') → CallP cx n 340 [.int 1, .ref la, .int (pl B0 k), .int j] H Q
theorem ThAt.but {t : Th} {o : O} (hb : But a H H') (hz : KZ cx H H') (ha : H a = some o) (no : ∀ ws, o ≠ .tup ws) (h : ThAt cx H v t) : ThAt cx H' v t := by
  obtain ⟨b, rfl, e⟩ := h
  refine ⟨b, rfl, ?_⟩
  unfold lk at e ⊢
  cases e1 : H b with
  | some o' =>
    rw [e1] at e
    cases e
    rw [hb b _ (fun q => by subst q; rw [ha] at e1; cases e1; exact no _ rfl) e1]
  | none =>
    rw [e1] at e
    cases e2 : cx.Z b with
    | none => rw [e2] at e; cases e
    | some l => rw [e2] at e; cases e
theorem end0_ms {z0 z7 z10 z11 z12 z13 : V} {r9 : Addr} {k0 : Nat} (hpd : PutDueSpec cx n) (hmd : MadeDueSpec cx n) (hca : Called0 cx n) (hbh : Behind0 cx n) (hsd : SoundSpec cx n) (hint : IntSp cx n)
    (R : RoomAt 12 rm dx ra B0 H) (jv : Jk H v) (jf : Jk H f) (h8 : H l8 = some (.list vs)) (hvs : vs.length = m) (hm : m < 10) (hl : All2 (Lab cx H) vs ls) (hk : ∀ k, some k ∈ ls ↔ k ∈ ks) (h9 : H r9 = some (.list (natsV ks))) (hkl : ks.length ≤ 1000) (hQ : ∀ H', Q (.bool true) H') :
    mwpSs cx n (dropS 13 m_law6) [z0, .ref rm, .int 0, .int k0, v, f, .int m, z7, .ref l8, .ref r9, z10, z11, z12, z13] H (NQ Q) (RQ Q) := by
  have uv : v ≠ .unb := by rintro rfl; cases jv
  have uf : f ≠ .unb := by rintro rfl; cases jf
  refine S_cons ?_
  walk_at "st"
  rw [eqv_int]
  refine ifB_f' (by decide) (S_nil (S_cons ?_))
  walk_at "st"
  refine onL_of uv (onL_of uf (hpd _ _ _ _ _ _ jv jf (S_cons ?_)))
  walk_at "st"
  rw [eqv_int]
  refine ifB_t' (by decide) (S_cons ?_)
  walk_at "st"
  refine hmd m r9 ks _ _ (lk_of h9) hkl (S_nil (S_cons ?_))
  walk_at "st"
  refine W_list (sq_l (lk_of h8)) (by omega) (new_abs fun l11 H1 x1 _ e1 => S_cons ?_)
  replace R := R.ext x1.le
  replace jv := jv.ext x1.le
  replace jf := jf.ext x1.le
  replace h8 := x1.le _ _ h8
  replace hl := hl.imp fun _ _ q => q.ext x1
  have hlen : vs.length ≤ 10 := by omega
  have sh : ∀ {H' : HP}, Ext cx H1 H' → ∀ v ∈ vs, Show cx H' v := fun x v hv => by
    obtain ⟨i, hi⟩ := List.mem_iff_getElem?.mp hv
    obtain ⟨o, ho, hL⟩ := hl.get hi
    exact (hL.ext x).show
  walk_at "st"
  have err : ∀ (s : String), Str.ofString s ≠ Str.ofString "" → dueM m ks = Str.ofString s → TupR cx H1 (fun w H' => mwpSs cx n (dropS 18 m_law6) [z0, .ref rm, .int 0, .int k0, v, f, .int m, z7, .ref l8, .ref r9, .str (dueM m ks), .ref l11, w, z13] H' (NQ Q) (RQ Q)) s := fun s hs hd tb H' x' et => by
    rw [hd]
    exact err_ms hsd hlen et (x'.le _ _ h8) (x'.le _ _ e1) (sh x') (R.ext x'.le) (jv.ext x'.le) (.inl hs) hQ
  refine onL_of uv (onL_of uf (hca rm dx ra l11 vs v f H1 _ R (lk_of e1) (by omega) (fun v hv => ?_) uv uf (fun q => err "thing" (by decide) (due_thing (lab_bad hl hk q))) (fun ts h1 h2 => err "box" (by decide) (lab_box hl hk h1 h2)) (fun ts h1 h2 h3 => err "room" (by decide) ?_) fun ts h1 h2 h3 ra' tb H' R' hb hz et => ?_))
  · obtain ⟨i, hi⟩ := List.mem_iff_getElem?.mp hv
    obtain ⟨o, ho, hL⟩ := hl.get hi
    exact hL.kind
  · have := h1.1
    rw [List.length_map] at this
    rw [due_ok (lab_ok hl hk h1 h2), if_pos (by omega)]
  · have hlt := h1.1
    rw [List.length_map] at hlt
    rw [due_ok (lab_ok hl hk h1 h2), if_neg (by omega)]
    have ht := h1.imp fun _ _ q => q.but hb hz R.d (fun ws q => by cases q)
    refine succ0_ms (ts := ts) hsd hint hbh hlen et (hb _ _ (fun q => by rw [q, R.d] at h8; cases h8) h8) (hb _ _ (fun q => by rw [q, R.d] at e1; cases e1) e1) (fun v hv => ?_) R' ht h2 h3 (by omega) uv uf hQ
    obtain ⟨i, hi⟩ := List.mem_iff_getElem?.mp hv
    obtain ⟨o, ho, hL⟩ := hl.get hi
    obtain ⟨t, ht1, ht2⟩ := h1.get hi
    have hT := ht2.but hb hz R.d (fun ws q => by cases q)
    cases o with
    | none =>
      obtain ⟨j, q1, q2⟩ := hL
      exact th_show (by rw [← ht2.inj q2]; exact hT) (Sh.of (sh_num j q1))
    | some k =>
      by_cases q : k < 9
      · exact th_show (by rw [← ht2.inj (hL.2.1 q)]; exact hT) (Sh.of (sh_good k q))
      · exact ((hL.2.2.1 (by omega)).notTh ht2).elim
theorem in03 : is03 v = true ↔ InPl B0 v := by
  unfold is03 InPl
  rw [plI_B0]
  cases v with
  | int i =>
    show (i == 0 || i == 3) = true ↔ _
    simp only [Bool.or_eq_true, beq_iff_eq, List.mem_cons, List.not_mem_nil, or_false, V.int.injEq]
    constructor
    · intro h; exact ⟨i, rfl, h⟩
    · rintro ⟨_, rfl, h⟩; exact h
  | _ => exact ⟨(fun h => by cases h), (fun ⟨i, h, _⟩ => by cases h)⟩
theorem b0_at {k : Nat} {fl : List Th} (h : B0[k]? = some fl) : fl.length = 2 ∧ is03 (.int (pl B0 k)) = true ∧ fl.map (plt B0) = tp (.int (pl B0 k)) := by
  match k, h with
  | 0, h => cases h; decide
  | 1, h => cases h; decide
  | k + 2, h => simp [B0] at h
theorem end1_ms {z0 z7 z9 z10 z11 z12 z13 : V} {mm : Int} {k0 : Nat} (hpd : PutDueSpec cx n) (hca : Called1 cx n) (hbh : Behind1 cx n) (hsd : SoundSpec cx n)
    (R : RoomAt 12 rm dx ra B0 H) (jv : Jk H v) (jf : Jk H f) (h8 : H l8 = some (.list [u])) (hu : Pick cx H k0 u) (hk0 : k0 < 25) (hQ : ∀ H', Q (.bool true) H') :
    mwpSs cx n (dropS 14 m_law6) [z0, .ref rm, .int 1, .int k0, v, f, .int mm, z7, .ref l8, z9, z10, z11, z12, z13] H (NQ Q) (RQ Q) := by
  have uv : v ≠ .unb := by rintro rfl; cases jv
  have uf : f ≠ .unb := by rintro rfl; cases jf
  refine S_cons ?_
  walk_at "st"
  refine onL_of uv (onL_of uf (hpd _ _ _ _ _ _ jv jf (S_cons ?_)))
  walk_at "st"
  rw [eqv_int]
  refine ifB_f' (by decide) (S_nil (S_cons ?_))
  walk_at "st"
  refine W_list (sq_l (lk_of h8)) (show 1 ≤ 16777216 by decide) (new_abs fun l11 H1 x1 _ e1 => S_cons ?_)
  replace R := R.ext x1.le
  replace jv := jv.ext x1.le
  replace jf := jf.ext x1.le
  replace h8 := x1.le _ _ h8
  replace hu := hu.ext x1
  have hlen : [u].length ≤ 10 := show 1 ≤ 10 by decide
  walk_at "st"
  have err : ∀ (s : String), Str.ofString s ≠ Str.ofString "" → dueP 1 v f k0 = Str.ofString s → TupR cx H1 (fun w H' => mwpSs cx n (dropS 18 m_law6) [z0, .ref rm, .int 1, .int k0, v, f, .int mm, z7, .ref l8, z9, .str (dueP 1 v f k0), .ref l11, w, z13] H' (NQ Q) (RQ Q)) s := fun s hs hd tb H' x' et => by
    rw [hd]
    refine err_ms hsd hlen et (x'.le _ _ h8) (x'.le _ _ e1) (fun v hv => ?_) (R.ext x'.le) (jv.ext x'.le) (.inl hs) hQ
    rw [List.mem_singleton.mp hv]
    exact hu.2.2.ext x'
  have d3 : ∀ k fl (j : Nat), v = .int (pl B0 k) → B0[k]? = some fl → f = .int j → j < fl.length → dueP 1 v f k0 = wordK k0 := fun k fl j h1 h2 h3 h4 => by
    obtain ⟨g1, g2, _⟩ := b0_at h2
    unfold dueP
    rw [h1, g2, if_neg (by decide), if_neg (by decide), h3, if_neg]
    rw [okF_iff, decide_eq_true (by omega), decide_eq_true (by omega)]
    decide
  refine onL_of uv (onL_of uf (hca rm dx ra l11 v f u H1 _ R jv.kn jf.kn (lk_of e1) ?_ (fun q => err "box" (by decide) ?_) (fun k fl h1 h2 h3 => err "field" (by decide) ?_) (fun k fl j h1 h2 h3 h4 h5 => err "thing" (by decide) ?_) (fun k fl j t h1 h2 h3 h4 h5 h6 h7 => err "box" (by decide) ?_) fun k fl j t h1 h2 h3 h4 h5 h6 tb H' R' hb hz et => ?_))
  · by_cases q : k0 < 9
    · exact .inl ⟨_, hu.1 q⟩
    · exact .inr (hu.2.1 (by omega))
  · unfold dueP
    rw [if_pos (Bool.eq_false_iff.mpr fun z => q (in03.mp z))]
  · obtain ⟨g1, g2, _⟩ := b0_at h2
    unfold dueP
    rw [h1, g2, if_neg (by decide), if_neg (by decide), if_pos]
    cases f with
    | int i =>
      rw [okF_iff, Bool.eq_false_iff]
      simp only [ne_eq, Bool.and_eq_true, decide_eq_true_iff]
      rintro ⟨z1, z2⟩
      exact h3 ⟨i.toNat, by rw [Int.toNat_of_nonneg z1], by omega⟩
    | _ => rfl
  · rw [d3 k fl j h1 h2 h3 h4]
    unfold wordK
    by_cases q : k0 < 9
    · exact (h5.notTh (hu.1 q)).elim
    · rw [if_neg (by omega), if_pos (by omega)]
  · rw [d3 k fl j h1 h2 h3 h4]
    unfold wordK
    by_cases q : k0 < 9
    · rw [h5.inj (hu.1 q)] at h6 h7
      rw [plI_B0] at h7
      have := gt_no k0 q h6 h7
      rw [if_neg (by omega), if_neg (by omega)]
    · exact ((hu.2.1 (by omega)).notTh h5).elim
  · rw [d3 k fl j h1 h2 h3 h4]
    have q : k0 < 9 := by
      by_cases q : k0 < 9
      · exact q
      · exact ((hu.2.1 (by omega)).notTh h5).elim
    have q5 : k0 < 5 := by
      by_cases z : 5 ≤ k0
      · obtain ⟨z1, z2⟩ := gt_yes k0 q z
        rw [← h5.inj (hu.1 q)] at z1 z2
        exact absurd (plt_ok h6 z1) z2
      · omega
    rw [show wordK k0 = Str.ofString "" by unfold wordK; rw [if_pos q5], h1, h3]
    have nr : ∀ l, H1 l = some (.list [u]) → l ≠ ra := fun l e z => by
      rw [z, R.r] at e
      have := congrArg (fun o => match o with | some (O.list x) => x.length | _ => 0) e
      change (intsV (rowN 12 B0)).length = 1 at this
      rw [row_B0] at this
      exact absurd this (by decide)
    have hT := h5.but hb hz R.r (fun ws q => by cases q)
    refine succ1_ms hsd hbh hlen et (hb _ _ (nr _ h8) h8) (hb _ _ (nr _ e1) e1) (fun v hv => ?_) R' (All2.nil.snoc hT) h6 h2 h4 hQ
    rw [List.mem_singleton.mp hv]
    exact th_show (by rw [← h5.inj (hu.1 q)]; exact hT) (Sh.of (sh_good k0 q))
theorem end2_ms {z0 z6 z7 z9 z10 z11 z12 z13 : V} {k0 : Nat} (hpd : PutDueSpec cx n) (hca : Called2 cx n) (hsd : SoundSpec cx n)
    (R : RoomAt 12 rm dx ra B0 H) (jv : Jk H v) (jf : Jk H f) (h8 : H l8 = some (.list vs)) (hlen : vs.length ≤ 10) (hs : ∀ v ∈ vs, Show cx H v) (hQ : ∀ H', Q (.bool true) H') :
    mwpSs cx n (dropS 13 m_law6) [z0, .ref rm, .int 2, .int k0, v, f, z6, z7, .ref l8, z9, z10, z11, z12, z13] H (NQ Q) (RQ Q) := by
  have uv : v ≠ .unb := by rintro rfl; cases jv
  have uf : f ≠ .unb := by rintro rfl; cases jf
  refine S_cons ?_
  walk_at "st"
  rw [eqv_int]
  refine ifB_f' (by decide) (S_nil (S_cons ?_))
  walk_at "st"
  refine onL_of uv (onL_of uf (hpd _ _ _ _ _ _ jv jf (S_cons ?_)))
  walk_at "st"
  rw [eqv_int]
  refine ifB_f' (by decide) (S_nil (S_cons ?_))
  walk_at "st"
  refine W_list (sq_l (lk_of h8)) (by omega) (new_abs fun l11 H1 x1 _ e1 => S_cons ?_)
  replace R := R.ext x1.le
  replace jv := jv.ext x1.le
  replace h8 := x1.le _ _ h8
  walk_at "st"
  refine onL_of uv (onL_of uf (hca rm dx ra l11 v f H1 _ R jv.kn uf (fun q tb H' x' et => ?_) fun k fl h1 h2 r ws tb H' x' er ha et => ?_))
  · have hd : dueP 2 v f k0 = Str.ofString "box" := by
      unfold dueP
      rw [if_pos (Bool.eq_false_iff.mpr fun z => q (in03.mp z))]
    rw [hd]
    exact err_ms hsd hlen et (x'.le _ _ h8) (x'.le _ _ e1) (fun v hv => (hs v hv).ext (x1.trans x')) (R.ext x'.le) (jv.ext x'.le) (.inl (by decide)) hQ
  · obtain ⟨g1, g2, g3⟩ := b0_at h2
    have hd : dueP 2 v f k0 = Str.ofString "" := by
      unfold dueP
      rw [h1, g2, if_neg (by decide), if_pos rfl]
    rw [hd]
    refine err_ms hsd hlen et (x'.le _ _ h8) (x'.le _ _ e1) (fun v hv => (hs v hv).ext (x1.trans x')) (R.ext x'.le) (jv.ext x'.le) (.inr ⟨rfl, r, ws, rfl, er, ?_⟩) hQ
    rw [h1, ← g3]
    exact ha
end
end Mine
end

section
namespace Mine
open PySem PyProof.Rows
theorem set_one {m i k0 k : Nat} (h : i < m) : some k ∈ (List.replicate m (none : Option Nat)).set i (some k0) ↔ k ∈ [k0] := by
  rw [List.mem_iff_getElem?, List.mem_singleton]
  constructor
  · rintro ⟨p, q⟩
    rw [List.getElem?_set] at q
    split at q
    · split at q
      · cases q; rfl
      · cases q
    · rw [List.getElem?_replicate] at q
      split at q <;> cases q
  · rintro rfl
    exact ⟨i, by rw [List.getElem?_set_self (by simpa using h)]⟩
theorem set_two {m i j k0 k1 k : Nat} (h : i < m) (h' : j < m) (ne : i ≠ j) : some k ∈ ((List.replicate m (none : Option Nat)).set i (some k0)).set j (some k1) ↔ k ∈ [k0, k1] := by
  rw [List.mem_iff_getElem?, List.mem_cons, List.mem_singleton]
  constructor
  · rintro ⟨p, q⟩
    rw [List.getElem?_set] at q
    split at q
    · split at q
      · cases q; exact .inr rfl
      · cases q
    · have := (set_one (k0 := k0) (k := k) h).mp (List.mem_iff_getElem?.mpr ⟨p, q⟩)
      exact .inl (List.mem_singleton.mp this)
  · rintro (rfl | rfl)
    · exact ⟨i, by rw [List.getElem?_set_ne (Ne.symm ne), List.getElem?_set_self (by simpa using h)]⟩
    · exact ⟨j, by rw [List.getElem?_set_self (by simpa using h')]⟩
theorem All2.set {α β : Type} {R : α → β → Prop} {xs : List α} {ys : List β} (h : All2 R xs ys) {x : α} {y : β} (i : Nat) (hr : R x y) : All2 R (xs.set i x) (ys.set i y) := by
  refine ⟨by simp [h.1], fun j u w hu hw => ?_⟩
  rw [List.getElem?_set] at hu hw
  by_cases q : i = j
  · subst q
    rw [if_pos rfl] at hu hw
    split at hu
    · split at hw
      · cases hu; cases hw; exact hr
      · cases hw
    · cases hu
  · rw [if_neg q] at hu hw
    exact h.2 j u w hu hw
theorem next_ne {a m : Int} (h1 : 0 ≤ a) (h2 : a < m) (h3 : 1 < m) : ((a + 1).fmod m).toNat ≠ a.toNat := by
  rw [Int.fmod_eq_emod_of_nonneg _ (by omega)]
  by_cases q : a + 1 < m
  · rw [Int.emod_eq_of_lt (by omega) q]; omega
  · rw [show a + 1 = m by omega, Int.emod_self]; omega
section
variable {cx : Cx} {rm dx ra sa l8 : Addr} {N m : Nat} {B : Bx} {H H' K K' : HP} {n : Nat} {a b r : Addr} {o : O} {Q : V → HP → Prop} {v u w f : V} {vs : List V} {ls : List (Option Nat)} {ks : List Nat} {ns : List Int} {ts : List Th}
structure T0 (cx : Cx) (rm dx ra sa l8 : Addr) (v f : V) (vs : List V) (ls : List (Option Nat)) (K : HP) : Prop where
  n : K l8 = none
  z : cx.Z l8 = none
  R : RoomAt 12 rm dx ra B0 K
  s : K sa = none
  jv : Jk K v
  jf : Jk K f
  l : All2 (Lab cx K) vs ls
theorem T0.ext (hz : cx.Z sa = some (intsV ns)) (T : T0 cx rm dx ra sa l8 v f vs ls K) (x : Ext cx K K') (h : K' l8 = none) : T0 cx rm dx ra sa l8 v f vs ls K' :=
  ⟨h, T.z, T.R.ext x.le, x.z _ _ hz T.s, T.jv.ext x.le, T.jf.ext x.le, T.l.imp fun _ _ q => q.ext x⟩
theorem T0.grow (hz : cx.Z sa = some (intsV ns)) (T : T0 cx rm dx ra sa l8 v f vs ls K) (x : Ext cx (upd K l8 (.list vs)) H') : ∃ K', H' = upd K' l8 (.list vs) ∧ Ext cx K K' ∧ T0 cx rm dx ra sa l8 v f vs ls K' := by
  obtain ⟨x1, x2, x3⟩ := beside T.n T.z x
  exact ⟨_, x3.symm, x1, T.ext hz x1 (del_same _ _)⟩
theorem T0.up (T : T0 cx rm dx ra sa l8 v f vs ls K) (o : O) : Ext cx K (upd K l8 o) := (Ext.refl cx K).upd T.n T.z o
theorem T0.scr (hz : cx.Z sa = some (intsV ns)) (T : T0 cx rm dx ra sa l8 v f vs ls K) : lk cx (upd K l8 (.list vs)) sa = some (.list (intsV ns)) := by
  unfold lk
  rw [upd_ne _ (fun q => by subst q; rw [T.z] at hz; cases hz), T.s, hz]; rfl
theorem T0.set (T : T0 cx rm dx ra sa l8 v f vs ls K) {k : Nat} (hk : k < 25) (h : Pick cx K k u) (i : Nat) : T0 cx rm dx ra sa l8 v f (vs.set i u) (ls.set i (some k)) K :=
  ⟨T.n, T.z, T.R, T.s, T.jv, T.jf, T.l.set i (show Lab cx K u (some k) from ⟨hk, h⟩)⟩
theorem T0.pick (hz : cx.Z sa = some (intsV ns)) (hth : ThingsSpec cx n) (T : T0 cx rm dx ra sa l8 v f vs ls K)
    (h : ∀ K' r ws, T0 cx rm dx ra sa l8 v f vs ls K' → Ext cx K K' → K' r = some (.list ws) → ws.length = 25 → PickAll cx K' 0 ws → Q (.ref r) (upd K' l8 (.list vs))) : CallP cx n 307 [] (upd K l8 (.list vs)) Q := by
  refine frame1 T.n (hth K (fun v H1 => ∃ r ws, v = .ref r ∧ Ext cx K H1 ∧ H1 r = some (.list ws) ∧ ws.length = 25 ∧ PickAll cx H1 0 ws) fun r ws H' x e hl hp => ⟨r, ws, rfl, x, e, hl, hp⟩) fun v H1 hv h1 => ?_
  cases v with
  | exc C => exact hv.elim
  | ref r =>
    obtain ⟨r', ws, e, x, h2, h3, h4⟩ := hv
    cases e
    exact h H1 r ws (T.ext hz x h1) x h2 h3 h4
  | _ => obtain ⟨r', ws, e, _⟩ := hv; cases e
theorem T0.at_ (T : T0 cx rm dx ra sa l8 v f vs ls K) {k : Nat} {ws : List V} (hr : K r = some (.list ws)) (hl : ws.length = 25) (hp : PickAll cx K 0 ws) (hk : k < 25) (h : ∀ u, Pick cx K k u → Q u (upd K l8 (.list vs))) : subP cx (.ref r) (.int (k : Nat)) (upd K l8 (.list vs)) Q := by
  have n8 : r ≠ l8 := fun q => by subst q; rw [T.n] at hr; cases hr
  have e := List.getElem?_eq_getElem (l := ws) (i := k) (by omega)
  refine W_sub (sq_l (by rw [lk_ne n8]; exact lk_of hr)) (by omega) (by omega) (by rw [Int.toNat_natCast]; exact e) (h _ ?_)
  have := hp.get e
  rw [Nat.zero_add] at this; exact this
theorem end0T {z0 z7 z10 z11 z12 z13 : V} {r9 : Addr} {k0 : Nat} (hpd : PutDueSpec cx n) (hmd : MadeDueSpec cx n) (hca : Called0 cx n) (hbh : Behind0 cx n) (hsd : SoundSpec cx n) (hint : IntSp cx n)
    (T : T0 cx rm dx ra sa l8 v f vs ls K) (hvs : vs.length = m) (hm : m < 10) (hk : ∀ k, some k ∈ ls ↔ k ∈ ks) (h9 : K r9 = some (.list (natsV ks))) (hkl : ks.length ≤ 1000) (hQ : ∀ H', Q (.bool true) H') :
    mwpSs cx n (dropS 13 m_law6) [z0, .ref rm, .int 0, .int k0, v, f, .int m, z7, .ref l8, .ref r9, z10, z11, z12, z13] (upd K l8 (.list vs)) (NQ Q) (RQ Q) :=
  have x := T.up (.list vs)
  end0_ms hpd hmd hca hbh hsd hint (T.R.ext x.le) (T.jv.ext x.le) (T.jf.ext x.le) (upd_same _ _ _) hvs hm (T.l.imp fun _ _ q => q.ext x) hk (x.le _ _ h9) hkl hQ
theorem mid0b {z10 z11 z12 z13 : V} {r9 : Addr} {k0 : Nat} {i : Int} (hz : cx.Z sa = some (intsV ns)) (hat : AtSpec cx n sa ns) (hth : ThingsSpec cx n) (hpd : PutDueSpec cx n) (hmd : MadeDueSpec cx n) (hca : Called0 cx n) (hbh : Behind0 cx n) (hsd : SoundSpec cx n) (hint : IntSp cx n)
    (T : T0 cx rm dx ra sa l8 v f vs ls K) (hvs : vs.length = m) (hm : m < 10) (hi : 0 ≤ i) (him : 0 < m → i < m) (hk : ∀ k, some k ∈ ls ↔ k ∈ ks) (h9 : K r9 = some (.list (natsV ks))) (hkl : ks.length ≤ 1000) (hls : 0 < m → ls = (List.replicate m none).set i.toNat (some k0)) (hQ : ∀ H', Q (.bool true) H') :
    mwpSs cx n (dropS 12 m_law6) [.ref sa, .ref rm, .int 0, .int k0, v, f, .int m, .int i, .ref l8, .ref r9, z10, z11, z12, z13] (upd K l8 (.list vs)) (NQ Q) (RQ Q) := by
  have no := fun (z : Unit) => end0T (Q := Q) (z0 := .ref sa) (z7 := .int i) (z10 := z10) (z11 := z11) (z12 := z12) (z13 := z13) (k0 := k0) hpd hmd hca hbh hsd hint T hvs hm hk h9 hkl hQ
  refine S_cons ?_
  walk_at "st"
  rw [eqv_int]
  refine ifB_t' (by decide) (ifB_of (fun q1 => hat _ _ _ (T.scr hz) (by decide) fun s => ?_) fun q1 => S_nil (no ()))
  have h1m : 1 < m := by have := decide_eq_true_iff.mp q1; omega
  walk_at "st"
  refine ⟨by decide, ?_⟩
  rw [eqv_int]
  refine ifB_of (fun q2 => S_cons ?_) fun q2 => S_nil (no ())
  clear no
  walk_at "st"
  refine hat _ _ _ (T.scr hz) (by decide) fun s2 => ?_
  walk_at "st"
  obtain ⟨k1, hk1, hk2⟩ : ∃ k1 : Nat, (s2.fdiv 2).fmod 25 = (k1 : Int) ∧ k1 < 25 := by
    obtain ⟨b1, b2⟩ := fmod_lt (s2.fdiv 2) (m := 25) (k := 25) (by decide) (by decide)
    exact ⟨_, (Int.toNat_of_nonneg b1).symm, b2⟩
  rw [hk1]
  refine ⟨by decide, by decide, show 2 ≤ 16777216 by decide, new_abs fun p9 H1 x1 f1 e1 => S_cons ?_⟩
  have n98 : p9 ≠ l8 := fun q => by subst q; rw [Fresh, upd_same] at f1; exact nomatch f1.1
  obtain ⟨K1, rfl, y1, T1⟩ := T.grow hz x1
  rw [upd_ne _ n98] at e1
  walk_at "st"
  refine T1.pick hz hth fun K2 r ws T2 y2 hr hl hp => ?_
  have g9 : lk cx (upd K2 l8 (.list vs)) p9 = some (.list (natsV [k0, k1])) := by rw [lk_ne n98]; exact lk_of (y2.le _ _ e1)
  refine W_sub (sq_l g9) (by decide) (show 2 ≤ 16777216 by decide) (v := .int k1) rfl ?_
  refine T2.at_ hr hl hp hk2 fun u hu => ?_
  walk_at "st"
  refine ⟨by omega, ?_⟩
  obtain ⟨b1, b2⟩ := fmod_lt (i + 1) (m := m) (k := m) (by omega) (by omega)
  refine W_setSub (upd_same _ _ _) b1 (by omega) (by omega) (S_nil ?_)
  rw [upd_upd]
  refine end0T (ks := [k0, k1]) hpd hmd hca hbh hsd hint (T2.set hk2 hu _) (by rw [List.length_set]; exact hvs) hm ?_ (y2.le _ _ e1) (show 2 ≤ 1000 by decide) hQ
  intro k
  rw [hls (by omega)]
  exact set_two (by omega) (by omega) (Ne.symm (next_ne hi (him (by omega)) (by omega)))
theorem mid0 {z10 z11 z12 z13 : V} {r9 : Addr} {k0 : Nat} {i : Int} (hz : cx.Z sa = some (intsV ns)) (hat : AtSpec cx n sa ns) (hth : ThingsSpec cx n) (hpd : PutDueSpec cx n) (hmd : MadeDueSpec cx n) (hca : Called0 cx n) (hbh : Behind0 cx n) (hsd : SoundSpec cx n) (hint : IntSp cx n)
    (T : T0 cx rm dx ra sa l8 v f vs (List.replicate m none) K) (hm : m < 10) (hi : 0 ≤ i) (him : 0 < m → i < m) (hk0 : k0 < 25) (h9 : K r9 = some (.list [])) (hQ : ∀ H', Q (.bool true) H') :
    mwpSs cx n (dropS 11 m_law6) [.ref sa, .ref rm, .int 0, .int k0, v, f, .int m, .int i, .ref l8, .ref r9, z10, z11, z12, z13] (upd K l8 (.list vs)) (NQ Q) (RQ Q) := by
  have hvs : vs.length = m := by rw [T.l.1, List.length_replicate]
  refine S_cons ?_
  walk_at "st"
  rw [eqv_int]
  refine ifB_t' (by decide) (ifB_of (fun q1 => S_cons ?_) fun q1 => S_nil ?_)
  · have h0 : 0 < m := by have := decide_eq_true_iff.mp q1; omega
    walk_at "st"
    refine T.pick hz hth fun K2 r ws T2 y2 hr hl hp => T2.at_ hr hl hp hk0 fun u hu => ?_
    walk_at "st"
    have := him h0
    refine W_setSub (upd_same _ _ _) hi (by omega) (by omega) (S_cons ?_)
    rw [upd_upd]
    have T3 := T2.set hk0 hu i.toNat
    walk_at "st"
    refine ⟨show 1 ≤ 16777216 by decide, new_abs fun p9 H1 x1 f1 e1 => ?_⟩
    have n98 : p9 ≠ l8 := fun q => by subst q; rw [Fresh, upd_same] at f1; exact nomatch f1.1
    obtain ⟨K1, rfl, y1, T1⟩ := T3.grow hz x1
    rw [upd_ne _ n98] at e1
    exact S_nil (mid0b (ks := [k0]) hz hat hth hpd hmd hca hbh hsd hint T1 (by rw [List.length_set]; exact hvs) hm hi him (fun k => set_one (by omega)) e1 (show 1 ≤ 1000 by decide) (fun _ => rfl) hQ)
  · have h0 : m = 0 := by have := decide_eq_false_iff_not.mp q1; omega
    subst h0
    exact mid0b (ks := []) hz hat hth hpd hmd hca hbh hsd hint T hvs hm hi him (fun k => by simp) h9 (Nat.zero_le _) (fun q => absurd q (by decide)) hQ
theorem nums_ms {z0 z1 z2 z3 z4 z5 z7 z8 z9 z10 z11 z12 z13 : V} (hm : m < 10) (h : ∀ r K vs, Ext cx H K → Fresh cx K r → All2 (Lab cx K) vs (List.replicate m none) → Q (.ref r) (upd K r (.list vs))) :
    mwpE cx n (.compR (.tup (.cons (.cstr (Str.ofString "number")) (.cons (.loc 14) .nil))) (.cint (0)) (.loc 6) (.cbool true)) [z0, z1, z2, z3, z4, z5, .int m, z7, z8, z9, z10, z11, z12, z13] H Q := by
  walk_at "st"
  refine ⟨⟨by decide, by decide⟩, ⟨by omega, by omega⟩, by rw [rangeL_len]; omega, fun done acc H₁ => Ext cx H H₁ ∧ All2 (Lab cx H₁) acc (List.replicate done.length none), ⟨Ext.refl _ _, All2.nil⟩, fun _ _ _ _ => trivial, ?_, ?_⟩
  · rintro done x rest acc H1 e ⟨x1, a1⟩
    have hx : (intsV (rangeL 0 m))[done.length]? = some x := by rw [e]; simp
    obtain ⟨rfl, hd⟩ := rangeL_get hx
    walk_at "st"
    refine ⟨show 2 ≤ 16777216 by decide, new_abs fun r2 H2 x2 _ e2 => ⟨H2, LE.refl _, x1.trans x2, ?_⟩⟩
    rw [List.length_append, List.length_singleton, List.replicate_succ']
    refine (a1.imp fun _ _ q => q.ext x2).snoc ⟨done.length, by omega, r2, rfl, lk_of ?_⟩
    rw [e2, Int.zero_add]; rfl
  · rintro acc H1 ⟨x1, a1⟩ r hr
    rw [rangeL_len, show ((m : Int) - 0).toNat = m by omega] at a1
    exact h r H1 acc x1 hr a1
end
end Mine
end

section
namespace Mine
open PySem PyProof.Rows
section
variable {cx : Cx} {rm dx ra sa l8 : Addr} {N m : Nat} {B : Bx} {H H' K K' : HP} {n : Nat} {a b r : Addr} {o : O} {Q : V → HP → Prop} {v u w f : V} {vs : List V} {ls : List (Option Nat)} {ks : List Nat} {ns : List Int} {ts : List Th}
structure Lean6 (cx : Cx) (n : Nat) (sa : Addr) (ns : List Int) : Prop where
  pos : 0 < n
  z : cx.Z sa = some (intsV ns)
  at_ : AtSpec cx n sa ns
  int : IntSp cx n
  th : ThingsSpec cx n
  pd : PutDueSpec cx n
  md : MadeDueSpec cx n
  c0 : Called0 cx n
  c1 : Called1 cx n
  c2 : Called2 cx n
  b0 : Behind0 cx n
  b1 : Behind1 cx n
  sd : SoundSpec cx n
  dp : Drawn_placeSpec cx n
  df : Drawn_fieldSpec cx n
  sz : SizesSpec cx n sa ns
  ini : InitSpec cx (n - 1)
  mad : MadeSpec cx n
theorem scr (hz : cx.Z sa = some (intsV ns)) (h : H sa = none) : lk cx H sa = some (.list (intsV ns)) := by
  unfold lk
  rw [h, hz]; rfl
theorem mid_ms {k0 : Nat} {call i : Int} (L : Lean6 cx n sa ns) (R : RoomAt 12 rm dx ra B0 H) (hs : H sa = none) (jv : Jk H v) (jf : Jk H f) (hc : call = 0 ∨ call = 1 ∨ call = 2) (hk0 : k0 < 25) (hm : m < 10) (hi : 0 ≤ i) (him : 0 < m → i < m) (hQ : ∀ H', Q (.bool true) H') :
    mwpSs cx n (dropS 9 m_law6) [.ref sa, .ref rm, .int call, .int k0, v, f, .int m, .int i, .unb, .unb, .unb, .unb, .unb, .unb] H (NQ Q) (RQ Q) := by
  refine S_cons (nums_ms hm fun l8 K vs x fr hl => S_cons ?_)
  have T : T0 cx rm dx ra sa l8 v f vs (List.replicate m none) K := ⟨fr.1, fr.2.2, R.ext x.le, x.z _ _ L.z hs, jv.ext x.le, jf.ext x.le, hl⟩
  clear fr hl x R jv jf hs
  walk_at "st"
  refine ⟨by simp, new_abs fun r9 H1 x1 f1 e1 => ?_⟩
  have n98 : r9 ≠ l8 := fun q => by subst q; rw [Fresh, upd_same] at f1; exact nomatch f1.1
  obtain ⟨K1, rfl, y1, T1⟩ := T.grow L.z x1
  rw [upd_ne _ n98] at e1
  clear T y1 x1 f1
  have x := T1.up (.list vs)
  rcases hc with rfl | rfl | rfl
  · exact mid0 L.z L.at_ L.th L.pd L.md L.c0 L.b0 L.sd L.int T1 hm hi him hk0 e1 hQ
  · refine S_cons ?_
    walk_at "st"
    rw [eqv_int]
    refine ifB_f' (by decide) (S_nil (S_cons ?_))
    walk_at "st"
    rw [eqv_int]
    refine ifB_f' (by decide) (S_nil (S_cons ?_))
    walk_at "st"
    rw [eqv_int]
    refine ifB_t' (by decide) (S_cons ?_)
    walk_at "st"
    refine L.th _ _ fun r ws H2 x2 hr hwl hp => ?_
    have e := List.getElem?_eq_getElem (l := ws) (i := k0) (by omega)
    have hu := hp.get e
    rw [Nat.zero_add] at hu
    refine W_sub (sq_l (lk_of hr)) (by omega) (by omega) (by rw [Int.toNat_natCast]; exact e) ?_
    walk_at "st"
    refine ⟨show 1 ≤ 16777216 by decide, new_abs fun l8' H3 x3 _ e3 => S_nil ?_⟩
    have xx := x.trans (x2.trans x3)
    exact end1_ms L.pd L.c1 L.b1 L.sd (T1.R.ext xx.le) (T1.jv.ext xx.le) (T1.jf.ext xx.le) e3 (hu.ext x3) hk0 hQ
  · refine S_cons ?_
    walk_at "st"
    rw [eqv_int]
    refine ifB_f' (by decide) (S_nil (S_cons ?_))
    walk_at "st"
    rw [eqv_int]
    refine ifB_f' (by decide) (S_nil ?_)
    refine end2_ms L.pd L.c2 L.sd (T1.R.ext x.le) (T1.jv.ext x.le) (T1.jf.ext x.le) (upd_same _ _ _) (by rw [T1.l.1, List.length_replicate]; omega) (fun v hv => ?_) hQ
    obtain ⟨i, hi⟩ := List.mem_iff_getElem?.mp hv
    obtain ⟨o, ho, hL⟩ := T1.l.get hi
    exact (hL.ext x).show
theorem draw_ms (L : Lean6 cx n sa ns) (R : RoomAt 12 rm dx ra B0 H) (hs : H sa = none) (hQ : ∀ H', Q (.bool true) H') :
    mwpSs cx n (dropS 3 m_law6) [.ref sa, .ref rm, .unb, .unb, .unb, .unb, .unb, .unb, .unb, .unb, .unb, .unb, .unb, .unb] H (NQ Q) (RQ Q) := by
  refine S_cons ?_
  walk_at "st"
  refine ⟨by simp, new_abs fun r1 H1 x1 _ e1 => ?_⟩
  replace R := R.ext x1.le
  replace hs := x1.z _ _ L.z hs
  walk_at "st"
  refine L.at_ _ _ _ (scr L.z hs) (by decide) fun s1 => ?_
  walk_at "st"
  obtain ⟨b1, b2⟩ := fmod_lt s1 (m := 5) (k := 5) (by decide) (by decide)
  refine ⟨by decide, W_subA (P := fun v => ∃ c : Int, v = .int c ∧ (c = 0 ∨ c = 1 ∨ c = 2)) (sq_l (lk_of e1)) (by simp) b1 b2 (fa_cons ⟨_, rfl, .inl rfl⟩ (fa_cons ⟨_, rfl, .inl rfl⟩ (fa_cons ⟨_, rfl, .inr (.inl rfl)⟩ (fa_cons ⟨_, rfl, .inr (.inl rfl)⟩ (fa_cons ⟨_, rfl, .inr (.inr rfl)⟩ fa_nil))))) ?_⟩
  rintro _ ⟨call, rfl, hc⟩
  clear b1 b2 e1 x1
  refine S_cons ?_
  walk_at "st"
  refine L.at_ _ _ _ (scr L.z hs) (by decide) fun s2 => ?_
  walk_at "st"
  obtain ⟨k0, hk1, hk2⟩ : ∃ k1 : Nat, s2.fmod 25 = (k1 : Int) ∧ k1 < 25 := by
    obtain ⟨b1, b2⟩ := fmod_lt s2 (m := 25) (k := 25) (by decide) (by decide)
    exact ⟨_, (Int.toNat_of_nonneg b1).symm, b2⟩
  rw [hk1]
  refine ⟨by decide, S_cons ?_⟩
  walk_at "st"
  refine L.at_ _ _ _ (scr L.z hs) (by decide) fun s3 => ?_
  walk_at "st"
  refine L.dp _ _ _ fun v H2 x2 jv => S_cons ?_
  replace R := R.ext x2.le
  replace hs := x2.z _ _ L.z hs
  walk_at "st"
  refine L.at_ _ _ _ (scr L.z hs) (by decide) fun s4 => ?_
  walk_at "st"
  refine L.df _ _ _ fun f H3 x3 jf => S_cons ?_
  replace R := R.ext x3.le
  replace hs := x3.z _ _ L.z hs
  replace jv := jv.ext x3.le
  walk_at "st"
  refine L.at_ _ _ _ (scr L.z hs) (by decide) fun s5 => ?_
  walk_at "st"
  obtain ⟨m, hm1, hm2⟩ : ∃ m : Nat, s5.fmod 10 = (m : Int) ∧ m < 10 := by
    obtain ⟨b1, b2⟩ := fmod_lt s5 (m := 10) (k := 10) (by decide) (by decide)
    exact ⟨_, (Int.toNat_of_nonneg b1).symm, b2⟩
  rw [hm1]
  refine ⟨by decide, S_cons ?_⟩
  walk_at "st"
  refine L.at_ _ _ _ (scr L.z hs) (by decide) fun s6 => ?_
  walk_at "st"
  have hp : 0 < (if (1 : Int) < (m : Int) then (m : Int) else 1) := by split <;> omega
  obtain ⟨b1, b2⟩ := fmod_pos_bounds s6 hp
  refine ⟨by omega, mid_ms L R hs jv jf hc hk2 hm2 b1 (fun q => ?_) hQ⟩
  by_cases z : (1 : Int) < (m : Int)
  · rw [if_pos z] at b2; rw [if_pos z]; exact b2
  · rw [if_neg z] at b2; rw [if_neg z]; omega
theorem b1_in {t t' : Th} (h : OkT [List.replicate 2 (false, 0)] t) (e : plt [List.replicate 2 (false, 0)] t = t') (h' : t' = (false, 5) ∨ t' = (true, 0)) : t = t' := by
  unfold plt at e
  obtain ⟨p, q⟩ := t
  cases p with
  | false => exact e
  | true =>
    obtain ⟨j, h1, h2⟩ := h rfl
    have h1 : q = (j : Int) := h1
    have : j = 0 := by simp at h2; exact h2
    subst this
    subst h1
    rw [if_pos rfl] at e
    exact e
theorem law_ms (L : Lean6 cx n sa ns) (hs : H sa = none) (hQ : ∀ H', Q (.bool true) H') :
    mwpSs cx n m_law6 [.ref sa, .unb, .unb, .unb, .unb, .unb, .unb, .unb, .unb, .unb, .unb, .unb, .unb, .unb] H (NQ Q) (RQ Q) := by
  refine S_cons ?_
  walk_at "st"
  refine L.sz _ _ (scr L.z hs) fun H1 x1 => ?_
  replace hs := x1.z _ _ L.z hs
  clear x1
  walk_at "st"
  refine S_nil (S_cons ?_)
  walk_at "st"
  refine ⟨L.pos, fun dx hdx rm hrm => ?_⟩
  have e1 := Ext.new hdx (.flds [])
  have e2 := e1.new' hrm (.inst 249 dx)
  have ndx : dx ≠ rm := hrm.ne' (upd_same _ _ _)
  refine L.ini rm dx _ _ _ _ (upd_same _ _ _) (by rw [upd_ne _ ndx]; exact upd_same _ _ _) trivial trivial (fun q => absurd ⟨12, 2, rfl, rfl, by decide, by decide, by decide⟩ q) fun N d ew ed hd hN hN4 ra H2 R hra hb hz => ⟨rfl, ?_⟩
  replace hs := hz _ _ L.z (e2.z _ _ L.z hs)
  clear hb hz e1 e2 hra hdx hrm ndx
  obtain rfl : N = 12 := by have := V.int.inj ew; omega
  obtain rfl : d = 2 := by have := V.int.inj ed; omega
  clear ew ed hd hN hN4
  refine S_cons ?_
  walk_at "st"
  refine ⟨R.no fun _ _ => rfl, show 2 ≤ 16777216 by decide, new_abs fun t1 H3 x3 _ g1 => ?_⟩
  walk_at "st"
  refine ⟨show 2 ≤ 16777216 by decide, new_abs fun t2 H4 x4 _ g2 => ?_⟩
  walk_at "st"
  refine ⟨show 2 ≤ 16777216 by decide, new_abs fun la H5 x5 _ g3 => ?_⟩
  have xx := x3.trans (x4.trans x5)
  have hT : All2 (ThAt cx H5) [.ref t1, .ref t2] [(false, 5), (true, 0)] := (All2.nil.snoc ⟨t1, rfl, lk_of (x5.le _ _ (x4.le _ _ g1))⟩).snoc ⟨t2, rfl, lk_of (x5.le _ _ g2)⟩
  replace hs := xx.z _ _ L.z hs
  refine L.mad 12 rm dx ra la _ _ H5 _ (R.ext xx.le) (lk_of g3) (show 2 ≤ 1000 by decide) (fun v hv => ?_) (fun ⟨v, hv, hb⟩ => ?_) (fun ts h1 h2 => ?_) (fun ts h1 h2 h3 => ?_) fun ts h1 h2 h3 ra' H6 R6 hra hb hz => ?_
  · obtain ⟨i, hi⟩ := List.mem_iff_getElem?.mp hv
    obtain ⟨t, _, h⟩ := hT.get hi
    exact .inl ⟨t, h⟩
  · obtain ⟨i, hi⟩ := List.mem_iff_getElem?.mp hv
    obtain ⟨t, _, h⟩ := hT.get hi
    exact hb.notTh h
  · rw [all_inj h1 hT] at h2
    obtain ⟨t, q1, q2, q3⟩ := h2
    simp only [List.mem_cons, List.not_mem_nil, or_false] at q1
    rcases q1 with rfl | rfl
    · cases q2
    · exact absurd (by decide) q3
  · have := h1.1
    rw [List.length_map] at this
    change 2 = ts.length at this
    rw [← this] at h3
    exact absurd h3 (by decide)
  · have := all_inj h1 hT
    match ts, h2, this with
    | [ta, tb], h2, this =>
      simp only [List.map_cons, List.map_nil, List.cons.injEq, and_true] at this
      obtain rfl := b1_in (h2 ta (by simp)) this.1 (.inl rfl)
      obtain rfl := b1_in (h2 tb (by simp)) this.2 (.inr rfl)
      exact draw_ms L R6 (hz _ _ L.z hs) hQ
    | [], _, this => cases this
    | [_], _, this => simp at this
    | _ :: _ :: _ :: _, _, this => simp at this
end
end Mine
end

section
open PySem PySem.W PyProof.Rows
namespace Mine

noncomputable def fdAt (K : Frag) (f : Addr) : FuncData := match K.lookup f with
  | some ⟨_, _, .func fd, _⟩ => fd
  | _ => default
noncomputable def bodyOf (fd : FuncData) : List Stmt := match fd.body with
  | .stmts b => b
  | _ => []
noncomputable def codeOk (K : Frag) (fd : FuncData) : Bool := match fd.code with
  | .ref c => match K.lookup c with
    | some ⟨_, _, .fields vs, _⟩ => match (vs[1]? : Option Value) with
      | some (.str q _) => q == fd.qualname
      | _ => false
    | _ => false
  | _ => false
noncomputable def isStmts (fd : FuncData) : Bool := match fd.body with
  | .stmts _ => true
  | _ => false
noncomputable def isFunc (K : Frag) (f : Addr) : Bool := match K.lookup f with
  | some ⟨_, _, .func _, _⟩ => true
  | _ => false
noncomputable def defOk (K : Frag) (f : Addr) : Bool := isFunc K f && Nat.beq (fdAt K f).globals mainGlobals && Nat.beq (fdAt K f).builtins builtinsNs && (fdAt K f).closure.isEmpty && codeOk K (fdAt K f) && isStmts (fdAt K f) &&
  decide ((fdAt K f).scope.kind = .function) && !(fdAt K f).scope.isCoroutine && !(fdAt K f).scope.isGenerator

theorem def_of {cx : Cx} {K : Frag} (X : K.In cx.base) {f : Addr} (h : defOk K f = true) (ps : List Str) (hb : ∀ vs : List Value, vs.length = ps.length → bindArgs (fdAt K f) ⟨vs, []⟩ = pure (ps.zip vs)) :
    Def cx f ps (bodyOf (fdAt K f)) (fdAt K f).scope := by
  simp only [defOk, Bool.and_eq_true, Bool.not_eq_true', decide_eq_true_eq] at h
  obtain ⟨⟨⟨⟨⟨⟨⟨⟨h1, h2⟩, h3⟩, h4⟩, h5⟩, h6⟩, h7⟩, h8⟩, h9⟩ := h
  refine ⟨?_, h7, h8, h9⟩
  unfold isFunc at h1
  split at h1
  · rename_i c d fd sl e
    have efd : fdAt K f = fd := by unfold fdAt; rw [e]
    rw [efd] at h2 h3 h4 h5 h6 hb ⊢
    refine ⟨_, fd, X _ _ e, rfl, ?_, rfl, Nat.eq_of_beq_eq_true h2, Nat.eq_of_beq_eq_true h3, by simpa using h4, ?_, hb⟩
    · unfold isStmts at h6
      unfold bodyOf
      split at h6
      · rename_i q; rw [q]
      · cases h6
    · unfold codeOk at h5
      split at h5
      · rename_i cc ec
        split at h5
        · rename_i e2
          split at h5
          · rename_i q t e3
            rw [ec]
            exact ⟨cc, _, _, t, rfl, X _ _ e2, rfl, by rw [e3, eq_of_beq h5]⟩
          · cases h5
        · cases h5
      · cases h5
  · cases h1

noncomputable def GT := List (Str × Value)
noncomputable def GT.all (h : Heap) : List (Str × Value) → Prop
  | [] => True
  | (x, v) :: r => GlobAt h x v ∧ GT.all h r
theorem GT.at {h : Heap} : ∀ {l : List (Str × Value)}, GT.all h l → ∀ x v, l.lookup x = some v → GlobAt h x v
  | (y, w) :: r, a, x, v, e => by
    rw [List.lookup_cons] at e
    cases hb : x == y with
    | true => rw [hb] at e; cases e; rw [eq_of_beq hb]; exact a.1
    | false => rw [hb] at e; exact GT.at a.2 x v e

theorem glob_K {p : Program} {loose : List Str} {mean : ExcName → Option Value} {mg mb : Str → Option Value} {h : Heap} (T : Top p loose mean mg mb h) {K : Frag} (X : K.In h) {x : Str} {v : Value} (e : nsIn K mainGlobals x = some (some v)) : GlobAt h x v :=
  .inl ⟨mg, T.g, mg_of X T.g e⟩
theorem glob_B {p : Program} {loose : List Str} {mean : ExcName → Option Value} {mg mb : Str → Option Value} {h : Heap} (T : Top p loose mean mg mb h) {K : Frag} (X : K.In h) {x : Str} {v : Value} (e : nsIn K mainGlobals x = some none) (hv : bootBuiltins x = some v) (hn : x ≠ "__name__") : GlobAt h x v :=
  .inr ⟨mg, mb, T.g, mg_none_of X T.g e, T.b, (T.builtins x hn).trans hv⟩

theorem ints_of : ∀ {vs : List Value} {ns : List Int}, IntsAre vs ns → vs.map abs = intsV ns
  | _, _, .nil => rfl
  | _, _, .cons n t r => by simp only [List.map_cons, intsV, abs]; rw [ints_of r]; rfl

theorem law_good {l : OpenLaw} {cl : Str → Option Addr} {mean : ExcName → Option Value} {args : List WData} {s₁ s' : Shared} (hk : ∀ b o, s₁.heap.get? b = some o → s'.heap.get? b = some o) (hos : s'.os = s₁.os) (hg : s'.gens = #[]) :
    GoodWG l.row.claim cl mean args s₁ (.ok (.ret (.bool true))) s' :=
  GoodW.toG ⟨.inl ⟨.bool true, .bool true, [], rfl, raisesW_false (fun _ h => nomatch h), .bool true, postW_of (X := (true == true)) rfl (w_eq_bool (w_res rfl) w_lit) rfl, fun _ => ⟨.nil, fun _ h => nomatch h⟩⟩, hk, hos, hg⟩

theorem law_end {l : OpenLaw} {cl : Str → Option Addr} {mean : ExcName → Option Value} {args : List WData} {cx : Cx} {s₁ : Shared} (hb : cx.base = s₁.heap) (hg : s₁.gens = #[]) {f sa : Addr} {n : Nat} (hn : n ≤ 100)
    (h : CallP cx n f [.ref sa] (fun _ => none) fun v _ => v = .bool true) : codeAny (model cx.prog cx.w) callerA (.call (.ref f) ⟨[.ref sa], []⟩) (GoodWG l.row.claim cl mean args s₁) s₁ := by
  refine codeAny_mono (h callerA s₁ [.ref sa] ⟨by show 1 + claimMargin + n < 850; unfold claimMargin; omega, by show 4 + 16 * n < 9000; omega, ⟨[], rfl⟩, rfl⟩ (fun _ => rfl) ⟨fun _ _ e => (nomatch e), fun b o e => by rw [hb] at e; exact e, fun _ _ e => (nomatch e)⟩ (fun l e => by cases e; exact fun e he => nomatch he) rfl) fun r s' hr => ?_
  rcases hr with ⟨v, H', rfl, S, k, hv⟩ | ⟨_, _, _, _, _, _, _, _, _, hv⟩
  · have hv' : Mine.abs v = .bool true := by
      generalize Mine.abs v = u at hv
      cases u <;> first | exact hv | exact hv.elim
    have := abs_bool hv'; subst this
    exact law_good (fun b o e => S.ext b o (by rw [hb]; exact e)) k.os (k.gens.trans hg)
  · exact hv.elim
end Mine
end

section
open PySem PySem.W PyProof.Rows
namespace Mine
noncomputable def bt : List (Str × Value) := [("len", .builtin "len"), ("list", .type "list"), ("int", .type "int"), ("tuple", .type "tuple"), ("bool", .type "bool"), ("isinstance", .builtin "isinstance"), ("range", .type "range"), ("abs", .builtin "abs"), ("max", .builtin "max"), ("repr", .builtin "repr"), ("ValueError", .type "ValueError")]
noncomputable def stdB : List (Str × BF) := [("len", .len), ("list", .list), ("int", .int), ("abs", .abs), ("max", .max), ("repr", .repr)]
noncomputable def stdT : List (Str × String) := [("int", "int"), ("list", "list"), ("tuple", "tuple"), ("bool", "bool"), ("ValueError", "ValueError")]
theorem script_obj {P : Params} {h : Heap} {sa : Addr} {vs : List Value} {ns : List Int} (hW : Well P h (.ref sa) (ofPy (PyData.list (ns.map PyData.int)))) (hL : h.IsList sa vs.toArray) (hI : IntsAre vs ns) : Rep h sa (.list (intsV ns)) := by
  generalize hd : ofPy (PyData.list (ns.map PyData.int)) = d at hW
  obtain ⟨o, ho, hc, k, hk⟩ := hL
  cases hW with
  | list e _ =>
    rw [ho] at e
    cases e
    simp only at hk
    cases hk
    exact ⟨_, _, ho, by simpa using ints_of hI⟩
  | _ => first | (rename_i e _; rw [ho] at e; cases e; simp at hc; done) | (rename_i e; rw [ho] at e; cases e; simp at hc; done) | (simp [ofPy] at hd)

theorem lookup_app {x : Str} {f : Addr} : ∀ {fns : List (Str × Addr)} {r : List (Str × Value)}, fns.lookup x = some f → (fns.map (fun p => (p.1, Value.ref p.2)) ++ r).lookup x = some (.ref f)
  | (y, g) :: l, r, e => by
    rw [List.lookup_cons] at e
    rw [List.map_cons, List.cons_append, List.lookup_cons]
    cases hb : x == y with
    | true => rw [hb] at e; cases e; rfl
    | false => rw [hb] at e; exact lookup_app e

noncomputable def isIntV (i : Int) : Option Value → Bool
  | some (.int j _) => j == i
  | _ => false
theorem tbl_ok {cx : Cx} {K : Frag} (X : K.In cx.base) {fns : List (Str × Addr)} {r : List (Str × Value)} {bs : List (Str × BF)} {ts : List (Str × String)} {ats : List (Addr × Str)} {mts : List (Addr × Str × Addr)} {mks : List (Str × Addr × Addr)} {gis : List (Str × Int)} {exs sups : List (Str × Addr)} (hg : cx.gl = fun x => (fns.map (fun p => (p.1, Value.ref p.2)) ++ r).lookup x)
    (h1 : (fns.all fun p => isFunc K p.2) = true) (h2 : (bs.all fun p => decide ((fns.map (fun p => (p.1, Value.ref p.2)) ++ r).lookup p.1 = some p.2.val)) = true)
    (h3 : (ts.all fun p => decide ((fns.map (fun p => (p.1, Value.ref p.2)) ++ r).lookup p.1 = some (.type p.2))) = true)
    (h4 : (fns.map (fun p => (p.1, Value.ref p.2)) ++ r).lookup ("isinstance" : Str) = some (.builtin "isinstance")) (h5 : (fns.map (fun p => (p.1, Value.ref p.2)) ++ r).lookup ("range" : Str) = some (.type "range"))
    (h6 : (ats.all fun p => attrIn K p.1 p.2) = true) (h7 : (mts.all fun p => methIn K p.1 p.2.1 p.2.2) = true)
    (h8 : (mks.all fun p => decide ((fns.map (fun p => (p.1, Value.ref p.2)) ++ r).lookup p.1 = some (.ref p.2.1)) && mkIn K p.2.1 p.2.2) = true)
    (h9 : (gis.all fun p => isIntV p.2 ((fns.map (fun p => (p.1, Value.ref p.2)) ++ r).lookup p.1)) = true)
    (h10 : (exs.all fun p => decide ((fns.map (fun p => (p.1, Value.ref p.2)) ++ r).lookup p.1 = some (.ref p.2))) = true) (h11 : ∀ p ∈ exs, ExcCls p.2 cx.base) (h12 : (exs.all fun p => cx.exs.contains p.2) = true)
    (h13 : (sups.all fun p => decide ((fns.map (fun p => (p.1, Value.ref p.2)) ++ r).lookup p.1 = some (.ref p.2))) = true)
    (h14 : (cx.exs.all fun C => excIn K C && (mroIn K C (.type "ValueError") == some true && ((cx.exs.all fun D => mroIn K C (.ref D) == some (C == D)) && sups.all fun p => mroIn K C (.ref p.2) == some true && excIn K p.2))) = true) : Tbl.OK cx ⟨fns, bs, ts, K, ats, mts, mks, gis, exs, sups, false⟩ := by
  refine ⟨fun x f e => ⟨by rw [hg]; exact lookup_app e, ?_⟩, fun x b e => ?_, fun x b e => ?_, by rw [hg]; exact h4, by rw [hg]; exact h5, X, fun C x e => ?_, fun C x f e => ?_, fun x C f e => ?_, fun x i e => ?_, fun x C e => ⟨?_, h11 _ (lookup_mem e), List.contains_iff_mem.mp (List.all_eq_true.mp h12 _ (lookup_mem e))⟩, fun x C e => ?_, fun C hC => ?_⟩
  · have := List.all_eq_true.mp h1 _ (lookup_mem e)
    unfold isFunc at this
    split at this
    · rename_i c d fd sl q
      exact ⟨_, fd, X _ _ q, rfl⟩
    · cases this
  · rw [hg]; exact of_decide_eq_true (List.all_eq_true.mp h2 _ (lookup_mem e))
  · rw [hg]; exact of_decide_eq_true (List.all_eq_true.mp h3 _ (lookup_mem e))
  · exact List.all_eq_true.mp h6 _ (List.contains_iff_mem.mp e)
  · exact List.all_eq_true.mp h7 _ (List.contains_iff_mem.mp e)
  · obtain ⟨a, b⟩ := band (List.all_eq_true.mp h8 _ (List.contains_iff_mem.mp e))
    exact ⟨by rw [hg]; exact of_decide_eq_true a, b⟩
  · have := List.all_eq_true.mp h9 _ (lookup_mem e)
    rw [hg]
    unfold isIntV at this
    split at this
    · rename_i j t q
      exact ⟨t, q.trans (by rw [show j = i from beq_iff_eq.mp this])⟩
    · cases this
  · rw [hg]; exact of_decide_eq_true (List.all_eq_true.mp h10 _ (lookup_mem e))
  · rw [hg]; exact of_decide_eq_true (List.all_eq_true.mp h13 _ (lookup_mem e))
  · obtain ⟨a, b⟩ := band (List.all_eq_true.mp h14 _ hC)
    obtain ⟨b, c⟩ := band b
    obtain ⟨c, d⟩ := band c
    refine ⟨a, eq_of_beq b, fun D hD => eq_of_beq (List.all_eq_true.mp c _ hD), fun x D e => ?_⟩
    obtain ⟨d1, d2⟩ := band (List.all_eq_true.mp d _ (lookup_mem e))
    exact ⟨eq_of_beq d1, d2⟩
theorem excls {p : Program} {loose : List Str} {mean : ExcName → Option Value} {mg mb : Str → Option Value} {h : Heap} (T : Top p loose mean mg mb h) {K : Frag} (X : K.In h) {x : Str} {C : Addr} (e : nsIn K mainGlobals x = some (some (.ref C))) (hs : specOf p x = some ("ValueError.__new__", bmV)) : ExcCls C h := by
  obtain ⟨D, O, _⟩ := T.ownAt hs
  have := (mg_of X T.g e).symm.trans O.bound
  cases this
  exact ⟨rfl, O.obj⟩

theorem len_succ {α : Type} {l : List α} {n : Nat} (h : l.length = n + 1) : ∃ a r, l = a :: r ∧ r.length = n := by
  cases l with
  | nil => cases h
  | cons a r => exact ⟨a, r, rfl, Nat.succ.inj h⟩
theorem arity1 {fd : FuncData} {p : Str} (h : ∀ a, bindArgs fd ⟨[a], []⟩ = pure [(p, a)]) (vs : List Value) (hl : vs.length = [p].length) : bindArgs fd ⟨vs, []⟩ = pure ([p].zip vs) := by
  obtain ⟨a, r, rfl, h1⟩ := len_succ hl; have := List.eq_nil_of_length_eq_zero h1; subst this; exact h a
theorem arity2 {fd : FuncData} {p q : Str} (h : ∀ a b, bindArgs fd ⟨[a, b], []⟩ = pure [(p, a), (q, b)]) (vs : List Value) (hl : vs.length = [p, q].length) : bindArgs fd ⟨vs, []⟩ = pure ([p, q].zip vs) := by
  obtain ⟨a, r, rfl, h1⟩ := len_succ hl; obtain ⟨b, r, rfl, h2⟩ := len_succ h1; have := List.eq_nil_of_length_eq_zero h2; subst this; exact h a b
theorem arity3 {fd : FuncData} {p q r : Str} (h : ∀ a b c, bindArgs fd ⟨[a, b, c], []⟩ = pure [(p, a), (q, b), (r, c)]) (vs : List Value) (hl : vs.length = [p, q, r].length) : bindArgs fd ⟨vs, []⟩ = pure ([p, q, r].zip vs) := by
  obtain ⟨a, r', rfl, h1⟩ := len_succ hl; obtain ⟨b, r', rfl, h2⟩ := len_succ h1; obtain ⟨c, r', rfl, h3⟩ := len_succ h2; have := List.eq_nil_of_length_eq_zero h3; subst this; exact h a b c
theorem cx_ok {pr : Program} {w : World} {s₁ : Shared} {p : Program} {loose : List Str} {mean : ExcName → Option Value} {mg mb : Str → Option Value} (T : Top p loose mean mg mb s₁.heap) (hseer : s₁.heap.NoSeer) {gl : List (Str × Value)} (hg : GT.all s₁.heap gl)
    {sa : Addr} {vs : List Value} {ns : List Int} (hW : Well w.params s₁.heap (.ref sa) (ofPy (PyData.list (ns.map PyData.int)))) (hL : s₁.heap.IsList sa vs.toArray) (hI : IntsAre vs ns) (ht : pr.given.tree = none) (xs : List Addr) :
    Cx.OK ⟨pr, w, s₁.heap, fun a => if a = sa then some (intsV ns) else none, fun x => gl.lookup x, xs⟩ := ⟨T.nolimit, hseer, ht, GT.at hg, fun a vs' e => by
    show Rep s₁.heap a (.list vs')
    have e' : (if a = sa then some (intsV ns) else none) = some vs' := e
    split at e'
    · rename_i h; subst h; cases e'; exact script_obj hW hL hI
    · cases e'⟩
end Mine
end

section
open PySem PySem.W PyProof.Rows
namespace Mine
theorem arity4 {fd : FuncData} {p q r t : Str} (h : ∀ a b c d, bindArgs fd ⟨[a, b, c, d], []⟩ = pure [(p, a), (q, b), (r, c), (t, d)]) (vs : List Value) (hl : vs.length = [p, q, r, t].length) : bindArgs fd ⟨vs, []⟩ = pure ([p, q, r, t].zip vs) := by
  obtain ⟨a, r', rfl, h1⟩ := len_succ hl; obtain ⟨b, r', rfl, h2⟩ := len_succ h1; obtain ⟨c, r', rfl, h3⟩ := len_succ h2; obtain ⟨d, r', rfl, h4⟩ := len_succ h3; have := List.eq_nil_of_length_eq_zero h4; subst this; exact h a b c d
theorem arity0 {fd : FuncData} (h : bindArgs fd ⟨[], []⟩ = pure []) (vs : List Value) (hl : vs.length = ([] : List Str).length) : bindArgs fd ⟨vs, []⟩ = pure (([] : List Str).zip vs) := by
  have := List.eq_nil_of_length_eq_zero hl; subst this; exact h
theorem arity5 {fd : FuncData} {p q r t u : Str} (h : ∀ a b c d e, bindArgs fd ⟨[a, b, c, d, e], []⟩ = pure [(p, a), (q, b), (r, c), (t, d), (u, e)]) (vs : List Value) (hl : vs.length = [p, q, r, t, u].length) : bindArgs fd ⟨vs, []⟩ = pure ([p, q, r, t, u].zip vs) := by
  obtain ⟨a, r', rfl, h1⟩ := len_succ hl; obtain ⟨b, r', rfl, h2⟩ := len_succ h1; obtain ⟨c, r', rfl, h3⟩ := len_succ h2; obtain ⟨d, r', rfl, h4⟩ := len_succ h3; obtain ⟨e, r', rfl, h5⟩ := len_succ h4; have := List.eq_nil_of_length_eq_zero h5; subst this; exact h a b c d e
end Mine
end

open PySem PySem.W PyProof.Rows
set_option maxRecDepth 100000
set_option maxHeartbeats 8000000
namespace Mine
theorem Jk.nx {H H' : HP} {v : V} {Q : V → HP → Prop} (h : Jk H v) (q : Q v H') : Mine.nx Q v H' := by
  cases h <;> exact q
noncomputable def clsI (i : Nat) : List Stmt := match PySem.Challenge.pw_uf060004_06.main.body[i]? with
  | some (.ClassDef _ _ _ b _ _ _ _ _ _ _) => b
  | _ => []
noncomputable def clsB : List Stmt := clsI 23
noncomputable def dP (i : Nat) : PySem.Arguments := match PySem.Challenge.pw_uf060004_06.main.body[i]? with
  | some (.FunctionDef _ x _ _ _ _ _ _ _ _) => x
  | _ => default
noncomputable def dPm (i : Nat) : PySem.Arguments := match clsB[i]? with
  | some (.FunctionDef _ x _ _ _ _ _ _ _ _) => x
  | _ => default
noncomputable def dB (i : Nat) : List Stmt := match PySem.Challenge.pw_uf060004_06.main.body[i]? with
  | some (.FunctionDef _ _ x _ _ _ _ _ _ _) => x
  | _ => []
noncomputable def dBm (i : Nat) : List Stmt := match clsB[i]? with
  | some (.FunctionDef _ _ x _ _ _ _ _ _ _) => x
  | _ => []
noncomputable def dS (i : Nat) : Scope := match PySem.Challenge.pw_uf060004_06.main.body[i]? with
  | some (.FunctionDef _ _ _ _ _ _ x _ _ _) => x
  | _ => default
noncomputable def dSm (i : Nat) : Scope := match clsB[i]? with
  | some (.FunctionDef _ _ _ _ _ _ x _ _ _) => x
  | _ => default
noncomputable def kk (P : PySem.Params) : Frag := [(3, { cls := PySem.Value.type "dict", data := PySem.Data.dict #[{ hash := PySem.PyData.keyHash P (PySem.Str.ofString "__name__"), key := PySem.Value.str (PySem.Str.ofString "__name__") 165, val := PySem.Value.str (PySem.Str.ofString "law_uf060004_06") 489 }, { hash := PySem.PyData.keyHash P (PySem.Str.ofString "__doc__"), key := PySem.Value.str (PySem.Str.ofString "__doc__") 166, val := PySem.Value.none }, { hash := PySem.PyData.keyHash P (PySem.Str.ofString "__package__"), key := PySem.Value.str (PySem.Str.ofString "__package__") 167, val := PySem.Value.none }, { hash := PySem.PyData.keyHash P (PySem.Str.ofString "__loader__"), key := PySem.Value.str (PySem.Str.ofString "__loader__") 168, val := PySem.Value.builtin "__main__.__loader__#opaque" }, { hash := PySem.PyData.keyHash P (PySem.Str.ofString "__spec__"), key := PySem.Value.str (PySem.Str.ofString "__spec__") 169, val := PySem.Value.none }, { hash := PySem.PyData.keyHash P (PySem.Str.ofString "__annotations__"), key := PySem.Value.str (PySem.Str.ofString "__annotations__") 170, val := PySem.Value.ref 6 }, { hash := PySem.PyData.keyHash P (PySem.Str.ofString "__builtins__"), key := PySem.Value.str (PySem.Str.ofString "__builtins__") 171, val := PySem.Value.ref 4 }, { hash := PySem.PyData.keyHash P (PySem.Str.ofString "__file__"), key := PySem.Value.str (PySem.Str.ofString "__file__") 173, val := PySem.Value.str (PySem.Str.ofString "/claim/cut.py") 172 }, { hash := PySem.PyData.keyHash P (PySem.Str.ofString "__cached__"), key := PySem.Value.str (PySem.Str.ofString "__cached__") 174, val := PySem.Value.none }, { hash := PySem.PyData.keyHash P (PySem.Str.ofString "_wall"), key := PySem.Value.str (PySem.Str.ofString "_wall") 193, val := PySem.Value.ref 21 }, { hash := PySem.PyData.keyHash P (PySem.Str.ofString "SlideError"), key := PySem.Value.str (PySem.Str.ofString "SlideError") 213, val := PySem.Value.ref 31 }, { hash := PySem.PyData.keyHash P (PySem.Str.ofString "BadSize"), key := PySem.Value.str (PySem.Str.ofString "BadSize") 229, val := PySem.Value.ref 44 }, { hash := PySem.PyData.keyHash P (PySem.Str.ofString "BadThing"), key := PySem.Value.str (PySem.Str.ofString "BadThing") 245, val := PySem.Value.ref 56 }, { hash := PySem.PyData.keyHash P (PySem.Str.ofString "NoBox"), key := PySem.Value.str (PySem.Str.ofString "NoBox") 261, val := PySem.Value.ref 68 }, { hash := PySem.PyData.keyHash P (PySem.Str.ofString "NoField"), key := PySem.Value.str (PySem.Str.ofString "NoField") 277, val := PySem.Value.ref 80 }, { hash := PySem.PyData.keyHash P (PySem.Str.ofString "NoRoom"), key := PySem.Value.str (PySem.Str.ofString "NoRoom") 293, val := PySem.Value.ref 92 }, { hash := PySem.PyData.keyHash P (PySem.Str.ofString "number_word"), key := PySem.Value.str (PySem.Str.ofString "number_word") 302, val := PySem.Value.ref 101 }, { hash := PySem.PyData.keyHash P (PySem.Str.ofString "link_word"), key := PySem.Value.str (PySem.Str.ofString "link_word") 309, val := PySem.Value.ref 108 }, { hash := PySem.PyData.keyHash P (PySem.Str.ofString "head_word"), key := PySem.Value.str (PySem.Str.ofString "head_word") 317, val := PySem.Value.ref 115 }, { hash := PySem.PyData.keyHash P (PySem.Str.ofString "is_link"), key := PySem.Value.str (PySem.Str.ofString "is_link") 324, val := PySem.Value.ref 122 }, { hash := PySem.PyData.keyHash P (PySem.Str.ofString "told_by"), key := PySem.Value.str (PySem.Str.ofString "told_by") 331, val := PySem.Value.ref 129 }, { hash := PySem.PyData.keyHash P (PySem.Str.ofString "fields_of"), key := PySem.Value.str (PySem.Str.ofString "fields_of") 338, val := PySem.Value.ref 136 }, { hash := PySem.PyData.keyHash P (PySem.Str.ofString "heads"), key := PySem.Value.str (PySem.Str.ofString "heads") 350, val := PySem.Value.ref 143 }, { hash := PySem.PyData.keyHash P (PySem.Str.ofString "MOST_CELLS"), key := PySem.Value.str (PySem.Str.ofString "MOST_CELLS") 354, val := PySem.Value.int 400 353 }, { hash := PySem.PyData.keyHash P (PySem.Str.ofString "MOST_DOORS"), key := PySem.Value.str (PySem.Str.ofString "MOST_DOORS") 356, val := PySem.Value.int 20 355 }, { hash := PySem.PyData.keyHash P (PySem.Str.ofString "is_whole"), key := PySem.Value.str (PySem.Str.ofString "is_whole") 363, val := PySem.Value.ref 150 }, { hash := PySem.PyData.keyHash P (PySem.Str.ofString "need_things"), key := PySem.Value.str (PySem.Str.ofString "need_things") 371, val := PySem.Value.ref 157 }, { hash := PySem.PyData.keyHash P (PySem.Str.ofString "word_of"), key := PySem.Value.str (PySem.Str.ofString "word_of") 378, val := PySem.Value.ref 164 }, { hash := PySem.PyData.keyHash P (PySem.Str.ofString "Room"), key := PySem.Value.str (PySem.Str.ofString "Room") 488, val := PySem.Value.ref 249 }, { hash := PySem.PyData.keyHash P (PySem.Str.ofString "_law_at"), key := PySem.Value.str (PySem.Str.ofString "_law_at") 498, val := PySem.Value.ref 260 }, { hash := PySem.PyData.keyHash P (PySem.Str.ofString "_law_is_int"), key := PySem.Value.str (PySem.Str.ofString "_law_is_int") 505, val := PySem.Value.ref 267 }, { hash := PySem.PyData.keyHash P (PySem.Str.ofString "_law_words_are"), key := PySem.Value.str (PySem.Str.ofString "_law_words_are") 511, val := PySem.Value.ref 272 }, { hash := PySem.PyData.keyHash P (PySem.Str.ofString "_law_class"), key := PySem.Value.str (PySem.Str.ofString "_law_class") 520, val := PySem.Value.ref 279 }, { hash := PySem.PyData.keyHash P (PySem.Str.ofString "_law_number"), key := PySem.Value.str (PySem.Str.ofString "_law_number") 527, val := PySem.Value.ref 286 }, { hash := PySem.PyData.keyHash P (PySem.Str.ofString "_law_sized"), key := PySem.Value.str (PySem.Str.ofString "_law_sized") 535, val := PySem.Value.ref 293 }, { hash := PySem.PyData.keyHash P (PySem.Str.ofString "_law_new"), key := PySem.Value.str (PySem.Str.ofString "_law_new") 546, val := PySem.Value.ref 300 }, { hash := PySem.PyData.keyHash P (PySem.Str.ofString "_law_things"), key := PySem.Value.str (PySem.Str.ofString "_law_things") 553, val := PySem.Value.ref 307 }, { hash := PySem.PyData.keyHash P (PySem.Str.ofString "_law_word"), key := PySem.Value.str (PySem.Str.ofString "_law_word") 560, val := PySem.Value.ref 314 }, { hash := PySem.PyData.keyHash P (PySem.Str.ofString "_law_made_due"), key := PySem.Value.str (PySem.Str.ofString "_law_made_due") 566, val := PySem.Value.ref 319 }, { hash := PySem.PyData.keyHash P (PySem.Str.ofString "_law_put_due"), key := PySem.Value.str (PySem.Str.ofString "_law_put_due") 576, val := PySem.Value.ref 326 }, { hash := PySem.PyData.keyHash P (PySem.Str.ofString "_law_called"), key := PySem.Value.str (PySem.Str.ofString "_law_called") 589, val := PySem.Value.ref 333 }, { hash := PySem.PyData.keyHash P (PySem.Str.ofString "_law_behind"), key := PySem.Value.str (PySem.Str.ofString "_law_behind") 602, val := PySem.Value.ref 340 }, { hash := PySem.PyData.keyHash P (PySem.Str.ofString "_law_sizes_right"), key := PySem.Value.str (PySem.Str.ofString "_law_sizes_right") 612, val := PySem.Value.ref 347 }, { hash := PySem.PyData.keyHash P (PySem.Str.ofString "_law_sound"), key := PySem.Value.str (PySem.Str.ofString "_law_sound") 623, val := PySem.Value.ref 354 }, { hash := PySem.PyData.keyHash P (PySem.Str.ofString "_law_drawn_place"), key := PySem.Value.str (PySem.Str.ofString "_law_drawn_place") 630, val := PySem.Value.ref 361 }, { hash := PySem.PyData.keyHash P (PySem.Str.ofString "_law_drawn_field"), key := PySem.Value.str (PySem.Str.ofString "_law_drawn_field") 637, val := PySem.Value.ref 368 }, { hash := PySem.PyData.keyHash P (PySem.Str.ofString "law"), key := PySem.Value.str (PySem.Str.ofString "law") 643, val := PySem.Value.ref 373 }] 47 }),
  (30, { cls := PySem.Value.type "dict", data := PySem.Data.dict #[{ hash := PySem.PyData.keyHash P (PySem.Str.ofString "__module__"), key := PySem.Value.str (PySem.Str.ofString "__module__") 203, val := PySem.Value.str (PySem.Str.ofString "threadslide.errors") 194 }, { hash := PySem.PyData.keyHash P (PySem.Str.ofString "__firstlineno__"), key := PySem.Value.str (PySem.Str.ofString "__firstlineno__") 207, val := PySem.Value.int 5 206 }, { hash := PySem.PyData.keyHash P (PySem.Str.ofString "__static_attributes__"), key := PySem.Value.str (PySem.Str.ofString "__static_attributes__") 208, val := PySem.Value.ref 29 }, { hash := PySem.PyData.keyHash P (PySem.Str.ofString "__weakref__"), key := PySem.Value.str (PySem.Str.ofString "__weakref__") 210, val := PySem.Value.ref 32 }, { hash := PySem.PyData.keyHash P (PySem.Str.ofString "__doc__"), key := PySem.Value.str (PySem.Str.ofString "__doc__") 211, val := PySem.Value.none }] 3 }),
  (31, { cls := PySem.Value.type "type", data := PySem.Data.cls { name := PySem.Str.ofString "SlideError", bases := [PySem.Value.type "ValueError"], mro := [PySem.Value.ref 31, PySem.Value.type "ValueError", PySem.Value.type "Exception", PySem.Value.type "BaseException", PySem.Value.type "object"], ns := 30, qualname := PySem.Str.ofString "SlideError", subclasses := [PySem.Value.ref 44, PySem.Value.ref 56, PySem.Value.ref 68, PySem.Value.ref 80, PySem.Value.ref 92] }, slots := #[some (PySem.Value.ref 22), none, some (PySem.Value.str (PySem.Str.ofString "SlideError") 196), some (PySem.Value.str (PySem.Str.ofString "SlideError") 204), some (PySem.Value.builtin "ValueError.__new__"), some (PySem.Value.bool true)] }),
  (43, { cls := PySem.Value.type "dict", data := PySem.Data.dict #[{ hash := PySem.PyData.keyHash P (PySem.Str.ofString "__module__"), key := PySem.Value.str (PySem.Str.ofString "__module__") 221, val := PySem.Value.str (PySem.Str.ofString "threadslide.errors") 194 }, { hash := PySem.PyData.keyHash P (PySem.Str.ofString "__firstlineno__"), key := PySem.Value.str (PySem.Str.ofString "__firstlineno__") 225, val := PySem.Value.int 7 224 }, { hash := PySem.PyData.keyHash P (PySem.Str.ofString "__static_attributes__"), key := PySem.Value.str (PySem.Str.ofString "__static_attributes__") 226, val := PySem.Value.ref 42 }, { hash := PySem.PyData.keyHash P (PySem.Str.ofString "__doc__"), key := PySem.Value.str (PySem.Str.ofString "__doc__") 227, val := PySem.Value.none }] 2 }),
  (44, { cls := PySem.Value.type "type", data := PySem.Data.cls { name := PySem.Str.ofString "BadSize", bases := [PySem.Value.ref 31], mro := [PySem.Value.ref 44, PySem.Value.ref 31, PySem.Value.type "ValueError", PySem.Value.type "Exception", PySem.Value.type "BaseException", PySem.Value.type "object"], ns := 43, qualname := PySem.Str.ofString "BadSize" }, slots := #[some (PySem.Value.ref 35), none, some (PySem.Value.str (PySem.Str.ofString "BadSize") 214), some (PySem.Value.str (PySem.Str.ofString "BadSize") 222), some (PySem.Value.builtin "ValueError.__new__"), some (PySem.Value.bool true)] }),
  (55, { cls := PySem.Value.type "dict", data := PySem.Data.dict #[{ hash := PySem.PyData.keyHash P (PySem.Str.ofString "__module__"), key := PySem.Value.str (PySem.Str.ofString "__module__") 237, val := PySem.Value.str (PySem.Str.ofString "threadslide.errors") 194 }, { hash := PySem.PyData.keyHash P (PySem.Str.ofString "__firstlineno__"), key := PySem.Value.str (PySem.Str.ofString "__firstlineno__") 241, val := PySem.Value.int 9 240 }, { hash := PySem.PyData.keyHash P (PySem.Str.ofString "__static_attributes__"), key := PySem.Value.str (PySem.Str.ofString "__static_attributes__") 242, val := PySem.Value.ref 54 }, { hash := PySem.PyData.keyHash P (PySem.Str.ofString "__doc__"), key := PySem.Value.str (PySem.Str.ofString "__doc__") 243, val := PySem.Value.none }] 2 }),
  (56, { cls := PySem.Value.type "type", data := PySem.Data.cls { name := PySem.Str.ofString "BadThing", bases := [PySem.Value.ref 31], mro := [PySem.Value.ref 56, PySem.Value.ref 31, PySem.Value.type "ValueError", PySem.Value.type "Exception", PySem.Value.type "BaseException", PySem.Value.type "object"], ns := 55, qualname := PySem.Str.ofString "BadThing" }, slots := #[some (PySem.Value.ref 47), none, some (PySem.Value.str (PySem.Str.ofString "BadThing") 230), some (PySem.Value.str (PySem.Str.ofString "BadThing") 238), some (PySem.Value.builtin "ValueError.__new__"), some (PySem.Value.bool true)] }),
  (67, { cls := PySem.Value.type "dict", data := PySem.Data.dict #[{ hash := PySem.PyData.keyHash P (PySem.Str.ofString "__module__"), key := PySem.Value.str (PySem.Str.ofString "__module__") 253, val := PySem.Value.str (PySem.Str.ofString "threadslide.errors") 194 }, { hash := PySem.PyData.keyHash P (PySem.Str.ofString "__firstlineno__"), key := PySem.Value.str (PySem.Str.ofString "__firstlineno__") 257, val := PySem.Value.int 11 256 }, { hash := PySem.PyData.keyHash P (PySem.Str.ofString "__static_attributes__"), key := PySem.Value.str (PySem.Str.ofString "__static_attributes__") 258, val := PySem.Value.ref 66 }, { hash := PySem.PyData.keyHash P (PySem.Str.ofString "__doc__"), key := PySem.Value.str (PySem.Str.ofString "__doc__") 259, val := PySem.Value.none }] 2 }),
  (68, { cls := PySem.Value.type "type", data := PySem.Data.cls { name := PySem.Str.ofString "NoBox", bases := [PySem.Value.ref 31], mro := [PySem.Value.ref 68, PySem.Value.ref 31, PySem.Value.type "ValueError", PySem.Value.type "Exception", PySem.Value.type "BaseException", PySem.Value.type "object"], ns := 67, qualname := PySem.Str.ofString "NoBox" }, slots := #[some (PySem.Value.ref 59), none, some (PySem.Value.str (PySem.Str.ofString "NoBox") 246), some (PySem.Value.str (PySem.Str.ofString "NoBox") 254), some (PySem.Value.builtin "ValueError.__new__"), some (PySem.Value.bool true)] }),
  (79, { cls := PySem.Value.type "dict", data := PySem.Data.dict #[{ hash := PySem.PyData.keyHash P (PySem.Str.ofString "__module__"), key := PySem.Value.str (PySem.Str.ofString "__module__") 269, val := PySem.Value.str (PySem.Str.ofString "threadslide.errors") 194 }, { hash := PySem.PyData.keyHash P (PySem.Str.ofString "__firstlineno__"), key := PySem.Value.str (PySem.Str.ofString "__firstlineno__") 273, val := PySem.Value.int 13 272 }, { hash := PySem.PyData.keyHash P (PySem.Str.ofString "__static_attributes__"), key := PySem.Value.str (PySem.Str.ofString "__static_attributes__") 274, val := PySem.Value.ref 78 }, { hash := PySem.PyData.keyHash P (PySem.Str.ofString "__doc__"), key := PySem.Value.str (PySem.Str.ofString "__doc__") 275, val := PySem.Value.none }] 2 }),
  (80, { cls := PySem.Value.type "type", data := PySem.Data.cls { name := PySem.Str.ofString "NoField", bases := [PySem.Value.ref 31], mro := [PySem.Value.ref 80, PySem.Value.ref 31, PySem.Value.type "ValueError", PySem.Value.type "Exception", PySem.Value.type "BaseException", PySem.Value.type "object"], ns := 79, qualname := PySem.Str.ofString "NoField" }, slots := #[some (PySem.Value.ref 71), none, some (PySem.Value.str (PySem.Str.ofString "NoField") 262), some (PySem.Value.str (PySem.Str.ofString "NoField") 270), some (PySem.Value.builtin "ValueError.__new__"), some (PySem.Value.bool true)] }),
  (91, { cls := PySem.Value.type "dict", data := PySem.Data.dict #[{ hash := PySem.PyData.keyHash P (PySem.Str.ofString "__module__"), key := PySem.Value.str (PySem.Str.ofString "__module__") 285, val := PySem.Value.str (PySem.Str.ofString "threadslide.errors") 194 }, { hash := PySem.PyData.keyHash P (PySem.Str.ofString "__firstlineno__"), key := PySem.Value.str (PySem.Str.ofString "__firstlineno__") 289, val := PySem.Value.int 15 288 }, { hash := PySem.PyData.keyHash P (PySem.Str.ofString "__static_attributes__"), key := PySem.Value.str (PySem.Str.ofString "__static_attributes__") 290, val := PySem.Value.ref 90 }, { hash := PySem.PyData.keyHash P (PySem.Str.ofString "__doc__"), key := PySem.Value.str (PySem.Str.ofString "__doc__") 291, val := PySem.Value.none }] 2 }),
  (92, { cls := PySem.Value.type "type", data := PySem.Data.cls { name := PySem.Str.ofString "NoRoom", bases := [PySem.Value.ref 31], mro := [PySem.Value.ref 92, PySem.Value.ref 31, PySem.Value.type "ValueError", PySem.Value.type "Exception", PySem.Value.type "BaseException", PySem.Value.type "object"], ns := 91, qualname := PySem.Str.ofString "NoRoom" }, slots := #[some (PySem.Value.ref 83), none, some (PySem.Value.str (PySem.Str.ofString "NoRoom") 278), some (PySem.Value.str (PySem.Str.ofString "NoRoom") 286), some (PySem.Value.builtin "ValueError.__new__"), some (PySem.Value.bool true)] }),
  (100, { cls := PySem.Value.type "code", data := PySem.Data.fields #[PySem.Value.str (PySem.Str.ofString "number_word") 296, PySem.Value.str (PySem.Str.ofString "number_word") 297, PySem.Value.str (PySem.Str.ofString "/claim/cut.py") 298, PySem.Value.int 18 0, PySem.Value.int 1 0, PySem.Value.int 0 0, PySem.Value.int 0 0, PySem.Value.int 3 0, PySem.Value.ref 95, PySem.Value.bool true, PySem.Value.int 181 0, PySem.Value.ref 96, PySem.Value.none, PySem.Value.ref 97, PySem.Value.ref 98, PySem.Value.ref 99, PySem.Value.int 300 0, PySem.Value.int 18 0, PySem.Value.str (PySem.Str.ofString "/claim/cut.py") 301] }),
  (101, { cls := PySem.Value.type "function", data := PySem.Data.func { name := PySem.Str.ofString "number_word", qualname := PySem.Str.ofString "number_word", params := (dP 9), body := .stmts (dB 9), scope := (dS 9), globals := 3, closure := [], defaults := PySem.Value.none, kwdefaults := PySem.Value.none, pyModule := PySem.Value.str (PySem.Str.ofString "threadslide.words") 294, code := PySem.Value.ref 100 } }),
  (107, { cls := PySem.Value.type "code", data := PySem.Data.fields #[PySem.Value.str (PySem.Str.ofString "link_word") 303, PySem.Value.str (PySem.Str.ofString "link_word") 304, PySem.Value.str (PySem.Str.ofString "/claim/cut.py") 305, PySem.Value.int 20 0, PySem.Value.int 1 0, PySem.Value.int 0 0, PySem.Value.int 0 0, PySem.Value.int 3 0, PySem.Value.ref 102, PySem.Value.bool true, PySem.Value.int 181 0, PySem.Value.ref 103, PySem.Value.none, PySem.Value.ref 104, PySem.Value.ref 105, PySem.Value.ref 106, PySem.Value.int 307 0, PySem.Value.int 20 0, PySem.Value.str (PySem.Str.ofString "/claim/cut.py") 308] }),
  (108, { cls := PySem.Value.type "function", data := PySem.Data.func { name := PySem.Str.ofString "link_word", qualname := PySem.Str.ofString "link_word", params := (dP 10), body := .stmts (dB 10), scope := (dS 10), globals := 3, closure := [], defaults := PySem.Value.none, kwdefaults := PySem.Value.none, pyModule := PySem.Value.str (PySem.Str.ofString "threadslide.words") 294, code := PySem.Value.ref 107 } }),
  (114, { cls := PySem.Value.type "code", data := PySem.Data.fields #[PySem.Value.str (PySem.Str.ofString "head_word") 310, PySem.Value.str (PySem.Str.ofString "head_word") 311, PySem.Value.str (PySem.Str.ofString "/claim/cut.py") 312, PySem.Value.int 22 0, PySem.Value.int 2 0, PySem.Value.int 0 0, PySem.Value.int 0 0, PySem.Value.int 3 0, PySem.Value.ref 109, PySem.Value.bool true, PySem.Value.int 181 0, PySem.Value.ref 110, PySem.Value.none, PySem.Value.ref 111, PySem.Value.ref 112, PySem.Value.ref 113, PySem.Value.int 315 0, PySem.Value.int 22 0, PySem.Value.str (PySem.Str.ofString "/claim/cut.py") 316] }),
  (115, { cls := PySem.Value.type "function", data := PySem.Data.func { name := PySem.Str.ofString "head_word", qualname := PySem.Str.ofString "head_word", params := (dP 11), body := .stmts (dB 11), scope := (dS 11), globals := 3, closure := [], defaults := PySem.Value.none, kwdefaults := PySem.Value.none, pyModule := PySem.Value.str (PySem.Str.ofString "threadslide.words") 294, code := PySem.Value.ref 114 } }),
  (121, { cls := PySem.Value.type "code", data := PySem.Data.fields #[PySem.Value.str (PySem.Str.ofString "is_link") 318, PySem.Value.str (PySem.Str.ofString "is_link") 319, PySem.Value.str (PySem.Str.ofString "/claim/cut.py") 320, PySem.Value.int 26 0, PySem.Value.int 1 0, PySem.Value.int 0 0, PySem.Value.int 0 0, PySem.Value.int 3 0, PySem.Value.ref 116, PySem.Value.bool true, PySem.Value.int 181 0, PySem.Value.ref 117, PySem.Value.none, PySem.Value.ref 118, PySem.Value.ref 119, PySem.Value.ref 120, PySem.Value.int 322 0, PySem.Value.int 26 0, PySem.Value.str (PySem.Str.ofString "/claim/cut.py") 323] }),
  (122, { cls := PySem.Value.type "function", data := PySem.Data.func { name := PySem.Str.ofString "is_link", qualname := PySem.Str.ofString "is_link", params := (dP 12), body := .stmts (dB 12), scope := (dS 12), globals := 3, closure := [], defaults := PySem.Value.none, kwdefaults := PySem.Value.none, pyModule := PySem.Value.str (PySem.Str.ofString "threadslide.words") 294, code := PySem.Value.ref 121 } }),
  (128, { cls := PySem.Value.type "code", data := PySem.Data.fields #[PySem.Value.str (PySem.Str.ofString "told_by") 325, PySem.Value.str (PySem.Str.ofString "told_by") 326, PySem.Value.str (PySem.Str.ofString "/claim/cut.py") 327, PySem.Value.int 28 0, PySem.Value.int 1 0, PySem.Value.int 0 0, PySem.Value.int 0 0, PySem.Value.int 3 0, PySem.Value.ref 123, PySem.Value.bool true, PySem.Value.int 181 0, PySem.Value.ref 124, PySem.Value.none, PySem.Value.ref 125, PySem.Value.ref 126, PySem.Value.ref 127, PySem.Value.int 329 0, PySem.Value.int 28 0, PySem.Value.str (PySem.Str.ofString "/claim/cut.py") 330] }),
  (129, { cls := PySem.Value.type "function", data := PySem.Data.func { name := PySem.Str.ofString "told_by", qualname := PySem.Str.ofString "told_by", params := (dP 13), body := .stmts (dB 13), scope := (dS 13), globals := 3, closure := [], defaults := PySem.Value.none, kwdefaults := PySem.Value.none, pyModule := PySem.Value.str (PySem.Str.ofString "threadslide.words") 294, code := PySem.Value.ref 128 } }),
  (135, { cls := PySem.Value.type "code", data := PySem.Data.fields #[PySem.Value.str (PySem.Str.ofString "fields_of") 332, PySem.Value.str (PySem.Str.ofString "fields_of") 333, PySem.Value.str (PySem.Str.ofString "/claim/cut.py") 334, PySem.Value.int 30 0, PySem.Value.int 1 0, PySem.Value.int 0 0, PySem.Value.int 0 0, PySem.Value.int 3 0, PySem.Value.ref 130, PySem.Value.bool true, PySem.Value.int 181 0, PySem.Value.ref 131, PySem.Value.none, PySem.Value.ref 132, PySem.Value.ref 133, PySem.Value.ref 134, PySem.Value.int 336 0, PySem.Value.int 30 0, PySem.Value.str (PySem.Str.ofString "/claim/cut.py") 337] }),
  (136, { cls := PySem.Value.type "function", data := PySem.Data.func { name := PySem.Str.ofString "fields_of", qualname := PySem.Str.ofString "fields_of", params := (dP 14), body := .stmts (dB 14), scope := (dS 14), globals := 3, closure := [], defaults := PySem.Value.none, kwdefaults := PySem.Value.none, pyModule := PySem.Value.str (PySem.Str.ofString "threadslide.words") 294, code := PySem.Value.ref 135 } }),
  (142, { cls := PySem.Value.type "code", data := PySem.Data.fields #[PySem.Value.str (PySem.Str.ofString "heads") 341, PySem.Value.str (PySem.Str.ofString "heads") 342, PySem.Value.str (PySem.Str.ofString "/claim/cut.py") 343, PySem.Value.int 33 0, PySem.Value.int 2 0, PySem.Value.int 0 0, PySem.Value.int 0 0, PySem.Value.int 3 0, PySem.Value.ref 137, PySem.Value.bool true, PySem.Value.int 181 0, PySem.Value.ref 138, PySem.Value.none, PySem.Value.ref 139, PySem.Value.ref 140, PySem.Value.ref 141, PySem.Value.int 348 0, PySem.Value.int 33 0, PySem.Value.str (PySem.Str.ofString "/claim/cut.py") 349] }),
  (143, { cls := PySem.Value.type "function", data := PySem.Data.func { name := PySem.Str.ofString "heads", qualname := PySem.Str.ofString "heads", params := (dP 16), body := .stmts (dB 16), scope := (dS 16), globals := 3, closure := [], defaults := PySem.Value.none, kwdefaults := PySem.Value.none, pyModule := PySem.Value.str (PySem.Str.ofString "threadslide.sliding") 339, code := PySem.Value.ref 142 } }),
  (149, { cls := PySem.Value.type "code", data := PySem.Data.fields #[PySem.Value.str (PySem.Str.ofString "is_whole") 357, PySem.Value.str (PySem.Str.ofString "is_whole") 358, PySem.Value.str (PySem.Str.ofString "/claim/cut.py") 359, PySem.Value.int 43 0, PySem.Value.int 1 0, PySem.Value.int 0 0, PySem.Value.int 0 0, PySem.Value.int 3 0, PySem.Value.ref 144, PySem.Value.bool true, PySem.Value.int 181 0, PySem.Value.ref 145, PySem.Value.none, PySem.Value.ref 146, PySem.Value.ref 147, PySem.Value.ref 148, PySem.Value.int 361 0, PySem.Value.int 43 0, PySem.Value.str (PySem.Str.ofString "/claim/cut.py") 362] }),
  (150, { cls := PySem.Value.type "function", data := PySem.Data.func { name := PySem.Str.ofString "is_whole", qualname := PySem.Str.ofString "is_whole", params := (dP 20), body := .stmts (dB 20), scope := (dS 20), globals := 3, closure := [], defaults := PySem.Value.none, kwdefaults := PySem.Value.none, pyModule := PySem.Value.str (PySem.Str.ofString "threadslide.rooms") 351, code := PySem.Value.ref 149 } }),
  (156, { cls := PySem.Value.type "code", data := PySem.Data.fields #[PySem.Value.str (PySem.Str.ofString "need_things") 364, PySem.Value.str (PySem.Str.ofString "need_things") 365, PySem.Value.str (PySem.Str.ofString "/claim/cut.py") 366, PySem.Value.int 45 0, PySem.Value.int 1 0, PySem.Value.int 0 0, PySem.Value.int 0 0, PySem.Value.int 3 0, PySem.Value.ref 151, PySem.Value.bool true, PySem.Value.int 181 0, PySem.Value.ref 152, PySem.Value.none, PySem.Value.ref 153, PySem.Value.ref 154, PySem.Value.ref 155, PySem.Value.int 369 0, PySem.Value.int 45 0, PySem.Value.str (PySem.Str.ofString "/claim/cut.py") 370] }),
  (157, { cls := PySem.Value.type "function", data := PySem.Data.func { name := PySem.Str.ofString "need_things", qualname := PySem.Str.ofString "need_things", params := (dP 21), body := .stmts (dB 21), scope := (dS 21), globals := 3, closure := [], defaults := PySem.Value.none, kwdefaults := PySem.Value.none, pyModule := PySem.Value.str (PySem.Str.ofString "threadslide.rooms") 351, code := PySem.Value.ref 156 } }),
  (163, { cls := PySem.Value.type "code", data := PySem.Data.fields #[PySem.Value.str (PySem.Str.ofString "word_of") 372, PySem.Value.str (PySem.Str.ofString "word_of") 373, PySem.Value.str (PySem.Str.ofString "/claim/cut.py") 374, PySem.Value.int 51 0, PySem.Value.int 1 0, PySem.Value.int 0 0, PySem.Value.int 0 0, PySem.Value.int 3 0, PySem.Value.ref 158, PySem.Value.bool true, PySem.Value.int 181 0, PySem.Value.ref 159, PySem.Value.none, PySem.Value.ref 160, PySem.Value.ref 161, PySem.Value.ref 162, PySem.Value.int 376 0, PySem.Value.int 51 0, PySem.Value.str (PySem.Str.ofString "/claim/cut.py") 377] }),
  (164, { cls := PySem.Value.type "function", data := PySem.Data.func { name := PySem.Str.ofString "word_of", qualname := PySem.Str.ofString "word_of", params := (dP 22), body := .stmts (dB 22), scope := (dS 22), globals := 3, closure := [], defaults := PySem.Value.none, kwdefaults := PySem.Value.none, pyModule := PySem.Value.str (PySem.Str.ofString "threadslide.rooms") 351, code := PySem.Value.ref 163 } }),
  (177, { cls := PySem.Value.type "code", data := PySem.Data.fields #[PySem.Value.str (PySem.Str.ofString "__init__") 391, PySem.Value.str (PySem.Str.ofString "Room.__init__") 392, PySem.Value.str (PySem.Str.ofString "/claim/cut.py") 393, PySem.Value.int 57 0, PySem.Value.int 3 0, PySem.Value.int 0 0, PySem.Value.int 0 0, PySem.Value.int 3 0, PySem.Value.ref 172, PySem.Value.bool true, PySem.Value.int 181 0, PySem.Value.ref 173, PySem.Value.none, PySem.Value.ref 174, PySem.Value.ref 175, PySem.Value.ref 176, PySem.Value.int 397 0, PySem.Value.int 57 0, PySem.Value.str (PySem.Str.ofString "/claim/cut.py") 398] }),
  (178, { cls := PySem.Value.type "function", data := PySem.Data.func { name := PySem.Str.ofString "__init__", qualname := PySem.Str.ofString "Room.__init__", params := (dPm 0), body := .stmts (dBm 0), scope := (dSm 0), globals := 3, closure := [], defaults := PySem.Value.none, kwdefaults := PySem.Value.none, pyModule := PySem.Value.str (PySem.Str.ofString "threadslide.rooms") 351, code := PySem.Value.ref 177 } }),
  (184, { cls := PySem.Value.type "code", data := PySem.Data.fields #[PySem.Value.str (PySem.Str.ofString "need_boxes") 400, PySem.Value.str (PySem.Str.ofString "Room.need_boxes") 401, PySem.Value.str (PySem.Str.ofString "/claim/cut.py") 402, PySem.Value.int 65 0, PySem.Value.int 2 0, PySem.Value.int 0 0, PySem.Value.int 0 0, PySem.Value.int 3 0, PySem.Value.ref 179, PySem.Value.bool true, PySem.Value.int 181 0, PySem.Value.ref 180, PySem.Value.none, PySem.Value.ref 181, PySem.Value.ref 182, PySem.Value.ref 183, PySem.Value.int 407 0, PySem.Value.int 65 0, PySem.Value.str (PySem.Str.ofString "/claim/cut.py") 408] }),
  (185, { cls := PySem.Value.type "function", data := PySem.Data.func { name := PySem.Str.ofString "need_boxes", qualname := PySem.Str.ofString "Room.need_boxes", params := (dPm 1), body := .stmts (dBm 1), scope := (dSm 1), globals := 3, closure := [], defaults := PySem.Value.none, kwdefaults := PySem.Value.none, pyModule := PySem.Value.str (PySem.Str.ofString "threadslide.rooms") 351, code := PySem.Value.ref 184 } }),
  (191, { cls := PySem.Value.type "code", data := PySem.Data.fields #[PySem.Value.str (PySem.Str.ofString "need_box") 410, PySem.Value.str (PySem.Str.ofString "Room.need_box") 411, PySem.Value.str (PySem.Str.ofString "/claim/cut.py") 412, PySem.Value.int 71 0, PySem.Value.int 2 0, PySem.Value.int 0 0, PySem.Value.int 0 0, PySem.Value.int 3 0, PySem.Value.ref 186, PySem.Value.bool true, PySem.Value.int 181 0, PySem.Value.ref 187, PySem.Value.none, PySem.Value.ref 188, PySem.Value.ref 189, PySem.Value.ref 190, PySem.Value.int 415 0, PySem.Value.int 71 0, PySem.Value.str (PySem.Str.ofString "/claim/cut.py") 416] }),
  (192, { cls := PySem.Value.type "function", data := PySem.Data.func { name := PySem.Str.ofString "need_box", qualname := PySem.Str.ofString "Room.need_box", params := (dPm 2), body := .stmts (dBm 2), scope := (dSm 2), globals := 3, closure := [], defaults := PySem.Value.none, kwdefaults := PySem.Value.none, pyModule := PySem.Value.str (PySem.Str.ofString "threadslide.rooms") 351, code := PySem.Value.ref 191 } }),
  (196, { cls := PySem.Value.type "code", data := PySem.Data.fields #[PySem.Value.str (PySem.Str.ofString "made") 418, PySem.Value.str (PySem.Str.ofString "Room.made") 419, PySem.Value.str (PySem.Str.ofString "/claim/cut.py") 420, PySem.Value.int 75 0, PySem.Value.int 2 0, PySem.Value.int 0 0, PySem.Value.int 0 0, PySem.Value.int 3 0, PySem.Value.ref 193, PySem.Value.bool true, PySem.Value.int 181 0, PySem.Value.ref 194, PySem.Value.none, PySem.Value.none, PySem.Value.none, PySem.Value.ref 195, PySem.Value.int 421 0, PySem.Value.int 75 0, PySem.Value.str (PySem.Str.ofString "/claim/cut.py") 422] }),
  (197, { cls := PySem.Value.type "function", data := PySem.Data.func { name := PySem.Str.ofString "made", qualname := PySem.Str.ofString "Room.made", params := (dPm 3), body := .stmts (dBm 3), scope := (dSm 3), globals := 3, closure := [], defaults := PySem.Value.none, kwdefaults := PySem.Value.none, pyModule := PySem.Value.str (PySem.Str.ofString "threadslide.rooms") 351, code := PySem.Value.ref 196 } }),
  (203, { cls := PySem.Value.type "code", data := PySem.Data.fields #[PySem.Value.str (PySem.Str.ofString "put") 424, PySem.Value.str (PySem.Str.ofString "Room.put") 425, PySem.Value.str (PySem.Str.ofString "/claim/cut.py") 426, PySem.Value.int 87 0, PySem.Value.int 4 0, PySem.Value.int 0 0, PySem.Value.int 0 0, PySem.Value.int 3 0, PySem.Value.ref 198, PySem.Value.bool true, PySem.Value.int 181 0, PySem.Value.ref 199, PySem.Value.none, PySem.Value.ref 200, PySem.Value.ref 201, PySem.Value.ref 202, PySem.Value.int 431 0, PySem.Value.int 87 0, PySem.Value.str (PySem.Str.ofString "/claim/cut.py") 432] }),
  (204, { cls := PySem.Value.type "function", data := PySem.Data.func { name := PySem.Str.ofString "put", qualname := PySem.Str.ofString "Room.put", params := (dPm 4), body := .stmts (dBm 4), scope := (dSm 4), globals := 3, closure := [], defaults := PySem.Value.none, kwdefaults := PySem.Value.none, pyModule := PySem.Value.str (PySem.Str.ofString "threadslide.rooms") 351, code := PySem.Value.ref 203 } }),
  (210, { cls := PySem.Value.type "code", data := PySem.Data.fields #[PySem.Value.str (PySem.Str.ofString "told") 434, PySem.Value.str (PySem.Str.ofString "Room.told") 435, PySem.Value.str (PySem.Str.ofString "/claim/cut.py") 436, PySem.Value.int 95 0, PySem.Value.int 2 0, PySem.Value.int 0 0, PySem.Value.int 0 0, PySem.Value.int 3 0, PySem.Value.ref 205, PySem.Value.bool true, PySem.Value.int 181 0, PySem.Value.ref 206, PySem.Value.none, PySem.Value.ref 207, PySem.Value.ref 208, PySem.Value.ref 209, PySem.Value.int 441 0, PySem.Value.int 95 0, PySem.Value.str (PySem.Str.ofString "/claim/cut.py") 442] }),
  (211, { cls := PySem.Value.type "function", data := PySem.Data.func { name := PySem.Str.ofString "told", qualname := PySem.Str.ofString "Room.told", params := (dPm 5), body := .stmts (dBm 5), scope := (dSm 5), globals := 3, closure := [], defaults := PySem.Value.none, kwdefaults := PySem.Value.none, pyModule := PySem.Value.str (PySem.Str.ofString "threadslide.rooms") 351, code := PySem.Value.ref 210 } }),
  (217, { cls := PySem.Value.type "code", data := PySem.Data.fields #[PySem.Value.str (PySem.Str.ofString "places") 444, PySem.Value.str (PySem.Str.ofString "Room.places") 445, PySem.Value.str (PySem.Str.ofString "/claim/cut.py") 446, PySem.Value.int 105 0, PySem.Value.int 1 0, PySem.Value.int 0 0, PySem.Value.int 0 0, PySem.Value.int 3 0, PySem.Value.ref 212, PySem.Value.bool true, PySem.Value.int 181 0, PySem.Value.ref 213, PySem.Value.none, PySem.Value.ref 214, PySem.Value.ref 215, PySem.Value.ref 216, PySem.Value.int 448 0, PySem.Value.int 105 0, PySem.Value.str (PySem.Str.ofString "/claim/cut.py") 449] }),
  (218, { cls := PySem.Value.type "function", data := PySem.Data.func { name := PySem.Str.ofString "places", qualname := PySem.Str.ofString "Room.places", params := (dPm 6), body := .stmts (dBm 6), scope := (dSm 6), globals := 3, closure := [], defaults := PySem.Value.none, kwdefaults := PySem.Value.none, pyModule := PySem.Value.str (PySem.Str.ofString "threadslide.rooms") 351, code := PySem.Value.ref 217 } }),
  (238, { cls := PySem.Value.type "code", data := PySem.Data.fields #[PySem.Value.str (PySem.Str.ofString "used") 465, PySem.Value.str (PySem.Str.ofString "Room.used") 466, PySem.Value.str (PySem.Str.ofString "/claim/cut.py") 467, PySem.Value.int 114 0, PySem.Value.int 1 0, PySem.Value.int 0 0, PySem.Value.int 0 0, PySem.Value.int 3 0, PySem.Value.ref 233, PySem.Value.bool true, PySem.Value.int 181 0, PySem.Value.ref 234, PySem.Value.none, PySem.Value.ref 235, PySem.Value.ref 236, PySem.Value.ref 237, PySem.Value.int 469 0, PySem.Value.int 114 0, PySem.Value.str (PySem.Str.ofString "/claim/cut.py") 470] }),
  (239, { cls := PySem.Value.type "function", data := PySem.Data.func { name := PySem.Str.ofString "used", qualname := PySem.Str.ofString "Room.used", params := (dPm 9), body := .stmts (dBm 9), scope := (dSm 9), globals := 3, closure := [], defaults := PySem.Value.none, kwdefaults := PySem.Value.none, pyModule := PySem.Value.str (PySem.Str.ofString "threadslide.rooms") 351, code := PySem.Value.ref 238 } }),
  (245, { cls := PySem.Value.type "code", data := PySem.Data.fields #[PySem.Value.str (PySem.Str.ofString "cells") 472, PySem.Value.str (PySem.Str.ofString "Room.cells") 473, PySem.Value.str (PySem.Str.ofString "/claim/cut.py") 474, PySem.Value.int 117 0, PySem.Value.int 1 0, PySem.Value.int 0 0, PySem.Value.int 0 0, PySem.Value.int 3 0, PySem.Value.ref 240, PySem.Value.bool true, PySem.Value.int 181 0, PySem.Value.ref 241, PySem.Value.none, PySem.Value.ref 242, PySem.Value.ref 243, PySem.Value.ref 244, PySem.Value.int 476 0, PySem.Value.int 117 0, PySem.Value.str (PySem.Str.ofString "/claim/cut.py") 477] }),
  (246, { cls := PySem.Value.type "function", data := PySem.Data.func { name := PySem.Str.ofString "cells", qualname := PySem.Str.ofString "Room.cells", params := (dPm 10), body := .stmts (dBm 10), scope := (dSm 10), globals := 3, closure := [], defaults := PySem.Value.none, kwdefaults := PySem.Value.none, pyModule := PySem.Value.str (PySem.Str.ofString "threadslide.rooms") 351, code := PySem.Value.ref 245 } }),
  (247, { cls := PySem.Value.type "tuple", data := PySem.Data.seq #[PySem.Value.str (PySem.Str.ofString "filled") 479, PySem.Value.str (PySem.Str.ofString "row") 480] }),
  (248, { cls := PySem.Value.type "dict", data := PySem.Data.dict #[{ hash := PySem.PyData.keyHash P (PySem.Str.ofString "__module__"), key := PySem.Value.str (PySem.Str.ofString "__module__") 386, val := PySem.Value.str (PySem.Str.ofString "threadslide.rooms") 351 }, { hash := PySem.PyData.keyHash P (PySem.Str.ofString "__firstlineno__"), key := PySem.Value.str (PySem.Str.ofString "__firstlineno__") 390, val := PySem.Value.int 55 389 }, { hash := PySem.PyData.keyHash P (PySem.Str.ofString "__init__"), key := PySem.Value.str (PySem.Str.ofString "__init__") 399, val := PySem.Value.ref 178 }, { hash := PySem.PyData.keyHash P (PySem.Str.ofString "need_boxes"), key := PySem.Value.str (PySem.Str.ofString "need_boxes") 409, val := PySem.Value.ref 185 }, { hash := PySem.PyData.keyHash P (PySem.Str.ofString "need_box"), key := PySem.Value.str (PySem.Str.ofString "need_box") 417, val := PySem.Value.ref 192 }, { hash := PySem.PyData.keyHash P (PySem.Str.ofString "made"), key := PySem.Value.str (PySem.Str.ofString "made") 423, val := PySem.Value.ref 197 }, { hash := PySem.PyData.keyHash P (PySem.Str.ofString "put"), key := PySem.Value.str (PySem.Str.ofString "put") 433, val := PySem.Value.ref 204 }, { hash := PySem.PyData.keyHash P (PySem.Str.ofString "told"), key := PySem.Value.str (PySem.Str.ofString "told") 443, val := PySem.Value.ref 211 }, { hash := PySem.PyData.keyHash P (PySem.Str.ofString "places"), key := PySem.Value.str (PySem.Str.ofString "places") 450, val := PySem.Value.ref 218 }, { hash := PySem.PyData.keyHash P (PySem.Str.ofString "come_to"), key := PySem.Value.str (PySem.Str.ofString "come_to") 457, val := PySem.Value.ref 225 }, { hash := PySem.PyData.keyHash P (PySem.Str.ofString "pushed"), key := PySem.Value.str (PySem.Str.ofString "pushed") 464, val := PySem.Value.ref 232 }, { hash := PySem.PyData.keyHash P (PySem.Str.ofString "used"), key := PySem.Value.str (PySem.Str.ofString "used") 471, val := PySem.Value.ref 239 }, { hash := PySem.PyData.keyHash P (PySem.Str.ofString "cells"), key := PySem.Value.str (PySem.Str.ofString "cells") 478, val := PySem.Value.ref 246 }, { hash := PySem.PyData.keyHash P (PySem.Str.ofString "__static_attributes__"), key := PySem.Value.str (PySem.Str.ofString "__static_attributes__") 481, val := PySem.Value.ref 247 }, { hash := PySem.PyData.keyHash P (PySem.Str.ofString "__dict__"), key := PySem.Value.str (PySem.Str.ofString "__dict__") 483, val := PySem.Value.ref 250 }, { hash := PySem.PyData.keyHash P (PySem.Str.ofString "__weakref__"), key := PySem.Value.str (PySem.Str.ofString "__weakref__") 485, val := PySem.Value.ref 251 }, { hash := PySem.PyData.keyHash P (PySem.Str.ofString "__doc__"), key := PySem.Value.str (PySem.Str.ofString "__doc__") 486, val := PySem.Value.none }] 4 }),
  (249, { cls := PySem.Value.type "type", data := PySem.Data.cls { name := PySem.Str.ofString "Room", bases := [PySem.Value.type "object"], mro := [PySem.Value.ref 249, PySem.Value.type "object"], ns := 248, qualname := PySem.Str.ofString "Room" }, slots := #[none, none, some (PySem.Value.str (PySem.Str.ofString "Room") 379), some (PySem.Value.str (PySem.Str.ofString "Room") 387), some (PySem.Value.builtin "object.__new__"), some (PySem.Value.bool true)] }),
  (250, { cls := PySem.Value.type "getset_descriptor", data := PySem.Data.fields #[PySem.Value.str (PySem.Str.ofString "__dict__") 482, PySem.Value.ref 249, PySem.Value.builtin "function.__dict__", PySem.Value.builtin "function.__dict__#set"] }),
  (251, { cls := PySem.Value.type "getset_descriptor", data := PySem.Data.fields #[PySem.Value.str (PySem.Str.ofString "__weakref__") 484, PySem.Value.ref 249, PySem.Value.builtin "ExceptionGroup.__weakref__", PySem.Value.none] }),
  (259, { cls := PySem.Value.type "code", data := PySem.Data.fields #[PySem.Value.str (PySem.Str.ofString "_law_at") 491, PySem.Value.str (PySem.Str.ofString "_law_at") 492, PySem.Value.str (PySem.Str.ofString "/claim/cut.py") 493, PySem.Value.int 120 0, PySem.Value.int 2 0, PySem.Value.int 0 0, PySem.Value.int 0 0, PySem.Value.int 3 0, PySem.Value.ref 254, PySem.Value.bool true, PySem.Value.int 181 0, PySem.Value.ref 255, PySem.Value.none, PySem.Value.ref 256, PySem.Value.ref 257, PySem.Value.ref 258, PySem.Value.int 496 0, PySem.Value.int 120 0, PySem.Value.str (PySem.Str.ofString "/claim/cut.py") 497] }),
  (260, { cls := PySem.Value.type "function", data := PySem.Data.func { name := PySem.Str.ofString "_law_at", qualname := PySem.Str.ofString "_law_at", params := (dP 25), body := .stmts (dB 25), scope := (dS 25), globals := 3, closure := [], defaults := PySem.Value.none, kwdefaults := PySem.Value.none, pyModule := PySem.Value.str (PySem.Str.ofString "law_uf060004_06") 489, code := PySem.Value.ref 259 } }),
  (266, { cls := PySem.Value.type "code", data := PySem.Data.fields #[PySem.Value.str (PySem.Str.ofString "_law_is_int") 499, PySem.Value.str (PySem.Str.ofString "_law_is_int") 500, PySem.Value.str (PySem.Str.ofString "/claim/cut.py") 501, PySem.Value.int 122 0, PySem.Value.int 1 0, PySem.Value.int 0 0, PySem.Value.int 0 0, PySem.Value.int 3 0, PySem.Value.ref 261, PySem.Value.bool true, PySem.Value.int 181 0, PySem.Value.ref 262, PySem.Value.none, PySem.Value.ref 263, PySem.Value.ref 264, PySem.Value.ref 265, PySem.Value.int 503 0, PySem.Value.int 122 0, PySem.Value.str (PySem.Str.ofString "/claim/cut.py") 504] }),
  (267, { cls := PySem.Value.type "function", data := PySem.Data.func { name := PySem.Str.ofString "_law_is_int", qualname := PySem.Str.ofString "_law_is_int", params := (dP 26), body := .stmts (dB 26), scope := (dS 26), globals := 3, closure := [], defaults := PySem.Value.none, kwdefaults := PySem.Value.none, pyModule := PySem.Value.str (PySem.Str.ofString "law_uf060004_06") 489, code := PySem.Value.ref 266 } }),
  (271, { cls := PySem.Value.type "code", data := PySem.Data.fields #[PySem.Value.str (PySem.Str.ofString "_law_words_are") 506, PySem.Value.str (PySem.Str.ofString "_law_words_are") 507, PySem.Value.str (PySem.Str.ofString "/claim/cut.py") 508, PySem.Value.int 124 0, PySem.Value.int 2 0, PySem.Value.int 0 0, PySem.Value.int 0 0, PySem.Value.int 3 0, PySem.Value.ref 268, PySem.Value.bool true, PySem.Value.int 181 0, PySem.Value.ref 269, PySem.Value.none, PySem.Value.none, PySem.Value.none, PySem.Value.ref 270, PySem.Value.int 509 0, PySem.Value.int 124 0, PySem.Value.str (PySem.Str.ofString "/claim/cut.py") 510] }),
  (272, { cls := PySem.Value.type "function", data := PySem.Data.func { name := PySem.Str.ofString "_law_words_are", qualname := PySem.Str.ofString "_law_words_are", params := (dP 27), body := .stmts (dB 27), scope := (dS 27), globals := 3, closure := [], defaults := PySem.Value.none, kwdefaults := PySem.Value.none, pyModule := PySem.Value.str (PySem.Str.ofString "law_uf060004_06") 489, code := PySem.Value.ref 271 } }),
  (278, { cls := PySem.Value.type "code", data := PySem.Data.fields #[PySem.Value.str (PySem.Str.ofString "_law_class") 512, PySem.Value.str (PySem.Str.ofString "_law_class") 513, PySem.Value.str (PySem.Str.ofString "/claim/cut.py") 514, PySem.Value.int 128 0, PySem.Value.int 2 0, PySem.Value.int 0 0, PySem.Value.int 0 0, PySem.Value.int 3 0, PySem.Value.ref 273, PySem.Value.bool true, PySem.Value.int 181 0, PySem.Value.ref 274, PySem.Value.none, PySem.Value.ref 275, PySem.Value.ref 276, PySem.Value.ref 277, PySem.Value.int 518 0, PySem.Value.int 128 0, PySem.Value.str (PySem.Str.ofString "/claim/cut.py") 519] }),
  (279, { cls := PySem.Value.type "function", data := PySem.Data.func { name := PySem.Str.ofString "_law_class", qualname := PySem.Str.ofString "_law_class", params := (dP 28), body := .stmts (dB 28), scope := (dS 28), globals := 3, closure := [], defaults := PySem.Value.none, kwdefaults := PySem.Value.none, pyModule := PySem.Value.str (PySem.Str.ofString "law_uf060004_06") 489, code := PySem.Value.ref 278 } }),
  (285, { cls := PySem.Value.type "code", data := PySem.Data.fields #[PySem.Value.str (PySem.Str.ofString "_law_number") 521, PySem.Value.str (PySem.Str.ofString "_law_number") 522, PySem.Value.str (PySem.Str.ofString "/claim/cut.py") 523, PySem.Value.int 134 0, PySem.Value.int 1 0, PySem.Value.int 0 0, PySem.Value.int 0 0, PySem.Value.int 3 0, PySem.Value.ref 280, PySem.Value.bool true, PySem.Value.int 181 0, PySem.Value.ref 281, PySem.Value.none, PySem.Value.ref 282, PySem.Value.ref 283, PySem.Value.ref 284, PySem.Value.int 525 0, PySem.Value.int 134 0, PySem.Value.str (PySem.Str.ofString "/claim/cut.py") 526] }),
  (286, { cls := PySem.Value.type "function", data := PySem.Data.func { name := PySem.Str.ofString "_law_number", qualname := PySem.Str.ofString "_law_number", params := (dP 29), body := .stmts (dB 29), scope := (dS 29), globals := 3, closure := [], defaults := PySem.Value.none, kwdefaults := PySem.Value.none, pyModule := PySem.Value.str (PySem.Str.ofString "law_uf060004_06") 489, code := PySem.Value.ref 285 } }),
  (292, { cls := PySem.Value.type "code", data := PySem.Data.fields #[PySem.Value.str (PySem.Str.ofString "_law_sized") 528, PySem.Value.str (PySem.Str.ofString "_law_sized") 529, PySem.Value.str (PySem.Str.ofString "/claim/cut.py") 530, PySem.Value.int 136 0, PySem.Value.int 2 0, PySem.Value.int 0 0, PySem.Value.int 0 0, PySem.Value.int 3 0, PySem.Value.ref 287, PySem.Value.bool true, PySem.Value.int 181 0, PySem.Value.ref 288, PySem.Value.none, PySem.Value.ref 289, PySem.Value.ref 290, PySem.Value.ref 291, PySem.Value.int 533 0, PySem.Value.int 136 0, PySem.Value.str (PySem.Str.ofString "/claim/cut.py") 534] }),
  (293, { cls := PySem.Value.type "function", data := PySem.Data.func { name := PySem.Str.ofString "_law_sized", qualname := PySem.Str.ofString "_law_sized", params := (dP 30), body := .stmts (dB 30), scope := (dS 30), globals := 3, closure := [], defaults := PySem.Value.none, kwdefaults := PySem.Value.none, pyModule := PySem.Value.str (PySem.Str.ofString "law_uf060004_06") 489, code := PySem.Value.ref 292 } }),
  (299, { cls := PySem.Value.type "code", data := PySem.Data.fields #[PySem.Value.str (PySem.Str.ofString "_law_new") 536, PySem.Value.str (PySem.Str.ofString "_law_new") 537, PySem.Value.str (PySem.Str.ofString "/claim/cut.py") 538, PySem.Value.int 140 0, PySem.Value.int 2 0, PySem.Value.int 0 0, PySem.Value.int 0 0, PySem.Value.int 3 0, PySem.Value.ref 294, PySem.Value.bool true, PySem.Value.int 181 0, PySem.Value.ref 295, PySem.Value.none, PySem.Value.ref 296, PySem.Value.ref 297, PySem.Value.ref 298, PySem.Value.int 544 0, PySem.Value.int 140 0, PySem.Value.str (PySem.Str.ofString "/claim/cut.py") 545] }),
  (300, { cls := PySem.Value.type "function", data := PySem.Data.func { name := PySem.Str.ofString "_law_new", qualname := PySem.Str.ofString "_law_new", params := (dP 31), body := .stmts (dB 31), scope := (dS 31), globals := 3, closure := [], defaults := PySem.Value.none, kwdefaults := PySem.Value.none, pyModule := PySem.Value.str (PySem.Str.ofString "law_uf060004_06") 489, code := PySem.Value.ref 299 } }),
  (306, { cls := PySem.Value.type "code", data := PySem.Data.fields #[PySem.Value.str (PySem.Str.ofString "_law_things") 547, PySem.Value.str (PySem.Str.ofString "_law_things") 548, PySem.Value.str (PySem.Str.ofString "/claim/cut.py") 549, PySem.Value.int 147 0, PySem.Value.int 0 0, PySem.Value.int 0 0, PySem.Value.int 0 0, PySem.Value.int 3 0, PySem.Value.ref 301, PySem.Value.bool true, PySem.Value.int 181 0, PySem.Value.ref 302, PySem.Value.none, PySem.Value.ref 303, PySem.Value.ref 304, PySem.Value.ref 305, PySem.Value.int 551 0, PySem.Value.int 147 0, PySem.Value.str (PySem.Str.ofString "/claim/cut.py") 552] }),
  (307, { cls := PySem.Value.type "function", data := PySem.Data.func { name := PySem.Str.ofString "_law_things", qualname := PySem.Str.ofString "_law_things", params := (dP 32), body := .stmts (dB 32), scope := (dS 32), globals := 3, closure := [], defaults := PySem.Value.none, kwdefaults := PySem.Value.none, pyModule := PySem.Value.str (PySem.Str.ofString "law_uf060004_06") 489, code := PySem.Value.ref 306 } }),
  (313, { cls := PySem.Value.type "code", data := PySem.Data.fields #[PySem.Value.str (PySem.Str.ofString "_law_word") 554, PySem.Value.str (PySem.Str.ofString "_law_word") 555, PySem.Value.str (PySem.Str.ofString "/claim/cut.py") 556, PySem.Value.int 152 0, PySem.Value.int 1 0, PySem.Value.int 0 0, PySem.Value.int 0 0, PySem.Value.int 3 0, PySem.Value.ref 308, PySem.Value.bool true, PySem.Value.int 181 0, PySem.Value.ref 309, PySem.Value.none, PySem.Value.ref 310, PySem.Value.ref 311, PySem.Value.ref 312, PySem.Value.int 558 0, PySem.Value.int 152 0, PySem.Value.str (PySem.Str.ofString "/claim/cut.py") 559] }),
  (314, { cls := PySem.Value.type "function", data := PySem.Data.func { name := PySem.Str.ofString "_law_word", qualname := PySem.Str.ofString "_law_word", params := (dP 33), body := .stmts (dB 33), scope := (dS 33), globals := 3, closure := [], defaults := PySem.Value.none, kwdefaults := PySem.Value.none, pyModule := PySem.Value.str (PySem.Str.ofString "law_uf060004_06") 489, code := PySem.Value.ref 313 } }),
  (318, { cls := PySem.Value.type "code", data := PySem.Data.fields #[PySem.Value.str (PySem.Str.ofString "_law_made_due") 561, PySem.Value.str (PySem.Str.ofString "_law_made_due") 562, PySem.Value.str (PySem.Str.ofString "/claim/cut.py") 563, PySem.Value.int 156 0, PySem.Value.int 2 0, PySem.Value.int 0 0, PySem.Value.int 0 0, PySem.Value.int 3 0, PySem.Value.ref 315, PySem.Value.bool true, PySem.Value.int 181 0, PySem.Value.ref 316, PySem.Value.none, PySem.Value.none, PySem.Value.none, PySem.Value.ref 317, PySem.Value.int 564 0, PySem.Value.int 156 0, PySem.Value.str (PySem.Str.ofString "/claim/cut.py") 565] }),
  (319, { cls := PySem.Value.type "function", data := PySem.Data.func { name := PySem.Str.ofString "_law_made_due", qualname := PySem.Str.ofString "_law_made_due", params := (dP 34), body := .stmts (dB 34), scope := (dS 34), globals := 3, closure := [], defaults := PySem.Value.none, kwdefaults := PySem.Value.none, pyModule := PySem.Value.str (PySem.Str.ofString "law_uf060004_06") 489, code := PySem.Value.ref 318 } }),
  (325, { cls := PySem.Value.type "code", data := PySem.Data.fields #[PySem.Value.str (PySem.Str.ofString "_law_put_due") 567, PySem.Value.str (PySem.Str.ofString "_law_put_due") 568, PySem.Value.str (PySem.Str.ofString "/claim/cut.py") 569, PySem.Value.int 162 0, PySem.Value.int 4 0, PySem.Value.int 0 0, PySem.Value.int 0 0, PySem.Value.int 3 0, PySem.Value.ref 320, PySem.Value.bool true, PySem.Value.int 181 0, PySem.Value.ref 321, PySem.Value.none, PySem.Value.ref 322, PySem.Value.ref 323, PySem.Value.ref 324, PySem.Value.int 574 0, PySem.Value.int 162 0, PySem.Value.str (PySem.Str.ofString "/claim/cut.py") 575] }),
  (326, { cls := PySem.Value.type "function", data := PySem.Data.func { name := PySem.Str.ofString "_law_put_due", qualname := PySem.Str.ofString "_law_put_due", params := (dP 35), body := .stmts (dB 35), scope := (dS 35), globals := 3, closure := [], defaults := PySem.Value.none, kwdefaults := PySem.Value.none, pyModule := PySem.Value.str (PySem.Str.ofString "law_uf060004_06") 489, code := PySem.Value.ref 325 } }),
  (332, { cls := PySem.Value.type "code", data := PySem.Data.fields #[PySem.Value.str (PySem.Str.ofString "_law_called") 577, PySem.Value.str (PySem.Str.ofString "_law_called") 578, PySem.Value.str (PySem.Str.ofString "/claim/cut.py") 579, PySem.Value.int 170 0, PySem.Value.int 5 0, PySem.Value.int 0 0, PySem.Value.int 0 0, PySem.Value.int 3 0, PySem.Value.ref 327, PySem.Value.bool true, PySem.Value.int 181 0, PySem.Value.ref 328, PySem.Value.none, PySem.Value.ref 329, PySem.Value.ref 330, PySem.Value.ref 331, PySem.Value.int 587 0, PySem.Value.int 170 0, PySem.Value.str (PySem.Str.ofString "/claim/cut.py") 588] }),
  (333, { cls := PySem.Value.type "function", data := PySem.Data.func { name := PySem.Str.ofString "_law_called", qualname := PySem.Str.ofString "_law_called", params := (dP 36), body := .stmts (dB 36), scope := (dS 36), globals := 3, closure := [], defaults := PySem.Value.none, kwdefaults := PySem.Value.none, pyModule := PySem.Value.str (PySem.Str.ofString "law_uf060004_06") 489, code := PySem.Value.ref 332 } }),
  (339, { cls := PySem.Value.type "code", data := PySem.Data.fields #[PySem.Value.str (PySem.Str.ofString "_law_behind") 590, PySem.Value.str (PySem.Str.ofString "_law_behind") 591, PySem.Value.str (PySem.Str.ofString "/claim/cut.py") 592, PySem.Value.int 187 0, PySem.Value.int 4 0, PySem.Value.int 0 0, PySem.Value.int 0 0, PySem.Value.int 3 0, PySem.Value.ref 334, PySem.Value.bool true, PySem.Value.int 181 0, PySem.Value.ref 335, PySem.Value.none, PySem.Value.ref 336, PySem.Value.ref 337, PySem.Value.ref 338, PySem.Value.int 600 0, PySem.Value.int 187 0, PySem.Value.str (PySem.Str.ofString "/claim/cut.py") 601] }),
  (340, { cls := PySem.Value.type "function", data := PySem.Data.func { name := PySem.Str.ofString "_law_behind", qualname := PySem.Str.ofString "_law_behind", params := (dP 37), body := .stmts (dB 37), scope := (dS 37), globals := 3, closure := [], defaults := PySem.Value.none, kwdefaults := PySem.Value.none, pyModule := PySem.Value.str (PySem.Str.ofString "law_uf060004_06") 489, code := PySem.Value.ref 339 } }),
  (346, { cls := PySem.Value.type "code", data := PySem.Data.fields #[PySem.Value.str (PySem.Str.ofString "_law_sizes_right") 603, PySem.Value.str (PySem.Str.ofString "_law_sizes_right") 604, PySem.Value.str (PySem.Str.ofString "/claim/cut.py") 605, PySem.Value.int 197 0, PySem.Value.int 1 0, PySem.Value.int 0 0, PySem.Value.int 0 0, PySem.Value.int 3 0, PySem.Value.ref 341, PySem.Value.bool true, PySem.Value.int 181 0, PySem.Value.ref 342, PySem.Value.none, PySem.Value.ref 343, PySem.Value.ref 344, PySem.Value.ref 345, PySem.Value.int 610 0, PySem.Value.int 197 0, PySem.Value.str (PySem.Str.ofString "/claim/cut.py") 611] }),
  (347, { cls := PySem.Value.type "function", data := PySem.Data.func { name := PySem.Str.ofString "_law_sizes_right", qualname := PySem.Str.ofString "_law_sizes_right", params := (dP 38), body := .stmts (dB 38), scope := (dS 38), globals := 3, closure := [], defaults := PySem.Value.none, kwdefaults := PySem.Value.none, pyModule := PySem.Value.str (PySem.Str.ofString "law_uf060004_06") 489, code := PySem.Value.ref 346 } }),
  (353, { cls := PySem.Value.type "code", data := PySem.Data.fields #[PySem.Value.str (PySem.Str.ofString "_law_sound") 613, PySem.Value.str (PySem.Str.ofString "_law_sound") 614, PySem.Value.str (PySem.Str.ofString "/claim/cut.py") 615, PySem.Value.int 202 0, PySem.Value.int 3 0, PySem.Value.int 0 0, PySem.Value.int 0 0, PySem.Value.int 3 0, PySem.Value.ref 348, PySem.Value.bool true, PySem.Value.int 181 0, PySem.Value.ref 349, PySem.Value.none, PySem.Value.ref 350, PySem.Value.ref 351, PySem.Value.ref 352, PySem.Value.int 621 0, PySem.Value.int 202 0, PySem.Value.str (PySem.Str.ofString "/claim/cut.py") 622] }),
  (354, { cls := PySem.Value.type "function", data := PySem.Data.func { name := PySem.Str.ofString "_law_sound", qualname := PySem.Str.ofString "_law_sound", params := (dP 39), body := .stmts (dB 39), scope := (dS 39), globals := 3, closure := [], defaults := PySem.Value.none, kwdefaults := PySem.Value.none, pyModule := PySem.Value.str (PySem.Str.ofString "law_uf060004_06") 489, code := PySem.Value.ref 353 } }),
  (360, { cls := PySem.Value.type "code", data := PySem.Data.fields #[PySem.Value.str (PySem.Str.ofString "_law_drawn_place") 624, PySem.Value.str (PySem.Str.ofString "_law_drawn_place") 625, PySem.Value.str (PySem.Str.ofString "/claim/cut.py") 626, PySem.Value.int 214 0, PySem.Value.int 1 0, PySem.Value.int 0 0, PySem.Value.int 0 0, PySem.Value.int 3 0, PySem.Value.ref 355, PySem.Value.bool true, PySem.Value.int 181 0, PySem.Value.ref 356, PySem.Value.none, PySem.Value.ref 357, PySem.Value.ref 358, PySem.Value.ref 359, PySem.Value.int 628 0, PySem.Value.int 214 0, PySem.Value.str (PySem.Str.ofString "/claim/cut.py") 629] }),
  (361, { cls := PySem.Value.type "function", data := PySem.Data.func { name := PySem.Str.ofString "_law_drawn_place", qualname := PySem.Str.ofString "_law_drawn_place", params := (dP 40), body := .stmts (dB 40), scope := (dS 40), globals := 3, closure := [], defaults := PySem.Value.none, kwdefaults := PySem.Value.none, pyModule := PySem.Value.str (PySem.Str.ofString "law_uf060004_06") 489, code := PySem.Value.ref 360 } }),
  (367, { cls := PySem.Value.type "code", data := PySem.Data.fields #[PySem.Value.str (PySem.Str.ofString "_law_drawn_field") 631, PySem.Value.str (PySem.Str.ofString "_law_drawn_field") 632, PySem.Value.str (PySem.Str.ofString "/claim/cut.py") 633, PySem.Value.int 216 0, PySem.Value.int 1 0, PySem.Value.int 0 0, PySem.Value.int 0 0, PySem.Value.int 3 0, PySem.Value.ref 362, PySem.Value.bool true, PySem.Value.int 181 0, PySem.Value.ref 363, PySem.Value.none, PySem.Value.ref 364, PySem.Value.ref 365, PySem.Value.ref 366, PySem.Value.int 635 0, PySem.Value.int 216 0, PySem.Value.str (PySem.Str.ofString "/claim/cut.py") 636] }),
  (368, { cls := PySem.Value.type "function", data := PySem.Data.func { name := PySem.Str.ofString "_law_drawn_field", qualname := PySem.Str.ofString "_law_drawn_field", params := (dP 41), body := .stmts (dB 41), scope := (dS 41), globals := 3, closure := [], defaults := PySem.Value.none, kwdefaults := PySem.Value.none, pyModule := PySem.Value.str (PySem.Str.ofString "law_uf060004_06") 489, code := PySem.Value.ref 367 } }),
  (372, { cls := PySem.Value.type "code", data := PySem.Data.fields #[PySem.Value.str (PySem.Str.ofString "law") 638, PySem.Value.str (PySem.Str.ofString "law") 639, PySem.Value.str (PySem.Str.ofString "/claim/cut.py") 640, PySem.Value.int 218 0, PySem.Value.int 1 0, PySem.Value.int 0 0, PySem.Value.int 0 0, PySem.Value.int 3 0, PySem.Value.ref 369, PySem.Value.bool true, PySem.Value.int 181 0, PySem.Value.ref 370, PySem.Value.none, PySem.Value.none, PySem.Value.none, PySem.Value.ref 371, PySem.Value.int 641 0, PySem.Value.int 218 0, PySem.Value.str (PySem.Str.ofString "/claim/cut.py") 642] }),
  (373, { cls := PySem.Value.type "function", data := PySem.Data.func { name := PySem.Str.ofString "law", qualname := PySem.Str.ofString "law", params := (dP 42), body := .stmts (dB 42), scope := (dS 42), globals := 3, closure := [], defaults := PySem.Value.none, kwdefaults := PySem.Value.none, pyModule := PySem.Value.str (PySem.Str.ofString "law_uf060004_06") 489, code := PySem.Value.ref 372 } })]
noncomputable def kas : List Addr := [3, 30, 31, 43, 44, 55, 56, 67, 68, 79, 80, 91, 92, 100, 101, 107, 108, 114, 115, 121, 122, 128, 129, 135, 136, 142, 143, 149, 150, 156, 157, 163, 164, 177, 178, 184, 185, 191, 192, 196, 197, 203, 204, 210, 211, 217, 218, 238, 239, 245, 246, 247, 248, 249, 250, 251, 259, 260, 266, 267, 271, 272, 278, 279, 285, 286, 292, 293, 299, 300, 306, 307, 313, 314, 318, 319, 325, 326, 332, 333, 339, 340, 346, 347, 353, 354, 360, 361, 367, 368, 372, 373]
noncomputable def fns : List (Str × Addr) := [("number_word", 101), ("link_word", 108), ("head_word", 115), ("is_link", 122), ("told_by", 129), ("fields_of", 136), ("heads", 143), ("is_whole", 150), ("need_things", 157), ("word_of", 164), ("_law_at", 260), ("_law_is_int", 267), ("_law_words_are", 272), ("_law_class", 279), ("_law_number", 286), ("_law_sized", 293), ("_law_new", 300), ("_law_things", 307), ("_law_word", 314), ("_law_made_due", 319), ("_law_put_due", 326), ("_law_called", 333), ("_law_behind", 340), ("_law_sizes_right", 347), ("_law_sound", 354), ("_law_drawn_place", 361), ("_law_drawn_field", 368), ("law", 373)]
noncomputable def exs : List (Str × Value) := [("Room", .ref 249), ("BadSize", .ref 44), ("BadThing", .ref 56), ("NoBox", .ref 68), ("NoField", .ref 80), ("NoRoom", .ref 92), ("SlideError", .ref 31), ("MOST_CELLS", .int 400 353), ("MOST_DOORS", .int 20 355)]
noncomputable def gl0 : List (Str × Value) := fns.map (fun p => (p.1, Value.ref p.2)) ++ (exs ++ bt)
noncomputable def Tb0 (P : PySem.Params) : Tbl := ⟨fns, stdB, stdT, kk P, [(249, Str.ofString "row"), (249, Str.ofString "filled")], [(249, Str.ofString "need_boxes", 185), (249, Str.ofString "need_box", 192), (249, Str.ofString "made", 197), (249, Str.ofString "put", 204), (249, Str.ofString "told", 211), (249, Str.ofString "places", 218), (249, Str.ofString "used", 239), (249, Str.ofString "cells", 246)], [("Room", 249, 178)], [("MOST_CELLS", 400), ("MOST_DOORS", 20)], [("BadSize", 44), ("BadThing", 56), ("NoBox", 68), ("NoField", 80), ("NoRoom", 92)], [("SlideError", 31)], false⟩
noncomputable abbrev cx0 (w : World) (s₁ : Shared) (sa : Addr) (ns : List Int) : Cx := ⟨PySem.Challenge.pw_uf060004_06, w, s₁.heap, fun a => if a = sa then some (intsV ns) else none, fun x => gl0.lookup x, [44, 56, 68, 80, 92]⟩
theorem glob0 {w : World} {s₁ : Shared} {p : Program} {loose : List Str} {mean : ExcName → Option Value} {mg mb : Str → Option Value} (T : Top p loose mean mg mb s₁.heap) (KX : (kk w.params).In s₁.heap) : GT.all s₁.heap gl0 := by
  refine ⟨glob_K T KX (by kernel_rfl), glob_K T KX (by kernel_rfl), glob_K T KX (by kernel_rfl), glob_K T KX (by kernel_rfl), glob_K T KX (by kernel_rfl), glob_K T KX (by kernel_rfl), glob_K T KX (by kernel_rfl), glob_K T KX (by kernel_rfl), glob_K T KX (by kernel_rfl), glob_K T KX (by kernel_rfl), glob_K T KX (by kernel_rfl), glob_K T KX (by kernel_rfl), glob_K T KX (by kernel_rfl), glob_K T KX (by kernel_rfl), glob_K T KX (by kernel_rfl), glob_K T KX (by kernel_rfl), glob_K T KX (by kernel_rfl), glob_K T KX (by kernel_rfl), glob_K T KX (by kernel_rfl), glob_K T KX (by kernel_rfl), glob_K T KX (by kernel_rfl), glob_K T KX (by kernel_rfl), glob_K T KX (by kernel_rfl), glob_K T KX (by kernel_rfl), glob_K T KX (by kernel_rfl), glob_K T KX (by kernel_rfl), glob_K T KX (by kernel_rfl), glob_K T KX (by kernel_rfl), glob_K T KX (by kernel_rfl), glob_K T KX (by kernel_rfl), glob_K T KX (by kernel_rfl), glob_K T KX (by kernel_rfl), glob_K T KX (by kernel_rfl), glob_K T KX (by kernel_rfl), glob_K T KX (by kernel_rfl), glob_K T KX (by kernel_rfl), glob_K T KX (by kernel_rfl),
    glob_B T KX (by kernel_rfl) (by decide +kernel) (by decide), glob_B T KX (by kernel_rfl) (by decide +kernel) (by decide), glob_B T KX (by kernel_rfl) (by decide +kernel) (by decide), glob_B T KX (by kernel_rfl) (by decide +kernel) (by decide), glob_B T KX (by kernel_rfl) (by decide +kernel) (by decide), glob_B T KX (by kernel_rfl) (by decide +kernel) (by decide), glob_B T KX (by kernel_rfl) (by decide +kernel) (by decide), glob_B T KX (by kernel_rfl) (by decide +kernel) (by decide), glob_B T KX (by kernel_rfl) (by decide +kernel) (by decide), glob_B T KX (by kernel_rfl) (by decide +kernel) (by decide), glob_B T KX (by kernel_rfl) (by decide +kernel) (by decide), trivial⟩
section
variable {w : World} {s₁ : Shared} {sa : Addr} {ns : List Int}
theorem d_number_word (KX : (kk w.params).In s₁.heap) : Def (cx0 w s₁ sa ns) 101 ["n"] (bodyOf (fdAt (kk w.params) 101)) (fdAt (kk w.params) 101).scope := def_of KX (by kernel_rfl) _ (arity1 fun a => by kernel_rfl)
theorem d_link_word (KX : (kk w.params).In s₁.heap) : Def (cx0 w s₁ sa ns) 108 ["place"] (bodyOf (fdAt (kk w.params) 108)) (fdAt (kk w.params) 108).scope := def_of KX (by kernel_rfl) _ (arity1 fun a => by kernel_rfl)
theorem d_head_word (KX : (kk w.params).In s₁.heap) : Def (cx0 w s₁ sa ns) 115 ["many", "marked"] (bodyOf (fdAt (kk w.params) 115)) (fdAt (kk w.params) 115).scope := def_of KX (by kernel_rfl) _ (arity2 fun a b => by kernel_rfl)
theorem d_is_link (KX : (kk w.params).In s₁.heap) : Def (cx0 w s₁ sa ns) 122 ["word"] (bodyOf (fdAt (kk w.params) 122)) (fdAt (kk w.params) 122).scope := def_of KX (by kernel_rfl) _ (arity1 fun a => by kernel_rfl)
theorem d_told_by (KX : (kk w.params).In s₁.heap) : Def (cx0 w s₁ sa ns) 129 ["word"] (bodyOf (fdAt (kk w.params) 129)) (fdAt (kk w.params) 129).scope := def_of KX (by kernel_rfl) _ (arity1 fun a => by kernel_rfl)
theorem d_fields_of (KX : (kk w.params).In s₁.heap) : Def (cx0 w s₁ sa ns) 136 ["head"] (bodyOf (fdAt (kk w.params) 136)) (fdAt (kk w.params) 136).scope := def_of KX (by kernel_rfl) _ (arity1 fun a => by kernel_rfl)
theorem d_heads (KX : (kk w.params).In s₁.heap) : Def (cx0 w s₁ sa ns) 143 ["row", "used"] (bodyOf (fdAt (kk w.params) 143)) (fdAt (kk w.params) 143).scope := def_of KX (by kernel_rfl) _ (arity2 fun a b => by kernel_rfl)
theorem d_is_whole (KX : (kk w.params).In s₁.heap) : Def (cx0 w s₁ sa ns) 150 ["thing"] (bodyOf (fdAt (kk w.params) 150)) (fdAt (kk w.params) 150).scope := def_of KX (by kernel_rfl) _ (arity1 fun a => by kernel_rfl)
theorem d_need_things (KX : (kk w.params).In s₁.heap) : Def (cx0 w s₁ sa ns) 157 ["things"] (bodyOf (fdAt (kk w.params) 157)) (fdAt (kk w.params) 157).scope := def_of KX (by kernel_rfl) _ (arity1 fun a => by kernel_rfl)
theorem d_word_of (KX : (kk w.params).In s₁.heap) : Def (cx0 w s₁ sa ns) 164 ["thing"] (bodyOf (fdAt (kk w.params) 164)) (fdAt (kk w.params) 164).scope := def_of KX (by kernel_rfl) _ (arity1 fun a => by kernel_rfl)
theorem d_law_at (KX : (kk w.params).In s₁.heap) : Def (cx0 w s₁ sa ns) 260 ["_law_script", "_law_place"] (bodyOf (fdAt (kk w.params) 260)) (fdAt (kk w.params) 260).scope := def_of KX (by kernel_rfl) _ (arity2 fun a b => by kernel_rfl)
theorem d_law_is_int (KX : (kk w.params).In s₁.heap) : Def (cx0 w s₁ sa ns) 267 ["_law_value"] (bodyOf (fdAt (kk w.params) 267)) (fdAt (kk w.params) 267).scope := def_of KX (by kernel_rfl) _ (arity1 fun a => by kernel_rfl)
theorem d_law_words_are (KX : (kk w.params).In s₁.heap) : Def (cx0 w s₁ sa ns) 272 ["_law_found", "_law_due"] (bodyOf (fdAt (kk w.params) 272)) (fdAt (kk w.params) 272).scope := def_of KX (by kernel_rfl) _ (arity2 fun a b => by kernel_rfl)
theorem d_law_class (KX : (kk w.params).In s₁.heap) : Def (cx0 w s₁ sa ns) 279 ["_law_error", "_law_word_here"] (bodyOf (fdAt (kk w.params) 279)) (fdAt (kk w.params) 279).scope := def_of KX (by kernel_rfl) _ (arity2 fun a b => by kernel_rfl)
theorem d_law_number (KX : (kk w.params).In s₁.heap) : Def (cx0 w s₁ sa ns) 286 ["_law_value"] (bodyOf (fdAt (kk w.params) 286)) (fdAt (kk w.params) 286).scope := def_of KX (by kernel_rfl) _ (arity1 fun a => by kernel_rfl)
theorem d_law_sized (KX : (kk w.params).In s₁.heap) : Def (cx0 w s₁ sa ns) 293 ["_law_size", "_law_doors"] (bodyOf (fdAt (kk w.params) 293)) (fdAt (kk w.params) 293).scope := def_of KX (by kernel_rfl) _ (arity2 fun a b => by kernel_rfl)
theorem d_law_new (KX : (kk w.params).In s₁.heap) : Def (cx0 w s₁ sa ns) 300 ["_law_size", "_law_doors"] (bodyOf (fdAt (kk w.params) 300)) (fdAt (kk w.params) 300).scope := def_of KX (by kernel_rfl) _ (arity2 fun a b => by kernel_rfl)
theorem d_law_things (KX : (kk w.params).In s₁.heap) : Def (cx0 w s₁ sa ns) 307 [] (bodyOf (fdAt (kk w.params) 307)) (fdAt (kk w.params) 307).scope := def_of KX (by kernel_rfl) _ (arity0 (by kernel_rfl))
theorem d_law_word (KX : (kk w.params).In s₁.heap) : Def (cx0 w s₁ sa ns) 314 ["_law_pick"] (bodyOf (fdAt (kk w.params) 314)) (fdAt (kk w.params) 314).scope := def_of KX (by kernel_rfl) _ (arity1 fun a => by kernel_rfl)
theorem d_law_made_due (KX : (kk w.params).In s₁.heap) : Def (cx0 w s₁ sa ns) 319 ["_law_many", "_law_picks"] (bodyOf (fdAt (kk w.params) 319)) (fdAt (kk w.params) 319).scope := def_of KX (by kernel_rfl) _ (arity2 fun a b => by kernel_rfl)
theorem d_law_put_due (KX : (kk w.params).In s₁.heap) : Def (cx0 w s₁ sa ns) 326 ["_law_call", "_law_place", "_law_field", "_law_pick"] (bodyOf (fdAt (kk w.params) 326)) (fdAt (kk w.params) 326).scope := def_of KX (by kernel_rfl) _ (arity4 fun a b c d => by kernel_rfl)
theorem d_law_called (KX : (kk w.params).In s₁.heap) : Def (cx0 w s₁ sa ns) 333 ["_law_room", "_law_call", "_law_things_here", "_law_place", "_law_field"] (bodyOf (fdAt (kk w.params) 333)) (fdAt (kk w.params) 333).scope := def_of KX (by kernel_rfl) _ (arity5 fun a b c d e => by kernel_rfl)
theorem d_law_behind (KX : (kk w.params).In s₁.heap) : Def (cx0 w s₁ sa ns) 340 ["_law_call", "_law_things_here", "_law_place", "_law_field"] (bodyOf (fdAt (kk w.params) 340)) (fdAt (kk w.params) 340).scope := def_of KX (by kernel_rfl) _ (arity4 fun a b c d => by kernel_rfl)
theorem d_law_sizes_right (KX : (kk w.params).In s₁.heap) : Def (cx0 w s₁ sa ns) 347 ["_law_script"] (bodyOf (fdAt (kk w.params) 347)) (fdAt (kk w.params) 347).scope := def_of KX (by kernel_rfl) _ (arity1 fun a => by kernel_rfl)
theorem d_law_sound (KX : (kk w.params).In s₁.heap) : Def (cx0 w s₁ sa ns) 354 ["_law_room", "_law_cells", "_law_used"] (bodyOf (fdAt (kk w.params) 354)) (fdAt (kk w.params) 354).scope := def_of KX (by kernel_rfl) _ (arity3 fun a b c => by kernel_rfl)
theorem d_law_drawn_place (KX : (kk w.params).In s₁.heap) : Def (cx0 w s₁ sa ns) 361 ["_law_cell"] (bodyOf (fdAt (kk w.params) 361)) (fdAt (kk w.params) 361).scope := def_of KX (by kernel_rfl) _ (arity1 fun a => by kernel_rfl)
theorem d_law_drawn_field (KX : (kk w.params).In s₁.heap) : Def (cx0 w s₁ sa ns) 368 ["_law_cell"] (bodyOf (fdAt (kk w.params) 368)) (fdAt (kk w.params) 368).scope := def_of KX (by kernel_rfl) _ (arity1 fun a => by kernel_rfl)
theorem d_law (KX : (kk w.params).In s₁.heap) : Def (cx0 w s₁ sa ns) 373 ["_law_script"] (bodyOf (fdAt (kk w.params) 373)) (fdAt (kk w.params) 373).scope := def_of KX (by kernel_rfl) _ (arity1 fun a => by kernel_rfl)
theorem d_Room_init (KX : (kk w.params).In s₁.heap) : Def (cx0 w s₁ sa ns) 178 ["self", "size", "doors"] (bodyOf (fdAt (kk w.params) 178)) (fdAt (kk w.params) 178).scope := def_of KX (by kernel_rfl) _ (arity3 fun a b c => by kernel_rfl)
theorem d_Room_need_boxes (KX : (kk w.params).In s₁.heap) : Def (cx0 w s₁ sa ns) 185 ["self", "things"] (bodyOf (fdAt (kk w.params) 185)) (fdAt (kk w.params) 185).scope := def_of KX (by kernel_rfl) _ (arity2 fun a b => by kernel_rfl)
theorem d_Room_need_box (KX : (kk w.params).In s₁.heap) : Def (cx0 w s₁ sa ns) 192 ["self", "place"] (bodyOf (fdAt (kk w.params) 192)) (fdAt (kk w.params) 192).scope := def_of KX (by kernel_rfl) _ (arity2 fun a b => by kernel_rfl)
theorem d_Room_made (KX : (kk w.params).In s₁.heap) : Def (cx0 w s₁ sa ns) 197 ["self", "things"] (bodyOf (fdAt (kk w.params) 197)) (fdAt (kk w.params) 197).scope := def_of KX (by kernel_rfl) _ (arity2 fun a b => by kernel_rfl)
theorem d_Room_put (KX : (kk w.params).In s₁.heap) : Def (cx0 w s₁ sa ns) 204 ["self", "place", "field", "thing"] (bodyOf (fdAt (kk w.params) 204)) (fdAt (kk w.params) 204).scope := def_of KX (by kernel_rfl) _ (arity4 fun a b c d => by kernel_rfl)
theorem d_Room_told (KX : (kk w.params).In s₁.heap) : Def (cx0 w s₁ sa ns) 211 ["self", "place"] (bodyOf (fdAt (kk w.params) 211)) (fdAt (kk w.params) 211).scope := def_of KX (by kernel_rfl) _ (arity2 fun a b => by kernel_rfl)
theorem d_Room_places (KX : (kk w.params).In s₁.heap) : Def (cx0 w s₁ sa ns) 218 ["self"] (bodyOf (fdAt (kk w.params) 218)) (fdAt (kk w.params) 218).scope := def_of KX (by kernel_rfl) _ (arity1 fun a => by kernel_rfl)
theorem d_Room_used (KX : (kk w.params).In s₁.heap) : Def (cx0 w s₁ sa ns) 239 ["self"] (bodyOf (fdAt (kk w.params) 239)) (fdAt (kk w.params) 239).scope := def_of KX (by kernel_rfl) _ (arity1 fun a => by kernel_rfl)
theorem d_Room_cells (KX : (kk w.params).In s₁.heap) : Def (cx0 w s₁ sa ns) 246 ["self"] (bodyOf (fdAt (kk w.params) 246)) (fdAt (kk w.params) 246).scope := def_of KX (by kernel_rfl) _ (arity1 fun a => by kernel_rfl)
end
theorem walk0 {w : World} {s₁ : Shared} {p : Program} {loose : List Str} {mean : ExcName → Option Value} {mg mb : Str → Option Value} (T : Top p loose mean mg mb s₁.heap) (hseer : s₁.heap.NoSeer) (KX : (kk w.params).In s₁.heap)
    {sa : Addr} {vs : List Value} {ns : List Int} (hW : Well w.params s₁.heap (.ref sa) (ofPy (PyData.list (ns.map PyData.int)))) (hL : s₁.heap.IsList sa vs.toArray) (hI : IntsAre vs ns) (hlen : ns.length ≤ 1000)
    (hX : ∀ p ∈ [(("BadSize" : Str), (44 : Addr)), ("BadThing", 56), ("NoBox", 68), ("NoField", 80), ("NoRoom", 92)], ExcCls p.2 s₁.heap) :
    CallP (cx0 w s₁ sa ns) 7 373 [.ref sa] (fun _ => none) fun v _ => v = .bool true := by
  have C : (cx0 w s₁ sa ns).OK := cx_ok T hseer (glob0 T KX) hW hL hI rfl _
  have TO : Tbl.OK (cx0 w s₁ sa ns) (Tb0 w.params) := tbl_ok KX rfl (by kernel_rfl) (by kernel_rfl) (by kernel_rfl) (by kernel_rfl) (by kernel_rfl) (by kernel_rfl) (by kernel_rfl) (by kernel_rfl) (by kernel_rfl) (by kernel_rfl) hX (by kernel_rfl) (by kernel_rfl) (by kernel_rfl)
  have hx : (cx0 w s₁ sa ns).exs = [44, 56, 68, 80, 92] := rfl
  have s_numw : ∀ n, Fn1 (cx0 w s₁ sa ns) (n + 1) 101 fun w => .int (2 * w) := fun n p H Q h => call_intro C TO (d_number_word KX) (rest := []) (ms := m_number_word) (by decide) (by kernel_rfl) (by kernel_rfl) rfl (numw_ms (Q := nx Q) h)
  have s_link : ∀ n, Fn1 (cx0 w s₁ sa ns) (n + 1) 108 fun w => .int (2 * w + 1) := fun n p H Q h => call_intro C TO (d_link_word KX) (rest := []) (ms := m_link_word) (by decide) (by kernel_rfl) (by kernel_rfl) rfl (linkw_ms (Q := nx Q) h)
  have s_headw : ∀ n, HeadSp (cx0 w s₁ sa ns) (n + 1) := fun n p H Q h => call_intro C TO (d_head_word KX) (rest := []) (ms := m_head_word) (by decide) (by kernel_rfl) (by kernel_rfl) rfl (headw_ms (Q := nx Q) h)
  have s_islink : ∀ n, Fn1 (cx0 w s₁ sa ns) (n + 1) 122 fun w => .bool (w.fmod 2 == 1) := fun n p H Q h => call_intro C TO (d_is_link KX) (rest := []) (ms := m_is_link) (by decide) (by kernel_rfl) (by kernel_rfl) rfl (islink_ms (Q := nx Q) h)
  have s_told : ∀ n, Fn1 (cx0 w s₁ sa ns) (n + 1) 129 fun w => .int (w.fdiv 2) := fun n p H Q h => call_intro C TO (d_told_by KX) (rest := []) (ms := m_told_by) (by decide) (by kernel_rfl) (by kernel_rfl) rfl (told_ms (Q := nx Q) h)
  have s_fields : ∀ n, Fn1 (cx0 w s₁ sa ns) (n + 1) 136 fun w => .int (w.fdiv 4) := fun n p H Q h => call_intro C TO (d_fields_of KX) (rest := []) (ms := m_fields_of) (by decide) (by kernel_rfl) (by kernel_rfl) rfl (fields_ms (Q := nx Q) h)
  have s_heads : ∀ n, HeadsSpec (cx0 w s₁ sa ns) (n + 2) := fun n row xs B H Q h1 h2 h3 h4 => call_intro C TO (d_heads KX) (rest := ["found", "at"]) (ms := m_heads) (by decide) (by kernel_rfl) (by kernel_rfl) rfl (heads_ms (Q := nx Q) (s_fields n) h1 h2 h3 h4)
  have s_at : ∀ n, AtSpec (cx0 w s₁ sa ns) (n + 1) sa ns := fun n p H Q h1 h2 h3 => call_intro C TO (d_law_at KX) (rest := []) (ms := m_law_at) (by decide) (by kernel_rfl) (by kernel_rfl) rfl (at_ms (Q := nx Q) h1 hlen h2 h3)
  have s_int : ∀ n, IntSp (cx0 w s₁ sa ns) (n + 1) := fun n v H Q h => call_intro C TO (d_law_is_int KX) (rest := []) (ms := m_law_is_int) (by decide) (by kernel_rfl) (by kernel_rfl) rfl (isint_ms (Q := nx Q) h)
  have s_words : ∀ n, WordsSpec (cx0 w s₁ sa ns) (n + 2) := fun n fa da xs H Q h1 h2 h3 h4 => call_intro C TO (d_law_words_are KX) (rest := []) (ms := m_law_words_are) (by decide) (by kernel_rfl) (by kernel_rfl) rfl (words_ms (Q := nx Q) (s_int n) h1 h2 h3 h4)
  have s_whole : ∀ n, WholeSp (cx0 w s₁ sa ns) (n + 1) := fun n v H Q h1 h2 => call_intro C TO (d_is_whole KX) (rest := []) (ms := m_is_whole) (by decide) (by kernel_rfl) (by kernel_rfl) rfl (whole_ms (Q := nx Q) h1 h2)
  have s_wordof : ∀ n, WordOfSpec (cx0 w s₁ sa ns) (n + 2) := fun n b t H Q h1 h2 => call_intro C TO (d_word_of KX) (rest := []) (ms := m_word_of) (by decide) (by kernel_rfl) (by kernel_rfl) rfl (wordof_ms (Q := nx Q) (s_numw n) (s_link n) h1 h2)
  have s_needt : ∀ n, NeedTSpec (cx0 w s₁ sa ns) (n + 2) := fun n la vs H Q h1 h2 h3 h4 h5 => call_introX C TO (d_need_things KX) (rest := ["thing"]) (ms := m_need_things) (by decide) (by kernel_rfl) (by kernel_rfl) rfl (needT_ms (s_whole n) h1 h2 h3 h4 h5)
  have s_pl : ∀ n, PlSpec (cx0 w s₁ sa ns) (n + 3) := fun n N rm dx ra B H Q h1 h2 => call_intro C TO (d_Room_places KX) (rest := []) (ms := m_Room_places) (by decide) (by kernel_rfl) (by kernel_rfl) rfl (places_ms (Q := nx Q) (s_heads n) h1 h2)
  have s_needb : ∀ n, NeedBSpec (cx0 w s₁ sa ns) (n + 4) := fun n N rm dx ra la B vs ts H Q h1 h2 h3 h4 h5 h6 => call_introX C TO (d_Room_need_boxes KX) (rest := ["known", "thing"]) (ms := m_Room_need_boxes) (by decide) (by kernel_rfl) (by kernel_rfl) rfl (needB_ms (s_pl n) h1 h2 h3 h4 h5 h6)
  have s_needx : ∀ n, NeedXSpec (cx0 w s₁ sa ns) (n + 4) := fun n N rm dx ra B v H Q h1 h2 h3 h4 => call_introX C TO (d_Room_need_box KX) (rest := []) (ms := m_Room_need_box) (by decide) (by kernel_rfl) (by kernel_rfl) rfl (needX_ms (s_whole (n + 2)) (s_pl n) h1 h2 h3 h4)
  have s_used : ∀ n, UsedSpec (cx0 w s₁ sa ns) (n + 1) := fun n N rm dx ra B H Q h1 h2 => call_intro C TO (d_Room_used KX) (rest := []) (ms := m_Room_used) (by decide) (by kernel_rfl) (by kernel_rfl) rfl (used_ms (Q := nx Q) h1 h2)
  have s_cells : ∀ n, CellsSpec (cx0 w s₁ sa ns) (n + 1) := fun n N rm dx ra B H Q h1 h2 => call_intro C TO (d_Room_cells KX) (rest := []) (ms := m_Room_cells) (by decide) (by kernel_rfl) (by kernel_rfl) rfl (cells_ms (Q := nx Q) h1 h2)
  have s_rtold : ∀ n, ToldSpec (cx0 w s₁ sa ns) (n + 5) := fun n N rm dx ra B v H Q h1 h2 h3 h4 => call_introX C TO (d_Room_told KX) (rest := ["found", "word"]) (ms := m_Room_told) (by decide) (by kernel_rfl) (by kernel_rfl) rfl (told_ms' (s_needx n) (s_fields (n + 3)) (s_islink (n + 3)) (s_told (n + 3)) h1 h2 h3 h4)
  have s_put : ∀ n, PutSpec (cx0 w s₁ sa ns) (n + 5) := fun n N rm dx ra B v f t' H Q h1 h2 h3 h4 h5 h6 h7 h8 h9 => call_introX C TO (d_Room_put KX) (rest := []) (ms := m_Room_put) (by decide) (by kernel_rfl) (by kernel_rfl) rfl (put_ms (s_needx n) (s_whole (n + 3)) (s_fields (n + 3)) (s_needt (n + 2)) (s_needb n) (s_wordof (n + 2)) h1 h2 h3 h4 h5 h6 h7 h8 h9)
  have s_made : ∀ n, MadeSpec (cx0 w s₁ sa ns) (n + 5) := fun n N rm dx ra la B vs H Q h1 h2 h3 h4 h5 h6 h7 h8 => call_introX C TO (d_Room_made KX) (rest := ["place", "behind", "words"]) (ms := m_Room_made) (by decide) (by kernel_rfl) (by kernel_rfl) rfl (made_ms (s_needt (n + 2)) (s_needb n) (s_headw (n + 3)) (s_wordof (n + 2)) h1 h2 h3 h4 h5 h6 h7 h8)
  have s_init : ∀ n, InitSpec (cx0 w s₁ sa ns) (n + 2) := fun n rm dx u w' H Q h1 h2 h3 h4 h5 h6 => call_introX C TO (d_Room_init KX) (rest := []) (ms := m_Room_init) (by decide) (by kernel_rfl) (by kernel_rfl) rfl (init_ms (s_whole n) (s_headw n) h1 h2 h3 h4 h5 h6)
  have s_class : ∀ n, ClassSpec (cx0 w s₁ sa ns) (n + 1) := fun n e D x H Q h1 h2 h3 => call_intro C (Tbl.OK.qt TO) (d_law_class KX) (rest := ["_law_many"]) (ms := m_law_class) (by decide) (by kernel_rfl) (by kernel_rfl) rfl (class_ms (Q := nx Q) hx h1 h2 h3)
  have s_num : ∀ n, NumSp (cx0 w s₁ sa ns) (n + 1) := fun n v H Q h1 h2 => call_intro C TO (d_law_number KX) (rest := []) (ms := m_law_number) (by decide) (by kernel_rfl) (by kernel_rfl) rfl (number_ms (Q := nx Q) h1 h2)
  have s_sized : ∀ n, SizedSpec (cx0 w s₁ sa ns) (n + 2) := fun n u w' H Q h1 h2 h3 => call_intro C TO (d_law_sized KX) (rest := []) (ms := m_law_sized) (by decide) (by kernel_rfl) (by kernel_rfl) rfl (sized_ms (Q := nx Q) (s_num n) h1 h2 h3)
  have s_new : ∀ n, NewSpec (cx0 w s₁ sa ns) (n + 4) := fun n u w' H Q h1 h2 h3 h4 => call_intro C TO (d_law_new KX) (rest := ["_law_room", "_law_error", "_law_due"]) (ms := m_law_new) (by decide) (by kernel_rfl) (by kernel_rfl) rfl (new_ms (Q := nx Q) (Nat.succ_pos _) (s_class (n + 2)) (s_init n) (s_cells (n + 2)) (s_used (n + 2)) (s_words (n + 1)) hx h1 h2 h3 h4)
  have s_things : ∀ n, ThingsSpec (cx0 w s₁ sa ns) (n + 1) := fun n H Q h => call_intro C TO (d_law_things KX) (rest := ["_law_some"]) (ms := m_law_things) (by decide) (by kernel_rfl) (by kernel_rfl) rfl (things_ms (Q := nx Q) h)
  have s_word : ∀ n, WordSp (cx0 w s₁ sa ns) (n + 1) := fun n k H Q h => call_intro C TO (d_law_word KX) (rest := []) (ms := m_law_word) (by decide) (by kernel_rfl) (by kernel_rfl) rfl (word_ms (Q := nx Q) h)
  have s_md : ∀ n, MadeDueSpec (cx0 w s₁ sa ns) (n + 2) := fun n m pa ks H Q h1 h2 h3 => call_intro C TO (d_law_made_due KX) (rest := ["_law_words", "_law_word_here"]) (ms := m_law_made_due) (by decide) (by kernel_rfl) (by kernel_rfl) rfl (madedue_ms (Q := nx Q) (s_word n) h1 h2 h3)
  have s_pd : ∀ n, PutDueSpec (cx0 w s₁ sa ns) (n + 2) := fun n call v f k H Q h1 h2 h3 => call_intro C TO (d_law_put_due KX) (rest := []) (ms := m_law_put_due) (by decide) (by kernel_rfl) (by kernel_rfl) rfl (putdue_ms (Q := nx Q) (s_word n) (s_num n) h1 h2 h3)
  have s_c0 : ∀ n, Called0 (cx0 w s₁ sa ns) (n + 6) := fun n rm dx ra la vs v f H Q h1 h2 h3 h4 h5 h6 h7 h8 h9 h10 => call_intro C TO (d_law_called KX) (rest := ["_law_found", "_law_error"]) (ms := m_law_called) (by decide) (by kernel_rfl) (by kernel_rfl) rfl (called0_ms (Q := nx Q) (s_class (n + 4)) hx (s_made n) h1 h2 h3 h4 h7 h8 (fun ts g1 g2 g3 => h9 ts g1 g2 (by rw [pl_B0] at g3; omega)) fun ts g1 g2 g3 ra' tb H' g4 g5 g6 g7 => h10 ts g1 g2 (by rw [pl_B0] at g3; omega) ra' tb H' g4 g5 g6 (by rw [g7, pl_B0]; rfl))
  have s_c1 : ∀ n, Called1 (cx0 w s₁ sa ns) (n + 6) := fun n rm dx ra la v f t' H Q h1 h2 h3 h4 h5 h6 h7 h8 h9 h10 => call_intro C TO (d_law_called KX) (rest := ["_law_found", "_law_error"]) (ms := m_law_called) (by decide) (by kernel_rfl) (by kernel_rfl) rfl (called1_ms (Q := nx Q) (s_class (n + 4)) hx (s_put n) h1 h2 h3 h4 (show 1 ≤ 1000 by decide) h5 h6 h7 h8 h9 h10)
  have s_c2 : ∀ n, Called2 (cx0 w s₁ sa ns) (n + 6) := fun n rm dx ra la v f H Q h1 h2 h3 h4 h5 => call_intro C TO (d_law_called KX) (rest := ["_law_found", "_law_error"]) (ms := m_law_called) (by decide) (by kernel_rfl) (by kernel_rfl) rfl (called2_ms (Q := nx Q) (s_class (n + 4)) hx (s_rtold n) h1 h2 h4 h5)
  have s_b0 : ∀ n, Behind0 (cx0 w s₁ sa ns) (n + 1) := fun n la vs ts v f H Q h1 h2 h3 h4 h5 h6 h7 h8 => call_intro C TO (d_law_behind KX) (rest := ["_law_cells", "_law_words", "_law_thing"]) (ms := m_law_behind) (by decide) (by kernel_rfl) (by kernel_rfl) rfl (behind_ms (Q := nx Q) (ts := ts) h1 h2 h3 h4 (fun _ => ⟨h5, h8⟩) (fun q => absurd rfl q))
  have s_b1 : ∀ n, Behind1 (cx0 w s₁ sa ns) (n + 1) := fun n la vs k j fl t H Q h1 h2 h3 h4 h5 h6 => call_intro C TO (d_law_behind KX) (rest := ["_law_cells", "_law_words", "_law_thing"]) (ms := m_law_behind) (by decide) (by kernel_rfl) (by kernel_rfl) rfl (behind_ms (Q := nx Q) (ts := [t]) h1 (show 1 ≤ 1000 by decide) h2 (fun t' ht => by rw [List.mem_singleton.mp ht]; exact h3) (fun q => absurd q (by decide)) (fun _ => ⟨rfl, k, fl, j, t, rfl, h4, rfl, h5, rfl, h6⟩))
  have s_sd : ∀ n, SoundSpec (cx0 w s₁ sa ns) (n + 6) := fun n rm dx ra ca B H Q h1 h2 h3 h4 => call_intro C TO (d_law_sound KX) (rest := ["_law_places", "_law_made"]) (ms := m_law_sound) (by decide) (by kernel_rfl) (by kernel_rfl) rfl (sound_ms (Q := nx Q) (s_cells (n + 4)) (s_used (n + 4)) (s_pl (n + 2)) (s_words (n + 3)) (s_made n) (s_rtold n) h1 h2 h3 h4)
  have s_dp : ∀ n, Drawn_placeSpec (cx0 w s₁ sa ns) (n + 1) := fun n c H Q h => call_intro C TO (d_law_drawn_place KX) (rest := []) (ms := m_law_drawn_place) (by decide) (by kernel_rfl) (by kernel_rfl) rfl (drawn_place_ms (Q := nx Q) fun v H' x j => j.nx (h v H' x j))
  have s_df : ∀ n, Drawn_fieldSpec (cx0 w s₁ sa ns) (n + 1) := fun n c H Q h => call_intro C TO (d_law_drawn_field KX) (rest := []) (ms := m_law_drawn_field) (by decide) (by kernel_rfl) (by kernel_rfl) rfl (drawn_field_ms (Q := nx Q) fun v H' x j => j.nx (h v H' x j))
  have s_sz : ∀ n, SizesSpec (cx0 w s₁ sa ns) (n + 5) sa ns := fun n H Q h1 h2 => call_intro C TO (d_law_sizes_right KX) (rest := ["_law_sizes", "_law_size", "_law_doors"]) (ms := m_law_sizes_right) (by decide) (by kernel_rfl) (by kernel_rfl) rfl (sizes_ms (Q := nx Q) (s_at (n + 3)) (s_new n) (s_sized (n + 2)) h1 h2)
  refine call_intro C TO (d_law KX) (rest := ["_law_room", "_law_call", "_law_pick", "_law_place", "_law_field", "_law_many", "_law_at_here", "_law_things_here", "_law_picks", "_law_due", "_law_handed", "_law_found", "_law_told"]) (ms := m_law6) (by decide) (by kernel_rfl) (by kernel_rfl) rfl ?_
  exact law_ms (n := 6) ⟨by decide, if_pos rfl, s_at 5, s_int 5, s_things 5, s_pd 4, s_md 4, s_c0 0, s_c1 0, s_c2 0, s_b0 5, s_b1 5, s_sd 0, s_dp 5, s_df 5, s_sz 1, s_init 3, s_made 1⟩ rfl fun _ => rfl
end Mine

set_option maxHeartbeats 0 in
set_option maxRecDepth 1000000 in
theorem Mine.said : PySem.W.OpenLaw.wellSaid PySem.Challenge.rw_uf060004_06 = true := by kernel_rfl
theorem PySem.Challenge.cw_uf060004_06_holds : PySem.Challenge.rw_uf060004_06.Holds := by
  w_on
  refine PySem.W.holds_law Mine.said fun said => ?_
  o_head (kHook Mine.kk Mine.kas (fun _ => rfl))
  (case hw => w_witness2)
  intro w s₀ s₁ mg mb G Y fa o pm cd doc dV kV ho hd hcd hD hmg hg args vals as hpre hlay hrd hwl hlo
  have KX := kIn_of Y
  refine Ground.open G ?_
  intro T B D TE TW
  wrow_args hpre hlay hrd hwl hlo
  refine enter_call ?_
  rename_i ns _ _ hlay _ _ _ _ sa vs _ hL _ hW _ hI _ hlen _
  have hfa : fa = 373 := by
    have h1 : mg ("law" : Str) = some (.ref fa) := hmg
    have h2 : mg ("law" : Str) = some (.ref 373) := mg_of KX T.g (by kernel_rfl)
    rw [h1] at h2; cases h2; rfl
  subst hfa
  refine Mine.law_end (cx := Mine.cx0 w s₁ sa ns) rfl hg (by decide) (Mine.walk0 T (T.seer (by decide +kernel)) KX hW hL hI (by omega) ?_)
  intro p hp
  simp only [List.mem_cons, List.not_mem_nil, or_false] at hp
  rcases hp with rfl | rfl | rfl | rfl | rfl
  · exact Mine.excls T KX (x := "BadSize") (by kernel_rfl) (by kernel_rfl)
  · exact Mine.excls T KX (x := "BadThing") (by kernel_rfl) (by kernel_rfl)
  · exact Mine.excls T KX (x := "NoBox") (by kernel_rfl) (by kernel_rfl)
  · exact Mine.excls T KX (x := "NoField") (by kernel_rfl) (by kernel_rfl)
  · exact Mine.excls T KX (x := "NoRoom") (by kernel_rfl) (by kernel_rfl)

