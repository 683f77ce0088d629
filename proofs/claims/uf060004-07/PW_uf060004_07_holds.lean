import PyProof.Rows.All
import Wide.All
import OpenK.KWalk
import Wide.FinOn
import KE.IntBitsLaws
import PyProof.Comp
import PyProof.CompFree
import PyProof.SliceList
import PyProof.Cells
import PyProof.Seq
import PyProof.RangeIter
import PyProof.Rules3
import PyProof.ListIndex
import PyProof.PlainList
import PyProof.Rows.Globals
import PyProof.NoPylong
import PyProof.DictRoads
import PyProof.DictTable
import PyProof.SeqI3
import PyProof.P3Statements
import PyProof.ListOps
import PyProof.WalkInts
import PyProof.EqAt
import PyProof.IsiPairs
import PyProof.IsiHeapPairs
import PyProof.Rows.RuleB_mul
import PyProof.Rows.RuleB_mod
import PyProof.Rows.RuleB_floordiv
import PyProof.Rows.RuleB_pow
import PyProof.Rows.RuleC_int
import PyProof.Rows.RuleC_bool
import PyProof.Rows.RuleU_int
import PyProof.Rows.IntRules
import PyProof.Rows.StrRules
import PyProof.IsRules
import PyProof.Rows.StrTemp
import PyProof.Rows.TupSub
import PyProof.Rows.ListMul
import PyProof.Conv_int_bool
import PyProof.Rows.Tup
import PyProof.Rows.Chain
import PyProof.Rows.Nodes
import PyProof.EqKinds
import PyProof.Rows.RuleIs
import PyProof.Rows.EqDataRows
import PyProof.ListCopy
import PyProof.SeqI
import PyProof.FactsAll.list_0
import PyProof.FactsAll.list_3
import PyProof.CallRoads
import PyProof.Rows.TupMore
import PyProof.Rows.CatchBare
import PyProof.RulesDelMore
import PyProof.RangeFor
import PyProof.WalksMore
import PyProof.CompMap
import PyProof.StationsW
import PyProof.ExcBaseAll.ValueError
import PyProof.CompUse
import PyProof.AssignAttr
import PyProof.Rows.Walk
import PySem.Challenge.RW_uf060004_07
set_option Elab.async false
section
namespace Mine
open PySem PyProof.Rows

inductive V where
  | unb | none | bool (b : Bool) | int (i : Int) | str (x : Str) | ref (a : Addr) | other | exc (C : Addr)

noncomputable def abs : Value → V
  | .none => .none
  | .bool b => .bool b
  | .int i _ => .int i
  | .str x _ => .str x
  | .ref a => .ref a
  | _ => .other

inductive O where
  | list (vs : List V)
  | tup (vs : List V)
  | inst (C dx : Addr)
  | flds (fs : List (Str × V))
  | dct (kvs : List (Int × V))

noncomputable def keyS (e : DictEntry) : Option Str := match e.key with
  | .str x _ => some x
  | _ => none

noncomputable def Rep (h : Heap) (a : Addr) : O → Prop
  | .list vs => ∃ items n, h.get? a = some { cls := .type "list", data := .seq items n } ∧ items.toList.map abs = vs
  | .tup vs => ∃ items n, h.get? a = some { cls := .type "tuple", data := .seq items n } ∧ items.toList.map abs = vs
  | .inst C dx => h.get? a = some (PySem.W.instObj C dx)
  | .flds fs => ∃ es n, h.get? a = some (PySem.W.dictOf es n) ∧ es.map (fun e => (keyS e, abs e.val)) = fs.map fun p => (some p.1, p.2)
  | .dct kvs => ∃ p w, ∃ ws : List (Int × Value), h.DictOf (intKind p w) a ws ∧ ws.map (fun q => (q.1, abs q.2)) = kvs

theorem Rep.get {h : Heap} {a : Addr} : ∀ {o : O}, Rep h a o → ∃ ob, h.get? a = some ob
  | .list _, ⟨_, _, e, _⟩ => ⟨_, e⟩
  | .tup _, ⟨_, _, e, _⟩ => ⟨_, e⟩
  | .inst _ _, e => ⟨_, e⟩
  | .flds _, ⟨_, _, e, _⟩ => ⟨_, e⟩
  | .dct _, ⟨_, _, _, ⟨o, _, _, e, _⟩, _⟩ => ⟨o, e⟩

theorem Rep.of_eq {h h' : Heap} {a : Addr} (e : h'.get? a = h.get? a) : ∀ {o : O}, Rep h a o → Rep h' a o
  | .list _, ⟨i, n, q, m⟩ => ⟨i, n, e.trans q, m⟩
  | .tup _, ⟨i, n, q, m⟩ => ⟨i, n, e.trans q, m⟩
  | .inst _ _, q => Eq.trans e q
  | .flds _, ⟨i, n, q, m⟩ => ⟨i, n, e.trans q, m⟩
  | .dct _, ⟨p, w, ws, ⟨o, es, ep, q, r⟩, m⟩ => ⟨p, w, ws, ⟨o, es, ep, e.trans q, r⟩, m⟩

theorem Pairs.any {p p' : Program} {w w' : World} {es : List DictEntry} {ws : List (Int × Value)} (h : Pairs (intKind p w) es ws) : Pairs (intKind p' w') es ws := by
  induction h with
  | nil => exact .nil
  | cons a b _ ih => exact .cons a b ih
theorem DictOf.any {p p' : Program} {w w' : World} {h : Heap} {a : Addr} {ws : List (Int × Value)} (d : h.DictOf (intKind p w) a ws) : h.DictOf (intKind p' w') a ws := let ⟨o, es, ep, e, x, y, z, u, v⟩ := d; ⟨o, es, ep, e, x, y, z, Pairs.any u, v⟩
theorem Rep.keep {h h' : Heap} {a : Addr} (k : ∀ o, h.get? a = some o → h'.get? a = some o) {o : O} (r : Rep h a o) : Rep h' a o := by
  obtain ⟨ob, e⟩ := r.get
  exact r.of_eq ((k _ e).trans e.symm)

noncomputable abbrev HP := Addr → Option O

noncomputable def upd (H : HP) (a : Addr) (o : O) : HP := fun b => if b = a then some o else H b

theorem upd_same (H : HP) (a : Addr) (o : O) : upd H a o a = some o := by simp [upd]
theorem upd_ne {H : HP} {a b : Addr} (o : O) (h : b ≠ a) : upd H a o b = H b := by simp [upd, h]
theorem upd_upd (H : HP) (a : Addr) (o o' : O) : upd (upd H a o) a o' = upd H a o' := by
  funext b; by_cases h : b = a <;> simp [upd, h]

noncomputable def LE (H H' : HP) : Prop := ∀ a o, H a = some o → H' a = some o
theorem LE.refl (H : HP) : LE H H := fun _ _ e => e
theorem LE.trans {A B C : HP} (x : LE A B) (y : LE B C) : LE A C := fun a o e => y a o (x a o e)
theorem LE.upd {H H' : HP} (x : LE H H') (a : Addr) (o : O) : LE (Mine.upd H a o) (Mine.upd H' a o) := by
  intro b o' e
  by_cases h : b = a
  · subst h; rw [upd_same] at e ⊢; exact e
  · rw [upd_ne _ h] at e ⊢; exact x _ _ e
theorem LE.fresh {H : HP} {a : Addr} (h : H a = Option.none) (o : O) : LE H (Mine.upd H a o) := by
  intro b o' e
  by_cases hb : b = a
  · subst hb; rw [h] at e; cases e
  · rw [upd_ne _ hb]; exact e

structure Cx where
  prog : Program
  w : World
  base : Heap
  Z : Addr → Option (List V)
  gl : Str → Option Value

noncomputable def GlobAt (h : Heap) (x : Str) (v : Value) : Prop :=
  (∃ mg, h.Ns mainGlobals mg ∧ mg x = some v) ∨ ∃ mg mb, h.Ns mainGlobals mg ∧ mg x = none ∧ h.Ns builtinsNs mb ∧ mb x = some v

structure Cx.OK (cx : Cx) : Prop where
  nolimit : cx.base.NoLimit
  seer : cx.base.NoSeer
  tree : cx.prog.given.tree = none
  glob : ∀ x v, cx.gl x = some v → GlobAt cx.base x v
  z : ∀ a vs, cx.Z a = some vs → Rep cx.base a (.list vs)

noncomputable def getL : List V → Nat → V
  | [], _ => .unb
  | a :: _, 0 => a
  | _ :: l, n + 1 => getL l n
noncomputable def setL : List V → Nat → V → List V
  | [], _, _ => []
  | _ :: l, 0, v => v :: l
  | a :: l, n + 1, v => a :: setL l n v

theorem setL_length : ∀ (l : List V) (i : Nat) (v : V), (setL l i v).length = l.length
  | [], _, _ => rfl
  | _ :: _, 0, _ => rfl
  | _ :: l, n + 1, v => by simp [setL, setL_length l n v]
theorem getL_setL_same : ∀ (l : List V) (i : Nat) (v : V), i < l.length → getL (setL l i v) i = v
  | _ :: _, 0, _, _ => rfl
  | _ :: l, n + 1, v, h => getL_setL_same l n v (Nat.lt_of_succ_lt_succ h)
theorem getL_setL_ne : ∀ (l : List V) (i j : Nat) (v : V), i ≠ j → getL (setL l i v) j = getL l j
  | [], _, _, _, _ => rfl
  | _ :: _, 0, 0, _, h => absurd rfl h
  | _ :: _, 0, _ + 1, _, _ => rfl
  | _ :: _, _ + 1, 0, _, _ => rfl
  | _ :: l, n + 1, m + 1, v, h => getL_setL_ne l n m v (fun e => h (by rw [e]))

structure Fm where
  env : Env
  names : List (Option Str)
  l : List Env

noncomputable def SO (o o' : Obj) : Prop := o' = o ∨ ((∃ es ep, o.data = .dict es ep) ∧ ∃ sl, o' = { o with slots := sl })
theorem SO.refl (o : Obj) : SO o o := .inl rfl
theorem SO.data {o o' : Obj} (x : SO o o') : o'.data = o.data := by
  rcases x with rfl | ⟨_, sl, rfl⟩ <;> rfl
theorem SO.trans {o o' o'' : Obj} (x : SO o o') (y : SO o' o'') : SO o o'' := by
  rcases x with rfl | ⟨d, sl, rfl⟩
  · exact y
  · rcases y with rfl | ⟨_, sl', rfl⟩
    · exact .inr ⟨d, sl, rfl⟩
    · exact .inr ⟨d, sl', rfl⟩
theorem SO.same {o o' : Obj} (x : SO o o') (h : ∀ es ep, o.data ≠ .dict es ep) : o' = o := by
  rcases x with rfl | ⟨⟨es, ep, d⟩, _⟩
  · rfl
  · exact absurd d (h es ep)
theorem Ns.so {h h' : Heap} {a : Addr} {m : Str → Option Value} (x : h.Ns a m) (k : ∀ o, h.get? a = some o → ∃ o', h'.get? a = some o' ∧ SO o o') : h'.Ns a m := by
  obtain ⟨o, es, ep, e, hd, r⟩ := x
  obtain ⟨o', e', so⟩ := k o e
  exact ⟨o', es, ep, e', so.data.trans hd, r⟩
noncomputable def FrL (b : Heap) (H : HP) (h : Heap) (l : List Env) : Prop := ∀ e ∈ l, e.scope.kind ≠ .module ∧ ∃ L o es ep, e.frame = some L ∧ b.get? L = none ∧ H L = none ∧ h.get? L = some o ∧ o.data = .dict es ep
noncomputable def Fm.fr (fm : Fm) (a : Addr) : Prop := ∃ e ∈ fm.l, e.frame = some a

noncomputable def Fm.own (fm : Fm) (a : Addr) : Prop := a = fm.env.locals ∨ ∃ x, fm.env.cells.lookup x = some a

noncomputable def VarAt (env : Env) (h : Heap) (x : Str) (v : Option Value) : Prop :=
  (env.kindOf x = some .local ∧ ∃ m, h.Ns env.locals m ∧ m x = v) ∨ (env.kindOf x = some .cell ∧ ∃ c, env.cells.lookup x = some c ∧ h.IsCell c v)

structure Fm.OK (cx : Cx) (A : Around) (fm : Fm) : Prop where
  frames : A.frames = some fm.l
  kind : fm.env.scope.kind = .function
  globals : fm.env.globals = mainGlobals
  builtins : fm.env.builtins = builtinsNs
  cellsNe : ∀ x c, fm.env.cells.lookup x = some c → c ≠ fm.env.locals
  cellsInj : ∀ x y c, fm.env.cells.lookup x = some c → fm.env.cells.lookup y = some c → x = y
  inj : ∀ (i j : Nat) (x : Str), fm.names[i]? = some (some x) → fm.names[j]? = some (some x) → i = j
  above : ∀ a, fm.own a → cx.base.get? a = none
  cellAt : ∀ x, fm.env.kindOf x = some .cell → ∃ c, fm.env.cells.lookup x = some c

structure FR (fm : Fm) (μ : List V) (h : Heap) : Prop where
  len : μ.length = fm.names.length
  live : ∀ a, fm.own a → ∃ o, h.get? a = some o
  ns : ∃ m, h.Ns fm.env.locals m
  var : ∀ (i : Nat) (x : Str), fm.names[i]? = some (some x) → ∃ ov, VarAt fm.env h x ov ∧ (getL μ i = .unb ∨ ∃ v, ov = some v ∧ abs v = getL μ i)

structure HS (cx : Cx) (H : HP) (s : Shared) : Prop where
  hr : ∀ a o, H a = some o → Rep s.heap a o
  ext : ∀ b o, cx.base.get? b = some o → s.heap.get? b = some o
  low : ∀ a o, H a = some o → cx.base.get? a = none

structure SR (cx : Cx) (fm : Fm) (H : HP) (μ : List V) (s : Shared) : Prop extends HS cx H s where
  fr : FR fm μ s.heap
  own : ∀ a o, H a = some o → ¬ fm.own a
  ff : FrL cx.base H s.heap fm.l

structure Kept (ow : Addr → Prop) (s : Shared) (H : HP) (s' : Shared) (H' : HP) : Prop where
  keep : ∀ b o, s.heap.get? b = some o → H b = none → ¬ ow b → ∃ o', s'.heap.get? b = some o' ∧ SO o o'
  dom : ∀ a o, s.heap.get? a = some o → H a = none → ¬ ow a → H' a = none
  os : s'.os = s.os
  gens : s'.gens = s.gens

noncomputable abbrev KE (s : Shared) (H : HP) (s' : Shared) (H' : HP) : Prop := Kept (fun _ => False) s H s' H'

theorem Kept.refl (ow : Addr → Prop) (s : Shared) (H : HP) : Kept ow s H s H := ⟨fun _ o e _ _ => ⟨o, e, .refl o⟩, fun _ _ _ e _ => e, rfl, rfl⟩
theorem Kept.trans {ow : Addr → Prop} {s s₁ s₂ : Shared} {H H₁ H₂ : HP} (x : Kept ow s H s₁ H₁) (y : Kept ow s₁ H₁ s₂ H₂) : Kept ow s H s₂ H₂ :=
  ⟨fun b o e n w => (let ⟨_, e1, s1⟩ := x.keep b o e n w; let ⟨o2, e2, s2⟩ := y.keep b _ e1 (x.dom b o e n w) w; ⟨o2, e2, s1.trans s2⟩),
    fun a o e n w => (let ⟨o1, e1, _⟩ := x.keep a o e n w; y.dom a o1 e1 (x.dom a o e n w) w), y.os.trans x.os, y.gens.trans x.gens⟩
theorem Kept.same {ow : Addr → Prop} {s s' : Shared} {H H' : HP} (x : Kept ow s H s' H') {b : Addr} {o : Obj} (e : s.heap.get? b = some o) (hn : H b = none) (hw : ¬ ow b) (hd : ∀ es ep, o.data ≠ .dict es ep) : s'.heap.get? b = some o := by
  obtain ⟨o', e', so⟩ := x.keep b o e hn hw
  rw [so.same hd] at e'; exact e'
theorem FrL.le {b : Heap} {H H' : HP} {h : Heap} {l : List Env} (x : FrL b H' h l) (le : LE H H') : FrL b H h l := fun e he => by
  obtain ⟨k, L, o, es, ep, h1, h2, h3, r⟩ := x e he
  refine ⟨k, L, o, es, ep, h1, h2, ?_, r⟩
  cases q : H L with
  | none => rfl
  | some o => rw [le L o q] at h3; cases h3
theorem FrL.kept {b : Heap} {ow : Addr → Prop} {s s' : Shared} {H H' : HP} {l : List Env} (x : FrL b H s.heap l) (k : Kept ow s H s' H') (hw : ∀ e ∈ l, ∀ L, e.frame = some L → ¬ ow L) : FrL b H' s'.heap l := fun e he => by
  obtain ⟨kd, L, o, es, ep, h1, h2, h3, h4, h5⟩ := x e he
  obtain ⟨o', e', so⟩ := k.keep L o h4 h3 (hw e he L h1)
  exact ⟨kd, L, o', es, ep, h1, h2, k.dom L o h4 h3 (hw e he L h1), e', so.data.trans h5⟩
theorem FrL.heap {b : Heap} {H : HP} {h h' : Heap} {l : List Env} (x : FrL b H h l) (k : ∀ e ∈ l, ∀ L o, e.frame = some L → h.get? L = some o → h'.get? L = some o) : FrL b H h' l := fun e he => by
  obtain ⟨kd, L, o, es, ep, h1, h2, h3, h4, h5⟩ := x e he
  exact ⟨kd, L, o, es, ep, h1, h2, h3, k e he L o h1 h4, h5⟩
theorem Kept.mono {ow ow' : Addr → Prop} (h : ∀ a, ow a → ow' a) {s s' : Shared} {H H' : HP} (x : Kept ow s H s' H') : Kept ow' s H s' H' :=
  ⟨fun b o e n w => x.keep b o e n (fun q => w (h b q)), fun b o e n w => x.dom b o e n (fun q => w (h b q)), x.os, x.gens⟩
theorem KE.any {s s' : Shared} {H H' : HP} (x : KE s H s' H') (ow : Addr → Prop) : Kept ow s H s' H' := x.mono fun _ q => q.elim

theorem HS.toks {cx : Cx} {H : HP} {s : Shared} (S : HS cx H s) (n : Nat) : HS cx H { s with toks := n } := ⟨S.hr, S.ext, S.low⟩
theorem HS.le {cx : Cx} {H H' : HP} {s : Shared} (S : HS cx H' s) (l : LE H H') : HS cx H s :=
  ⟨fun a o e => S.hr a o (l a o e), S.ext, fun a o e => S.low a o (l a o e)⟩
theorem SR.le {cx : Cx} {fm : Fm} {H H' : HP} {μ : List V} {s : Shared} (S : SR cx fm H' μ s) (l : LE H H') : SR cx fm H μ s :=
  ⟨S.toHS.le l, S.fr, fun a o e => S.own a o (l a o e), S.ff.le l⟩
theorem Kept.le {ow : Addr → Prop} {s s' : Shared} {H H₁ H₂ : HP} (x : Kept ow s H s' H₂) (l : LE H₁ H₂) : Kept ow s H s' H₁ :=
  ⟨x.keep, fun a ob q n w => (by
    cases e : H₁ a with
    | none => rfl
    | some o => exact absurd (l a o e) (by rw [x.dom a ob q n w]; simp)), x.os, x.gens⟩

theorem lookup_mem {α β : Type} [BEq α] [LawfulBEq α] {x : α} {c : β} : ∀ {l : List (α × β)}, l.lookup x = some c → (x, c) ∈ l
  | (y, d) :: l, e => by
    rw [List.lookup_cons] at e
    cases h : x == y with
    | true => rw [h] at e; cases e; rw [eq_of_beq h]; exact List.mem_cons_self
    | false => rw [h] at e; exact List.mem_cons_of_mem _ (lookup_mem e)

theorem VarAt.keep {env : Env} {h h' : Heap} {x : Str} {v : Option Value}
    (k : ∀ b o, (b = env.locals ∨ ∃ y, env.cells.lookup y = some b) → h.get? b = some o → ∃ o', h'.get? b = some o' ∧ SO o o') (w : VarAt env h x v) : VarAt env h' x v := by
  rcases w with ⟨k1, m, hn, hm⟩ | ⟨k1, c, hc, o, e, hd⟩
  · exact .inl ⟨k1, m, Ns.so hn fun o e => k _ _ (.inl rfl) e, hm⟩
  · obtain ⟨o', e', so⟩ := k _ _ (.inr ⟨x, hc⟩) e
    rw [so.same fun es ep q => by rw [hd] at q; cases q] at e'
    exact .inr ⟨k1, c, hc, o, e', hd⟩

theorem FR.keep {fm : Fm} {μ : List V} {h h' : Heap} (F : FR fm μ h) (k : ∀ b o, fm.own b → h.get? b = some o → ∃ o', h'.get? b = some o' ∧ SO o o') : FR fm μ h' :=
  ⟨F.len, fun a q => (let ⟨o, e⟩ := F.live a q; let ⟨o', e', _⟩ := k a o q e; ⟨o', e'⟩), by obtain ⟨m, hm⟩ := F.ns; exact ⟨m, Ns.so hm fun o e => k _ _ (.inl rfl) e⟩, fun i x e => by
    obtain ⟨ov, w, q⟩ := F.var i x e
    exact ⟨ov, w.keep (fun b o => k b o), q⟩⟩

theorem SR.step {cx : Cx} {fm : Fm} {H H' : HP} {μ : List V} {s s' : Shared} (S : SR cx fm H μ s) (S' : HS cx H' s') (k : KE s H s' H') : SR cx fm H' μ s' := by
  have hn : ∀ b, fm.own b → H b = none := fun b q => by
    cases e : H b with
    | none => rfl
    | some o => exact absurd q (S.own b o e)
  refine ⟨S', S.fr.keep (fun b o q e => k.keep b o e (hn b q) id), fun a o e q => ?_, S.ff.kept k fun _ _ _ _ => id⟩
  obtain ⟨ob, l⟩ := S.fr.live a q
  rw [k.dom a ob l (hn a q) id] at e
  cases e

theorem HS.grow {cx : Cx} {H : HP} {s : Shared} (S : HS cx H s) {h' : Heap} (k : ∀ b o, s.heap.get? b = some o → h'.get? b = some o) (n : Nat) :
    HS cx H { s with heap := h', toks := n } :=
  ⟨fun a o e => (S.hr a o e).keep (k a), fun b o e => k b o (S.ext b o e), S.low⟩
theorem KE.grow {s : Shared} {H : HP} {h' : Heap} (k : ∀ b o, s.heap.get? b = some o → h'.get? b = some o) (n : Nat) :
    KE s H { s with heap := h', toks := n } H := ⟨fun b o e _ _ => ⟨o, k b o e, .refl o⟩, fun _ _ _ e _ => e, rfl, rfl⟩
theorem KE.toks (s : Shared) (H : HP) (n : Nat) : KE s H { s with toks := n } H := ⟨fun _ o e _ _ => ⟨o, e, .refl o⟩, fun _ _ _ e _ => e, rfl, rfl⟩

noncomputable def Fresh (cx : Cx) (H : HP) (r : Addr) : Prop := H r = none ∧ cx.base.get? r = none ∧ cx.Z r = none

theorem HS.none_of {cx : Cx} {H : HP} {s : Shared} (S : HS cx H s) {r : Addr} (h : s.heap.get? r = none) : H r = none := by
  cases e : H r with
  | none => rfl
  | some o =>
    obtain ⟨ob, q⟩ := (S.hr r o e).get
    rw [h] at q; cases q
theorem HS.base_none {cx : Cx} {H : HP} {s : Shared} (S : HS cx H s) {r : Addr} (h : s.heap.get? r = none) : cx.base.get? r = none := by
  cases e : cx.base.get? r with
  | none => rfl
  | some o => rw [S.ext r o e] at h; cases h
theorem HS.fresh {cx : Cx} (C : cx.OK) {H : HP} {s : Shared} (S : HS cx H s) {r : Addr} (h : s.heap.get? r = none) : Fresh cx H r :=
  ⟨S.none_of h, S.base_none h, by
    cases e : cx.Z r with
    | none => rfl
    | some vs =>
      obtain ⟨ob, q⟩ := (C.z r vs e).get
      rw [S.base_none h] at q; cases q⟩
theorem get_size (h : Heap) : h.get? h.objs.size = none := by
  cases e : h.get? h.objs.size with
  | none => rfl
  | some o => exact absurd (Heap.lt_size e) (Nat.lt_irrefl _)

theorem HS.alloc {cx : Cx} {H : HP} {s : Shared} (S : HS cx H s) {h' : Heap} {r : Addr} {o : O} (k : ∀ b o, s.heap.get? b = some o → h'.get? b = some o)
    (hr : s.heap.get? r = none) (R : Rep h' r o) (n : Nat) : HS cx (upd H r o) { s with heap := h', toks := n } := by
  have G := S.grow k n
  refine ⟨fun a o' e => ?_, G.ext, fun a o' e => ?_⟩
  · by_cases h : a = r
    · subst h; rw [upd_same] at e; cases e; exact R
    · rw [upd_ne _ h] at e; exact G.hr a o' e
  · by_cases h : a = r
    · subst h; exact S.base_none hr
    · rw [upd_ne _ h] at e; exact G.low a o' e
theorem KE.alloc {s : Shared} {H : HP} {h' : Heap} {r : Addr} {o : O} (k : ∀ b o, s.heap.get? b = some o → h'.get? b = some o)
    (hr : s.heap.get? r = none) (n : Nat) : KE s H { s with heap := h', toks := n } (upd H r o) :=
  ⟨fun b o e _ _ => ⟨o, k b o e, .refl o⟩, fun a ob l e _ => by rw [upd_ne _ (fun q => by subst q; rw [hr] at l; cases l)]; exact e, rfl, rfl⟩

theorem HS.change {cx : Cx} {H : HP} {s : Shared} (S : HS cx H s) {h' : Heap} {a : Addr} {o o' : O} (ha : H a = some o) (sb : ∀ b ob, b ≠ a → s.heap.get? b = some ob → h'.get? b = some ob) (R : Rep h' a o') (n : Nat) :
    HS cx (upd H a o') { s with heap := h', toks := n } := by
  refine ⟨fun b o1 e => ?_, fun b ob e => ?_, fun b o1 e => ?_⟩
  · by_cases h : b = a
    · subst h; rw [upd_same] at e; cases e; exact R
    · rw [upd_ne _ h] at e; exact (S.hr b o1 e).keep (fun ob => sb b ob h)
  · exact sb b ob (fun q => by subst q; rw [S.low _ o ha] at e; cases e) (S.ext b ob e)
  · by_cases h : b = a
    · subst h; exact S.low _ _ ha
    · rw [upd_ne _ h] at e; exact S.low b o1 e
theorem KE.change {s : Shared} {H : HP} {h' : Heap} {a : Addr} {o o' : O} (ha : H a = some o) (sb : ∀ b ob, b ≠ a → s.heap.get? b = some ob → h'.get? b = some ob) (n : Nat) :
    KE s H { s with heap := h', toks := n } (upd H a o') :=
  ⟨fun b ob e hb _ => ⟨ob, sb b ob (fun x => by subst x; rw [ha] at hb; cases hb) e, .refl ob⟩,
    fun b _ _ e _ => by rw [upd_ne _ (fun x => by subst x; rw [ha] at e; cases e)]; exact e, rfl, rfl⟩

theorem SR.aside {cx : Cx} {fm : Fm} {H : HP} {μ : List V} {s : Shared} (S : SR cx fm H μ s) {h' : Heap} {a : Addr} (ha : H a = none) (hw : ¬ fm.own a) (hf : ¬ fm.fr a) (hb : cx.base.get? a = none) (sb : Heap.ExtBut a s.heap h') (n : Nat) :
    SR cx fm H μ { s with heap := h', toks := n } :=
  ⟨⟨fun b o e => (S.hr b o e).keep (fun ob q => sb b ob (fun x => by subst x; rw [ha] at e; cases e) q),
    fun b o e => sb b o (fun q => by subst q; rw [hb] at e; cases e) (S.ext b o e), S.low⟩, S.fr.keep (fun b o q e => ⟨o, sb b o (fun x => hw (x ▸ q)) e, .refl o⟩), S.own, S.ff.heap fun e he L o h1 h2 => sb L o (fun x => hf ⟨e, he, x ▸ h1⟩) h2⟩

section
variable {cx : Cx} {fm : Fm} {H : HP} {μ : List V} {s : Shared} {M : Model} {A : Around} {E : Value → Shared → Prop}

theorem load_loc (W : fm.OK cx A) (S : SR cx fm H μ s) {i : Nat} {x : Str} (hi : fm.names[i]? = some (some x)) (hb : getL μ i ≠ .unb) {Q : Value → Shared → Prop} (h : ∀ v, abs v = getL μ i → Q v s) :
    wpAny M A (loadName fm.env x) Q E s := by
  obtain ⟨ov, w, q⟩ := S.fr.var i x hi
  obtain ⟨v, rfl, hv⟩ := q.resolve_left hb
  rcases w with ⟨k1, m, hn, hm⟩ | ⟨k1, c, hc, hcell⟩
  · exact wpAny_loadName_local W.kind k1 hn hm (h v hv)
  · exact wpAny_loadName_cell W.kind k1 hc hcell (h v hv)

theorem SR.frs (W : fm.OK cx A) (S : SR cx fm H μ s) : ∀ l, A.frames = some l → FrL cx.base H s.heap l := fun l e => by
  rw [W.frames] at e; cases e; exact S.ff
theorem ns_unique {h : Heap} {a : Addr} {m m' : Str → Option Value} (x : h.Ns a m) (y : h.Ns a m') : m = m' := by
  obtain ⟨o, es, ep, e, hd, _, hm⟩ := x
  obtain ⟨o', es', ep', e', hd', _, hm'⟩ := y
  rw [e] at e'; cases e'
  rw [hd] at hd'; cases hd'
  funext n; rw [← hm n, ← hm' n]

theorem store_loc (W : fm.OK cx A) (S : SR cx fm H μ s) {i : Nat} {x : Str} (hi : fm.names[i]? = some (some x)) {v : Value} {Q : Unit → Shared → Prop}
    (h : ∀ s', SR cx fm H (setL μ i (abs v)) s' → Kept fm.own s H s' H → Q () s') : wpAny M A (storeName fm.env x v) Q E s := by
  obtain ⟨ov, w, q⟩ := S.fr.var i x hi
  have hil : i < μ.length := by rw [S.fr.len]; exact (List.getElem?_eq_some_iff.mp hi).1
  -- the rest, for any own address that is changed
  have rest : ∀ (a : Addr) (h' : Heap) (tk : Nat), fm.own a → Heap.SameBut a s.heap h' → (∃ o, h'.get? a = some o) → ((∃ o es ep, h'.get? a = some o ∧ o.data = .dict es ep) ∨ ¬ fm.fr a) → (∃ m, h'.Ns fm.env.locals m) →
      (∀ j y, fm.names[j]? = some (some y) → ∃ ov, VarAt fm.env h' y ov ∧ (getL (setL μ i (abs v)) j = .unb ∨ ∃ v', ov = some v' ∧ abs v' = getL (setL μ i (abs v)) j)) →
      SR cx fm H (setL μ i (abs v)) { s with heap := h', toks := tk } ∧ Kept fm.own s H { s with heap := h', toks := tk } H := by
    intro a h' tk ha sb hla hfa hns hvar
    refine ⟨⟨⟨fun b o e => ?_, fun b o e => ?_, S.low⟩, ⟨by rw [setL_length]; exact S.fr.len, fun b q => ?_, hns, hvar⟩, S.own, fun e he => ?_⟩,
      fun b o e _ hw => ⟨o, (sb.2 b (fun x => hw (x ▸ ha))).trans e, .refl o⟩, fun _ _ _ e _ => e, rfl, rfl⟩
    · exact (S.hr b o e).of_eq (sb.2 b (fun x => S.own b o e (x ▸ ha)))
    · exact (sb.2 b (fun q => by subst q; rw [W.above _ ha] at e; cases e)).trans (S.ext b o e)
    · by_cases h : b = a
      · subst h; exact hla
      · obtain ⟨o, e⟩ := S.fr.live b q
        exact ⟨o, (sb.2 b h).trans e⟩
    · obtain ⟨kd, L, o, es, ep, h1, h2, h3, h4, h5⟩ := S.ff e he
      by_cases h : L = a
      · subst h
        rcases hfa with ⟨o', es', ep', e1, e2⟩ | hfa
        · exact ⟨kd, L, o', es', ep', h1, h2, h3, e1, e2⟩
        · exact absurd ⟨e, he, h1⟩ hfa
      · exact ⟨kd, L, o, es, ep, h1, h2, h3, (sb.2 L h).trans h4, h5⟩
  rcases w with ⟨k1, m, hn, hm⟩ | ⟨k1, c, hc, hcell⟩
  · refine wpAny_storeName_local k1 hn (fun h' hn' sb => ?_) (by rw [W.kind]; rfl)
    obtain ⟨a1, a2⟩ := rest fm.env.locals h' (s.toks + 1) (.inl rfl) sb (let ⟨o, _, _, e, _⟩ := hn'; ⟨o, e⟩) (.inl (let ⟨o, es, ep, e, hd, _⟩ := hn'; ⟨o, es, ep, e, hd⟩)) ⟨_, hn'⟩ (fun j y hj => by
      by_cases hij : i = j
      · subst hij
        rw [hi] at hj; cases hj
        exact ⟨some v, .inl ⟨k1, _, hn', by simp⟩, .inr ⟨v, rfl, (getL_setL_same μ i _ hil).symm⟩⟩
      · obtain ⟨ov', w', q'⟩ := S.fr.var j y hj
        refine ⟨ov', ?_, by rw [getL_setL_ne _ _ _ _ hij]; exact q'⟩
        have hxy : y ≠ x := fun e => hij (W.inj i j x hi (e ▸ hj))
        rcases w' with ⟨k2, m2, hn2, hm2⟩ | ⟨k2, c2, hc2, o, e2, hd2⟩
        · exact .inl ⟨k2, _, hn', by rw [if_neg hxy, ns_unique hn hn2]; exact hm2⟩
        · exact .inr ⟨k2, c2, hc2, o, (sb.2 c2 (W.cellsNe y c2 hc2)).trans e2, hd2⟩)
    exact h _ a1 a2
  · refine wpAny_storeName_cell W.kind k1 hc hcell (fun h' hc' sb => ?_)
    have hcl := W.cellsNe x c hc
    have hnf : ¬ fm.fr c := fun ⟨e, he, hf⟩ => by
      obtain ⟨_, L, o, es, ep, h1, _, _, h4, h5⟩ := S.ff e he
      rw [hf] at h1; cases h1
      obtain ⟨o', h6, h7⟩ := hcell
      rw [h4] at h6; cases h6
      rw [h5] at h7; cases h7
    have ns' : ∀ m, s.heap.Ns fm.env.locals m → h'.Ns fm.env.locals m := fun m ⟨o, es, ep, e, r⟩ => ⟨o, es, ep, (sb.2 _ (Ne.symm hcl)).trans e, r⟩
    obtain ⟨a1, a2⟩ := rest c h' s.toks (.inr ⟨x, hc⟩) sb (let ⟨o, e, _⟩ := hc'; ⟨o, e⟩) (.inr hnf) (by obtain ⟨m, hm⟩ := S.fr.ns; exact ⟨m, ns' m hm⟩) (fun j y hj => by
      by_cases hij : i = j
      · subst hij
        rw [hi] at hj; cases hj
        exact ⟨some v, .inr ⟨k1, c, hc, hc'⟩, .inr ⟨v, rfl, (getL_setL_same μ i _ hil).symm⟩⟩
      · obtain ⟨ov', w', q'⟩ := S.fr.var j y hj
        refine ⟨ov', ?_, by rw [getL_setL_ne _ _ _ _ hij]; exact q'⟩
        have hxy : y ≠ x := fun e => hij (W.inj i j x hi (e ▸ hj))
        rcases w' with ⟨k2, m2, hn2, hm2⟩ | ⟨k2, c2, hc2, o, e2, hd2⟩
        · exact .inl ⟨k2, m2, ns' m2 hn2, hm2⟩
        · exact .inr ⟨k2, c2, hc2, o, (sb.2 c2 (fun e => hxy (W.cellsInj y x c (e ▸ hc2) hc))).trans e2, hd2⟩)
    exact h _ a1 a2
end
end Mine
end

section
namespace Mine
open PySem PyProof.Rows

inductive BF where
  | len | list | min | sum
  deriving DecidableEq
inductive Mth where
  | append | pop
  deriving DecidableEq

mutual
inductive ME where
  | cint (i : Int) | cbool (b : Bool) | cnone | cstr (x : Str)
  | loc (i : Nat)
  | bin (op : Operator) (l r : ME)
  | not (e : ME)
  | cmp (l : ME) (op : CmpOp) (r : ME)
  | bop (op : BoolOp) (es : MEs)
  | callf (f : Addr) (args : MEs)
  | callb (b : BF) (args : MEs)
  | isi (e : ME) (t : String)
  | meth (o : ME) (m : Mth) (args : MEs)
  | sub (o i : ME)
  | slice (o lo hi : ME)
  | list (es : MEs)
  | tup (es : MEs)
  | comp (elt it cond : ME)
  | compR (elt a b cond : ME)
  | neg (e : ME)
  | cmp2 (l : ME) (o1 : CmpOp) (m : ME) (o2 : CmpOp) (r : ME)
  | ife (c t e : ME)
  | gint (i : Int)
  | attr (C : Addr) (i : Nat) (x : Str)
  | callm (C : Addr) (x : Str) (f : Addr) (i : Nat) (args : MEs)
  | mk (C f : Addr) (args : MEs)
  | dnil
  | done (k : Int) (v : ME)
  | dsub (o i : ME)
inductive MEs where
  | nil
  | cons (e : ME) (es : MEs)
end

mutual
inductive MS where
  | assign (i : Nat) (e : ME)
  | setSub (o i v : ME)
  | expr (e : ME)
  | ite (c : ME) (t e : MSs)
  | for_ (i : Nat) (it : ME) (body : MSs)
  | forR (i : Nat) (a b : ME) (body : MSs)
  | while_ (c : ME) (body : MSs)
  | ret (e : ME)
  | setAttr (C : Addr) (i : Nat) (x : Str) (e : ME)
  | raise_
  | retN
  | setD (o i v : ME)
  | raiseS (C : Addr) (m : ME)
  | tryS (i : Nat) (C : Addr) (x : Str) (f : Addr) (j : Nat) (as : MEs) (K : Addr) (h : ME)
inductive MSs where
  | nil
  | cons (s : MS) (r : MSs)
end

structure ACall0 (A : Around) (n : Nat) : Prop where
  depth : A.depth + n < 850
  units : A.units + 16 * n < 9000
  frames : ∃ l, A.frames = some l
structure ACall (A : Around) (n : Nat) : Prop extends ACall0 A n where
  handled : A.handled = none
structure AOK0 (A : Around) (n : Nat) : Prop extends ACall0 A n where
  top : ∃ env outer, A.frames = some (env :: outer) ∧ env.scope.isGenerator = false ∧ env.scope.isCoroutine = false ∧ env.builtins = builtinsNs ∧ env.globals = mainGlobals
structure AOK (A : Around) (n : Nat) : Prop extends AOK0 A n where
  handled : A.handled = none
theorem AOK.toACall {A : Around} {n : Nat} (h : AOK A n) : ACall A n := ⟨h.toACall0, h.handled⟩

noncomputable def CallP (cx : Cx) (n : Nat) (f : Addr) (args : List V) (H : HP) (Q : V → HP → Prop) : Prop :=
  ∀ (A : Around) (s : Shared) (vs : List Value), ACall A n → HS cx H s → (∀ l, A.frames = some l → FrL cx.base H s.heap l) → vs.map Mine.abs = args →
    codeAny (model cx.prog cx.w) A (.call (.ref f) ⟨vs, []⟩) (fun r s' => ∃ v H', r = .ok (.ret v) ∧ HS cx H' s' ∧ KE s H s' H' ∧ Q (Mine.abs v) H') s

structure ExcIn (b : Heap) (s : Shared) (H H' : HP) (h : Heap) (e C T : Addr) : Prop where
  e0 : ∀ o, s.heap.get? e = some o → H e = none → False
  t0 : ∀ o, s.heap.get? T = some o → H T = none → False
  e1 : H' e = none
  t1 : H' T = none
  e2 : b.get? e = none
  t2 : b.get? T = none
  at_ : ∃ oe vs a0, h.get? e = some oe ∧ oe.cls = .ref C ∧ oe.data = .fields vs ∧ vs[0]? = some a0 ∧
    ((vs[1]? = some .none ∧ T = e) ∨ ∃ oT ts, vs[1]? = some (.ref T) ∧ T ≠ e ∧ h.get? T = some oT ∧ oT.data = .fields ts ∧ ts[3]? = some .none)

noncomputable def CallX (cx : Cx) (n : Nat) (f : Addr) (args : List V) (H : HP) (Q : V → HP → Prop) : Prop :=
  ∀ (A : Around) (s : Shared) (vs : List Value), ACall A n → HS cx H s → (∀ l, A.frames = some l → FrL cx.base H s.heap l) → vs.map Mine.abs = args →
    codeAny (model cx.prog cx.w) A (.call (.ref f) ⟨vs, []⟩) (fun r s' => (∃ v H', r = .ok (.ret v) ∧ HS cx H' s' ∧ KE s H s' H' ∧ Q (Mine.abs v) H') ∨
      ∃ e C T H', r = .error (.ref e) ∧ HS cx H' s' ∧ KE s H s' H' ∧ ExcIn cx.base s H H' s'.heap e C T ∧ T ≠ e ∧ Q (.exc C) H') s
noncomputable abbrev nx (Q : V → HP → Prop) : V → HP → Prop := fun v H => match v with
  | .exc _ => False
  | v => Q v H
theorem nx_abs {Q : V → HP → Prop} {v : Value} {H : HP} (h : nx Q (Mine.abs v) H) : Q (Mine.abs v) H := by cases v <;> exact h
theorem CallX.quiet {cx : Cx} {n : Nat} {f : Addr} {args : List V} {H : HP} {Q : V → HP → Prop} (h : CallX cx n f args H (nx Q)) : CallP cx n f args H Q := fun A s vs hA S hf e =>
  codeAny_mono (h A s vs hA S hf e) fun r s' hr => by
    rcases hr with ⟨v, H', a, b, c, d⟩ | ⟨_, _, _, _, _, _, _, _, _, d⟩
    · exact ⟨v, H', a, b, c, nx_abs d⟩
    · exact d.elim
noncomputable def onX (v : V) (k : V → Prop) (x : Addr → Prop) : Prop := match v with
  | .exc C => x C
  | v => k v

noncomputable def lk (cx : Cx) (H : HP) (a : Addr) : Option O :=
  match H a with
  | some o => some o
  | none => (cx.Z a).map O.list
noncomputable def lst (cx : Cx) (H : HP) (a : Addr) : Option (List V) :=
  match lk cx H a with
  | some (.list vs) => some vs
  | _ => none
noncomputable def sq (cx : Cx) (H : HP) (a : Addr) : Option (List V) :=
  match lk cx H a with
  | some (.list vs) => some vs
  | some (.tup vs) => some vs
  | _ => none

noncomputable def onR (v : V) (k : Addr → Prop) : Prop := match v with
  | .ref a => k a
  | _ => False
noncomputable def onI (v : V) (k : Int → Prop) : Prop := match v with
  | .int i => k i
  | _ => False
noncomputable def TruthP (v : V) (Q : Bool → Prop) : Prop := match v with
  | .bool b => Q b
  | _ => False
noncomputable def onO {α : Type} (o : Option α) (k : α → Prop) : Prop := match o with
  | some x => k x
  | none => False
noncomputable def onHL (o : Option O) (k : List V → Prop) : Prop := match o with
  | some (.list vs) => k vs
  | _ => False
noncomputable def onSq (o : Option O) (k k' : List V → Prop) : Prop := match o with
  | some (.list vs) => k vs
  | some (.tup vs) => k' vs
  | _ => False
noncomputable def onIn (C : Addr) (o : Option O) (k : Addr → Prop) : Prop := match o with
  | some (.inst C' dx) => C' = C ∧ k dx
  | _ => False
noncomputable def onD (o : Option O) (k : List (Int × V) → Prop) : Prop := match o with
  | some (.dct kvs) => k kvs
  | _ => False
noncomputable def onFl (o : Option O) (k : List (Str × V) → Prop) : Prop := match o with
  | some (.flds fs) => k fs
  | _ => False
noncomputable def on0 (l : List V) (k : Prop) : Prop := match l with
  | [] => k
  | _ => False
noncomputable def on1 (l : List V) (k : V → Prop) : Prop := match l with
  | [v] => k v
  | _ => False
noncomputable def on2 (l : List V) (k : V → V → Prop) : Prop := match l with
  | [v, w] => k v w
  | _ => False
theorem onR_inv {v : V} {k : Addr → Prop} (h : onR v k) : ∃ a, v = .ref a ∧ k a := by cases v <;> first | exact ⟨_, rfl, h⟩ | exact False.elim h
theorem onI_inv {v : V} {k : Int → Prop} (h : onI v k) : ∃ a, v = .int a ∧ k a := by cases v <;> first | exact ⟨_, rfl, h⟩ | exact False.elim h
theorem onO_inv {α : Type} {o : Option α} {k : α → Prop} (h : onO o k) : ∃ x, o = some x ∧ k x := by
  cases o with
  | none => exact h.elim
  | some x => exact ⟨x, rfl, h⟩
theorem onHL_inv {o : Option O} {k : List V → Prop} (h : onHL o k) : ∃ vs, o = some (.list vs) ∧ k vs := by
  cases o with
  | none => exact False.elim h
  | some x => cases x <;> first | exact ⟨_, rfl, h⟩ | exact False.elim h
theorem onSq_inv {o : Option O} {k k' : List V → Prop} (h : onSq o k k') : (∃ vs, o = some (.list vs) ∧ k vs) ∨ ∃ vs, o = some (.tup vs) ∧ k' vs := by
  cases o with
  | none => exact False.elim h
  | some x => cases x <;> first | exact .inl ⟨_, rfl, h⟩ | exact .inr ⟨_, rfl, h⟩ | exact False.elim h
theorem onIn_inv {C : Addr} {o : Option O} {k : Addr → Prop} (h : onIn C o k) : ∃ dx, o = some (.inst C dx) ∧ k dx := by
  cases o with
  | none => exact False.elim h
  | some x => cases x <;> first | exact ⟨_, by rw [h.1], h.2⟩ | exact False.elim h
theorem onD_inv {o : Option O} {k : List (Int × V) → Prop} (h : onD o k) : ∃ fs, o = some (.dct fs) ∧ k fs := by
  cases o with
  | none => exact False.elim h
  | some x => cases x <;> first | exact ⟨_, rfl, h⟩ | exact False.elim h
theorem onFl_inv {o : Option O} {k : List (Str × V) → Prop} (h : onFl o k) : ∃ fs, o = some (.flds fs) ∧ k fs := by
  cases o with
  | none => exact False.elim h
  | some x => cases x <;> first | exact ⟨_, rfl, h⟩ | exact False.elim h
theorem on1_inv {l : List V} {k : V → Prop} (h : on1 l k) : ∃ v, l = [v] ∧ k v := match l, h with
  | [v], h => ⟨v, rfl, h⟩
theorem on2_inv {l : List V} {k : V → V → Prop} (h : on2 l k) : ∃ v w, l = [v, w] ∧ k v w := match l, h with
  | [v, w], h => ⟨v, w, rfl, h⟩
theorem onR_mono {v : V} {k k' : Addr → Prop} (h : onR v k) (q : ∀ a, k a → k' a) : onR v k' := by obtain ⟨a, rfl, h⟩ := onR_inv h; exact q a h
theorem onI_mono {v : V} {k k' : Int → Prop} (h : onI v k) (q : ∀ a, k a → k' a) : onI v k' := by obtain ⟨a, rfl, h⟩ := onI_inv h; exact q a h
theorem onO_mono {α : Type} {o : Option α} {k k' : α → Prop} (h : onO o k) (q : ∀ a, k a → k' a) : onO o k' := by obtain ⟨a, rfl, h⟩ := onO_inv h; exact q a h
theorem onHL_mono {o : Option O} {k k' : List V → Prop} (h : onHL o k) (q : ∀ a, k a → k' a) : onHL o k' := by obtain ⟨a, rfl, h⟩ := onHL_inv h; exact q a h
theorem onSq_mono {o : Option O} {k k' q q' : List V → Prop} (h : onSq o k k') (a : ∀ vs, k vs → q vs) (b : ∀ vs, k' vs → q' vs) : onSq o q q' := by
  rcases onSq_inv h with ⟨vs, rfl, h⟩ | ⟨vs, rfl, h⟩
  · exact a vs h
  · exact b vs h
theorem onIn_mono {C : Addr} {o : Option O} {k k' : Addr → Prop} (h : onIn C o k) (q : ∀ a, k a → k' a) : onIn C o k' := by obtain ⟨a, rfl, h1⟩ := onIn_inv h; exact ⟨rfl, q a h1⟩
theorem onD_mono {o : Option O} {k k' : List (Int × V) → Prop} (h : onD o k) (q : ∀ a, k a → k' a) : onD o k' := by obtain ⟨a, rfl, h⟩ := onD_inv h; exact q a h
theorem onFl_mono {o : Option O} {k k' : List (Str × V) → Prop} (h : onFl o k) (q : ∀ a, k a → k' a) : onFl o k' := by obtain ⟨a, rfl, h⟩ := onFl_inv h; exact q a h
theorem on1_mono {l : List V} {k k' : V → Prop} (h : on1 l k) (q : ∀ a, k a → k' a) : on1 l k' := by obtain ⟨a, rfl, h⟩ := on1_inv h; exact q a h
theorem on2_mono {l : List V} {k k' : V → V → Prop} (h : on2 l k) (q : ∀ a b, k a b → k' a b) : on2 l k' := by obtain ⟨a, b, rfl, h⟩ := on2_inv h; exact q a b h

noncomputable def asInts : List V → Option (List Int)
  | [] => some []
  | .int i :: r => (asInts r).map (i :: ·)
  | _ => none
noncomputable def intsV (l : List Int) : List V := l.map V.int

theorem asInts_ints : ∀ l : List Int, asInts (intsV l) = some l
  | [] => rfl
  | i :: l => by simp [intsV, asInts]; exact asInts_ints l

noncomputable def cutAt (n : Nat) (i : Int) : Option Nat := if 0 ≤ i then some (min i.toNat n) else none
noncomputable def cutLo (n : Nat) (v : V) : Option Nat := match v with
  | .none => some 0
  | .int i => cutAt n i
  | _ => none
noncomputable def cutHi (n : Nat) (v : V) : Option Nat := match v with
  | .none => some n
  | .int i => cutAt n i
  | _ => none
noncomputable def cut (vs : List V) (lo hi : Nat) : List V := (vs.take hi).drop lo

noncomputable def new (cx : Cx) (H : HP) (o : O) (Q : V → HP → Prop) : Prop := ∀ r, Fresh cx H r → Q (.ref r) (upd H r o)

noncomputable def addP (cx : Cx) (a b : V) (H : HP) (Q : V → HP → Prop) : Prop := match a with
  | .int x => onI b fun y => Q (.int (x + y)) H
  | .ref x => onR b fun y => onO (lst cx H x) fun xs => onO (lst cx H y) fun ys => xs.length + ys.length ≤ 16777216 ∧ new cx H (.list (xs ++ ys)) Q
  | _ => False
noncomputable def mulP (cx : Cx) (a b : V) (H : HP) (Q : V → HP → Prop) : Prop := match a with
  | .int x => onI b fun y => IntMulOk x y ∧ Q (.int (x * y)) H
  | .ref x => onI b fun n => onO (lst cx H x) fun xs => -16777216 < n ∧ n < 16777216 ∧ xs.length * n.toNat ≤ 16777216 ∧ new cx H (.list (List.replicate n.toNat xs).flatten) Q
  | _ => False
noncomputable def binP (cx : Cx) (op : Operator) (a b : V) (H : HP) (Q : V → HP → Prop) : Prop := match op with
  | .Add => addP cx a b H Q
  | .Sub => onI a fun x => onI b fun y => Q (.int (x - y)) H
  | .Mult => mulP cx a b H Q
  | .FloorDiv => onI a fun x => onI b fun y => y ≠ 0 ∧ Q (.int (x.fdiv y)) H
  | .Mod => onI a fun x => onI b fun y => y ≠ 0 ∧ Q (.int (x.fmod y)) H
  | .Pow => onI a fun x => onI b fun y => 0 ≤ y ∧ (Builtin.Int.intBits x : Int) * y ≤ 2 ^ 27 ∧ Q (.int (x ^ y.toNat)) H
  | _ => False

noncomputable def cmpII (op : CmpOp) (a b : Int) : Option Bool := match op with
  | .Lt => some (decide (a < b))
  | .LtE => some (decide (a ≤ b))
  | .Gt => some (decide (b < a))
  | .Eq => some (a == b)
  | .NotEq => some (a != b)
  | _ => none
noncomputable def rdS (x : Str) : Option PyData := if PyData.strOk x = true then some (.str x) else none
noncomputable def rdV (cx : Cx) (H : HP) : Nat → V → Option PyData
  | 0, v => match v with
    | .int i => some (.int i)
    | .str x => rdS x
    | _ => none
  | n + 1, v => match v with
    | .int i => some (.int i)
    | .str x => rdS x
    | .ref a => match lk cx H a with
      | some (.list vs) => (vs.mapM (rdV cx H n)).map .list
      | some (.tup vs) => (vs.mapM (rdV cx H n)).map .tuple
      | _ => none
    | _ => none
noncomputable def eqNe (op : CmpOp) (b : Bool) : Option Bool := match op with
  | .Eq => some b
  | .NotEq => some (!b)
  | _ => none
noncomputable def cmpP (cx : Cx) (op : CmpOp) (a b : V) (H : HP) : Option Bool := match a with
  | .bool a => match b with
    | .bool b => eqNe op (a == b)
    | _ => none
  | .ref a => match b with
    | .ref b => (rdV cx H 2 (.ref a)).bind fun d => (rdV cx H 2 (.ref b)).bind fun e => eqNe op (PyData.eqv d e)
    | _ => none
  | .int a => match b with
    | .int b => cmpII op a b
    | .bool _ => match op with
      | .IsNot => some true
      | _ => none
    | .ref x => match op with
      | .NotIn => (sq cx H x).bind fun vs => (asInts vs).map fun l => !l.contains a
      | .In => (sq cx H x).bind fun vs => (asInts vs).map fun l => l.contains a
      | _ => none
    | _ => none
  | .str a => match b with
    | .str b => eqNe op (a == b)
    | _ => none
  | .none => match b with
    | .none => match op with
      | .Is => some true
      | _ => none
    | _ => none
  | _ => none

noncomputable def isiP (H : HP) (v : V) (t : String) : Option Bool := match v with
  | .int _ => if t = "int" then some true else if t = "bool" then some false else none
  | .ref a => match H a with
    | some (.list _) => if t = "list" then some true else none
    | some (.tup _) => if t = "tuple" then some true else none
    | _ => none
  | _ => none

noncomputable def callbP (cx : Cx) (b : BF) (args : List V) (H : HP) (Q : V → HP → Prop) : Prop := match b with
  | .len => on1 args fun v => onR v fun a => onO (sq cx H a) fun vs => vs.length ≤ 16777216 ∧ Q (.int vs.length) H
  | .list => on1 args fun v => onR v fun a => onO (sq cx H a) fun vs => vs.length ≤ 16777216 ∧ new cx H (.list vs) Q
  | .min => on2 args fun v w => onI v fun a => onI w fun b => Q (.int (if b < a then b else a)) H
  | .sum => on1 args fun v => onR v fun a => onO (lst cx H a) fun vs => onO (asInts vs) fun l => PySem.SumFits l ∧ Q (.int l.sum) H

noncomputable def getK (kvs : List (Int × V)) (k : Int) : Option V := (kvs.find? fun p => p.1 = k).map (·.2)
noncomputable def putK (kvs : List (Int × V)) (k : Int) (v : V) : List (Int × V) := if kvs.any (fun p => p.1 = k) then kvs.map (fun p => if p.1 = k then (p.1, v) else p) else kvs ++ [(k, v)]
noncomputable def dsubP (o i : V) (H : HP) (Q : V → HP → Prop) : Prop := onR o fun a => onI i fun i => onD (H a) fun kvs => onO (getK kvs i) fun v => Q v H
noncomputable def setDP (o i v : V) (H : HP) (Q : HP → Prop) : Prop := onR o fun a => onI i fun i => onD (H a) fun kvs => kvs.length ≤ 16777216 ∧ Q (upd H a (.dct (putK kvs i v)))
noncomputable def methP (o : V) (m : Mth) (args : List V) (H : HP) (Q : V → HP → Prop) : Prop := onR o fun a => onHL (H a) fun vs => match m with
  | .append => on1 args fun v => vs.length ≤ 16777216 ∧ Q .none (upd H a (.list (vs ++ [v])))
  | .pop => on0 args (onO vs.getLast? fun v => vs.length ≤ 16777216 ∧ Q v (upd H a (.list vs.dropLast)))

noncomputable def listAt (o : V) (H : HP) : Prop := onR o fun a => onHL (H a) fun _ => True

noncomputable def subP (cx : Cx) (o i : V) (H : HP) (Q : V → HP → Prop) : Prop :=
  onR o fun a => onI i fun i => onO (sq cx H a) fun vs => 0 ≤ i ∧ vs.length ≤ 16777216 ∧ onO vs[i.toNat]? fun v => Q v H

noncomputable def sliceP (cx : Cx) (o lo hi : V) (H : HP) (Q : V → HP → Prop) : Prop :=
  onR o fun a => onSq (lk cx H a) (fun vs => onO (cutLo vs.length lo) fun l => onO (cutHi vs.length hi) fun h => vs.length ≤ 16777216 ∧ new cx H (.list (cut vs l h)) Q)
    fun vs => hi = .none ∧ onI lo fun i => 1 ≤ i ∧ i.toNat ≤ vs.length ∧ vs.length ≤ 16777216 ∧ new cx H (.tup (vs.drop i.toNat)) Q
noncomputable def attrP (C : Addr) (o : V) (x : Str) (H : HP) (Q : V → HP → Prop) : Prop := onR o fun a => onIn C (H a) fun dx => onFl (H dx) fun fs => onO (fs.lookup x) fun v => v ≠ .other ∧ Q v H
noncomputable def instP (C : Addr) (o : V) (x : Str) (H : HP) : Prop := onR o fun a => onIn C (H a) fun dx => onFl (H dx) fun fs => fs.lookup x = none
noncomputable def putF (x : Str) (v : V) : List (Str × V) → List (Str × V)
  | [] => [(x, v)]
  | p :: r => if p.1 == x then (p.1, v) :: r else p :: putF x v r
noncomputable def setAttrP (C : Addr) (o : V) (x : Str) (v : V) (H : HP) (Q : HP → Prop) : Prop := onR o fun a => onIn C (H a) fun dx => onFl (H dx) fun fs => fs.length < 100 ∧ Q (upd H dx (.flds (putF x v fs)))
noncomputable def mkP (cx : Cx) (n : Nat) (C f : Addr) (vs : List V) (H : HP) (Q : V → HP → Prop) : Prop :=
  0 < n ∧ ∀ dx, Fresh cx H dx → ∀ x, Fresh cx (upd H dx (.flds [])) x → CallP cx (n - 1) f (.ref x :: vs) (upd (upd H dx (.flds [])) x (.inst C dx)) fun v H => v = .none ∧ Q (.ref x) H

noncomputable def IterP (cx : Cx) (o : V) (H : HP) (Q : List V → (HP → Prop) → HP → Prop) : Prop :=
  onR o fun a => onHL (lk cx H a) fun vs => vs.length ≤ 16777216 ∧ Q vs (fun H' => lk cx H' a = some (.list vs)) H

noncomputable def rangeL (a b : Int) : List Int := (List.range (b - a).toNat).map fun (k : Nat) => a + (k : Int)

noncomputable def RngP (x y : V) (Q : List V → Prop) : Prop :=
  onI x fun x => onI y fun y => (-1152921504606846976 < x ∧ x < 1152921504606846976) ∧ (-1152921504606846976 < y ∧ y < 1152921504606846976) ∧ Q (intsV (rangeL x y))

noncomputable def setSubP (o i v : V) (H : HP) (Q : HP → Prop) : Prop :=
  onR o fun a => onI i fun i => onHL (H a) fun vs => 0 ≤ i ∧ vs.length ≤ 16777216 ∧ i.toNat < vs.length ∧ Q (upd H a (.list (vs.set i.toNat v)))

noncomputable def CompP (cx : Cx) (items : List V) (st : HP → Prop) (H₀ : HP) (turn : V → HP → (Option V → HP → Prop) → Prop) (Q : V → HP → Prop) : Prop :=
  items.length ≤ 16777216 ∧ ∃ I : List V → List V → HP → Prop, I [] [] H₀ ∧ (∀ done acc H₁, I done acc H₁ → st H₁) ∧
    (∀ done x rest acc H₁, items = done ++ x :: rest → I done acc H₁ → turn x H₁ fun ov H₂ => ∃ H₃, LE H₃ H₂ ∧ I (done ++ [x]) (acc ++ ov.toList) H₃) ∧
    (∀ acc H₁, I items acc H₁ → new cx H₁ (.list acc) Q)

mutual
noncomputable def mwpE (cx : Cx) (n : Nat) : ME → List V → HP → (V → HP → Prop) → Prop
  | .cint i, _, H, Q => Q (.int i) H
  | .cbool b, _, H, Q => Q (.bool b) H
  | .cnone, _, H, Q => Q .none H
  | .cstr x, _, H, Q => Q (.str x) H
  | .loc i, μ, H, Q => getL μ i ≠ .unb ∧ Q (getL μ i) H
  | .bin op l r, μ, H, Q => mwpE cx n l μ H fun a H => mwpE cx n r μ H fun b H => binP cx op a b H Q
  | .not e, μ, H, Q => mwpE cx n e μ H fun v H => TruthP v fun b => Q (.bool (!b)) H
  | .cmp l op r, μ, H, Q => mwpE cx n l μ H fun a H => mwpE cx n r μ H fun b H => onO (cmpP cx op a b H) fun c => Q (.bool c) H
  | .bop op es, μ, H, Q => mwpB cx n op es μ H Q
  | .callf f args, μ, H, Q => mwpEs cx n args μ H fun vs H => CallP cx n f vs H Q
  | .callb b args, μ, H, Q => mwpEs cx n args μ H fun vs H => callbP cx b vs H Q
  | .isi e t, μ, H, Q => mwpE cx n e μ H fun v H => onO (isiP H v t) fun b => Q (.bool b) H
  | .meth o m args, μ, H, Q => mwpE cx n o μ H fun ov H => listAt ov H ∧ mwpEs cx n args μ H fun vs H => methP ov m vs H Q
  | .sub o i, μ, H, Q => mwpE cx n o μ H fun ov H => mwpE cx n i μ H fun iv H => subP cx ov iv H Q
  | .slice o lo hi, μ, H, Q => mwpE cx n o μ H fun ov H => mwpE cx n lo μ H fun l H => mwpE cx n hi μ H fun h H => sliceP cx ov l h H Q
  | .list es, μ, H, Q => mwpEs cx n es μ H fun vs H => vs.length ≤ 16777216 ∧ new cx H (.list vs) Q
  | .tup es, μ, H, Q => mwpEs cx n es μ H fun vs H => vs.length ≤ 16777216 ∧ new cx H (.tup vs) Q
  | .comp elt it cond, μ, H, Q => mwpE cx n it μ H fun v H => IterP cx v H fun items st H₀ => CompP cx items st H₀ (fun x H₁ K =>
      mwpE cx n cond (μ ++ [x]) H₁ fun c H₂ => TruthP c fun b => (b = true → mwpE cx n elt (μ ++ [x]) H₂ fun v H₃ => K (some v) H₃) ∧ (b = false → K none H₂)) Q
  | .compR elt a b cond, μ, H, Q => mwpE cx n a μ H fun x H => mwpE cx n b μ H fun y H => RngP x y fun items => CompP cx items (fun _ => True) H (fun x H₁ K =>
      mwpE cx n cond (μ ++ [x]) H₁ fun c H₂ => TruthP c fun b => (b = true → mwpE cx n elt (μ ++ [x]) H₂ fun v H₃ => K (some v) H₃) ∧ (b = false → K none H₂)) Q
  | .neg e, μ, H, Q => mwpE cx n e μ H fun v H => onI v fun i => Q (.int (-i)) H
  | .cmp2 l o1 m o2 r, μ, H, Q => mwpE cx n l μ H fun a H => mwpE cx n m μ H fun b H => onO (cmpP cx o1 a b H) fun c =>
      (c = true → mwpE cx n r μ H fun d H => onO (cmpP cx o2 b d H) fun e => Q (.bool e) H) ∧ (c = false → Q (.bool false) H)
  | .ife c t e, μ, H, Q => mwpE cx n c μ H fun v H => TruthP v fun b => (b = true → mwpE cx n t μ H Q) ∧ (b = false → mwpE cx n e μ H Q)
  | .gint i, _, H, Q => Q (.int i) H
  | .attr C i x, μ, H, Q => getL μ i ≠ .unb ∧ attrP C (getL μ i) x H Q
  | .callm C x f i args, μ, H, Q => getL μ i ≠ .unb ∧ instP C (getL μ i) x H ∧ mwpEs cx n args μ H fun vs H => CallP cx n f (getL μ i :: vs) H Q
  | .mk C f args, μ, H, Q => mwpEs cx n args μ H fun vs H => mkP cx n C f vs H Q
  | .dnil, _, H, Q => new cx H (.dct []) Q
  | .done k v, μ, H, Q => ∀ D, Fresh cx H D → mwpE cx n v μ (upd H D (.dct [])) fun w H' => H' D = some (.dct []) ∧ Q (.ref D) (upd H' D (.dct [(k, w)]))
  | .dsub o i, μ, H, Q => mwpE cx n o μ H fun ov H => mwpE cx n i μ H fun iv H => dsubP ov iv H Q
noncomputable def mwpEs (cx : Cx) (n : Nat) : MEs → List V → HP → (List V → HP → Prop) → Prop
  | .nil, _, H, Q => Q [] H
  | .cons e es, μ, H, Q => mwpE cx n e μ H fun v H => mwpEs cx n es μ H fun vs H => Q (v :: vs) H
noncomputable def mwpB (cx : Cx) (n : Nat) (op : BoolOp) : MEs → List V → HP → (V → HP → Prop) → Prop
  | .nil, _, _, _ => False
  | .cons e es, μ, H, Q => match es with
    | .nil => mwpE cx n e μ H Q
    | .cons _ _ => mwpE cx n e μ H fun v H => TruthP v fun b => (b = (op == .And) → mwpB cx n op es μ H Q) ∧ (b = (op == .Or) → Q (.bool b) H)
end

noncomputable def ForP (items : List V) (st : HP → Prop) (μ₀ : List V) (H₀ : HP) (turn : V → List V → HP → (List V → HP → Prop) → Prop) (N : List V → HP → Prop) : Prop :=
  ∃ I : List V → List V → HP → Prop, I [] μ₀ H₀ ∧ (∀ done μ H, I done μ H → st H) ∧
    (∀ done x rest μ H, items = done ++ x :: rest → I done μ H → turn x μ H fun μ' H' => ∃ H₃, LE H₃ H' ∧ I (done ++ [x]) μ' H₃) ∧
    (∀ μ H, I items μ H → N μ H)

mutual
noncomputable def mwpS (cx : Cx) (n : Nat) : MS → List V → HP → (List V → HP → Prop) → (V → HP → Prop) → Prop
  | .assign i e, μ, H, N, _ => mwpE cx n e μ H fun v H => N (setL μ i v) H
  | .setSub o i v, μ, H, N, _ => mwpE cx n v μ H fun vv H => mwpE cx n o μ H fun ov H => mwpE cx n i μ H fun iv H => setSubP ov iv vv H fun H => N μ H
  | .expr e, μ, H, N, _ => mwpE cx n e μ H fun _ H => N μ H
  | .ite c t e, μ, H, N, R => mwpE cx n c μ H fun v H => TruthP v fun b => (b = true → mwpSs cx n t μ H N R) ∧ (b = false → mwpSs cx n e μ H N R)
  | .for_ i it body, μ, H, N, R => mwpE cx n it μ H fun v H => IterP cx v H fun items st H₀ => ForP items st μ H₀ (fun x μ H K => mwpSs cx n body (setL μ i x) H K (nx R)) N
  | .forR i a b body, μ, H, N, R => mwpE cx n a μ H fun x H => mwpE cx n b μ H fun y H => RngP x y fun items => ForP items (fun _ => True) μ H (fun x μ H K => mwpSs cx n body (setL μ i x) H K (nx R)) N
  | .while_ c body, μ, H, N, R => ∃ I : Nat → List V → HP → Prop, (∃ k, I k μ H) ∧ ∀ k μ H, I k μ H → mwpE cx n c μ H fun v H => TruthP v fun b =>
      (b = true → mwpSs cx n body μ H (fun μ' H' => ∃ H₃, LE H₃ H' ∧ ∃ m, m < k ∧ I m μ' H₃) (nx R)) ∧ (b = false → N μ H)
  | .ret e, μ, H, _, R => mwpE cx n e μ H R
  | .setAttr C i x e, μ, H, N, _ => mwpE cx n e μ H fun v H => getL μ i ≠ .unb ∧ setAttrP C (getL μ i) x v H fun H => N μ H
  | .raise_, _, _, _, _ => False
  | .retN, _, H, _, R => R .none H
  | .setD o i v, μ, H, N, _ => mwpE cx n v μ H fun vv H => mwpE cx n o μ H fun ov H => mwpE cx n i μ H fun iv H => setDP ov iv vv H fun H => N μ H
  | .raiseS C m, μ, H, _, R => mwpE cx n m μ H fun _ H => R (.exc C) H
  | .tryS i C x f j as K h, μ, H, N, R => getL μ j ≠ .unb ∧ instP C (getL μ j) x H ∧ mwpEs cx n as μ H fun vs H => CallX cx n f (getL μ j :: vs) H fun v H => onX v (fun v => N (setL μ i v) H) fun D => D = K ∧ mwpE cx n h μ H R
noncomputable def mwpSs (cx : Cx) (n : Nat) : MSs → List V → HP → (List V → HP → Prop) → (V → HP → Prop) → Prop
  | .nil, μ, H, N, _ => N μ H
  | .cons s r, μ, H, N, R => mwpS cx n s μ H (fun μ H => mwpSs cx n r μ H N R) R
end

section
variable {cx : Cx} {n : Nat} {μ : List V} {H : HP} {Q : V → HP → Prop} {N : List V → HP → Prop} {R : V → HP → Prop} {QL : List V → HP → Prop}
theorem e_cint {i : Int} : mwpE cx n (.cint i) μ H Q = Q (.int i) H := rfl
theorem e_cbool {b : Bool} : mwpE cx n (.cbool b) μ H Q = Q (.bool b) H := rfl
theorem e_cnone : mwpE cx n .cnone μ H Q = Q .none H := rfl
theorem e_cstr {x : Str} : mwpE cx n (.cstr x) μ H Q = Q (.str x) H := rfl
theorem e_loc {i : Nat} : mwpE cx n (.loc i) μ H Q = (getL μ i ≠ .unb ∧ Q (getL μ i) H) := rfl
theorem e_bin {op : Operator} {l r : ME} : mwpE cx n (.bin op l r) μ H Q = mwpE cx n l μ H fun a H => mwpE cx n r μ H fun b H => binP cx op a b H Q := rfl
theorem e_not {e : ME} : mwpE cx n (.not e) μ H Q = mwpE cx n e μ H fun v H => TruthP v fun b => Q (.bool (!b)) H := rfl
theorem e_cmp {l r : ME} {op : CmpOp} : mwpE cx n (.cmp l op r) μ H Q = mwpE cx n l μ H fun a H => mwpE cx n r μ H fun b H => onO (cmpP cx op a b H) fun c => Q (.bool c) H := rfl
theorem e_bop {op : BoolOp} {es : MEs} : mwpE cx n (.bop op es) μ H Q = mwpB cx n op es μ H Q := rfl
theorem e_callf {f : Addr} {as : MEs} : mwpE cx n (.callf f as) μ H Q = mwpEs cx n as μ H fun vs H => CallP cx n f vs H Q := rfl
theorem e_callb {b : BF} {as : MEs} : mwpE cx n (.callb b as) μ H Q = mwpEs cx n as μ H fun vs H => callbP cx b vs H Q := rfl
theorem e_isi {e : ME} {t : String} : mwpE cx n (.isi e t) μ H Q = mwpE cx n e μ H fun v H => onO (isiP H v t) fun b => Q (.bool b) H := rfl
theorem e_meth {o : ME} {m : Mth} {as : MEs} : mwpE cx n (.meth o m as) μ H Q = mwpE cx n o μ H fun ov H => listAt ov H ∧ mwpEs cx n as μ H fun vs H => methP ov m vs H Q := rfl
theorem e_sub {o i : ME} : mwpE cx n (.sub o i) μ H Q = mwpE cx n o μ H fun ov H => mwpE cx n i μ H fun iv H => subP cx ov iv H Q := rfl
theorem e_slice {o lo hi : ME} : mwpE cx n (.slice o lo hi) μ H Q = mwpE cx n o μ H fun ov H => mwpE cx n lo μ H fun l H => mwpE cx n hi μ H fun h H => sliceP cx ov l h H Q := rfl
theorem e_list {es : MEs} : mwpE cx n (.list es) μ H Q = mwpEs cx n es μ H fun vs H => vs.length ≤ 16777216 ∧ new cx H (.list vs) Q := rfl
theorem e_tup {es : MEs} : mwpE cx n (.tup es) μ H Q = mwpEs cx n es μ H fun vs H => vs.length ≤ 16777216 ∧ new cx H (.tup vs) Q := rfl
theorem e_comp {elt it cond : ME} : mwpE cx n (.comp elt it cond) μ H Q = mwpE cx n it μ H fun v H => IterP cx v H fun items st H₀ => CompP cx items st H₀ (fun x H₁ K =>
      mwpE cx n cond (μ ++ [x]) H₁ fun c H₂ => TruthP c fun b => (b = true → mwpE cx n elt (μ ++ [x]) H₂ fun v H₃ => K (some v) H₃) ∧ (b = false → K none H₂)) Q := rfl
theorem e_compR {elt a b cond : ME} : mwpE cx n (.compR elt a b cond) μ H Q = mwpE cx n a μ H fun x H => mwpE cx n b μ H fun y H => RngP x y fun items => CompP cx items (fun _ => True) H (fun x H₁ K =>
      mwpE cx n cond (μ ++ [x]) H₁ fun c H₂ => TruthP c fun b => (b = true → mwpE cx n elt (μ ++ [x]) H₂ fun v H₃ => K (some v) H₃) ∧ (b = false → K none H₂)) Q := rfl
theorem e_neg {e : ME} : mwpE cx n (.neg e) μ H Q = mwpE cx n e μ H fun v H => onI v fun i => Q (.int (-i)) H := rfl
theorem e_cmp2 {l m r : ME} {o1 o2 : CmpOp} : mwpE cx n (.cmp2 l o1 m o2 r) μ H Q = mwpE cx n l μ H fun a H => mwpE cx n m μ H fun b H => onO (cmpP cx o1 a b H) fun c =>
      (c = true → mwpE cx n r μ H fun d H => onO (cmpP cx o2 b d H) fun e => Q (.bool e) H) ∧ (c = false → Q (.bool false) H) := rfl
theorem e_ife {c t e : ME} : mwpE cx n (.ife c t e) μ H Q = mwpE cx n c μ H fun v H => TruthP v fun b => (b = true → mwpE cx n t μ H Q) ∧ (b = false → mwpE cx n e μ H Q) := rfl
theorem e_gint {i : Int} : mwpE cx n (.gint i) μ H Q = Q (.int i) H := rfl
theorem e_attr {C : Addr} {i : Nat} {x : Str} : mwpE cx n (.attr C i x) μ H Q = (getL μ i ≠ .unb ∧ attrP C (getL μ i) x H Q) := rfl
theorem e_callm {C f : Addr} {i : Nat} {x : Str} {as : MEs} : mwpE cx n (.callm C x f i as) μ H Q = (getL μ i ≠ .unb ∧ instP C (getL μ i) x H ∧ mwpEs cx n as μ H fun vs H => CallP cx n f (getL μ i :: vs) H Q) := rfl
theorem e_mk {C f : Addr} {as : MEs} : mwpE cx n (.mk C f as) μ H Q = mwpEs cx n as μ H fun vs H => mkP cx n C f vs H Q := rfl
theorem e_dnil : mwpE cx n .dnil μ H Q = new cx H (.dct []) Q := rfl
theorem e_done {k : Int} {v : ME} : mwpE cx n (.done k v) μ H Q = ∀ D, Fresh cx H D → mwpE cx n v μ (upd H D (.dct [])) fun w H' => H' D = some (.dct []) ∧ Q (.ref D) (upd H' D (.dct [(k, w)])) := rfl
theorem e_dsub {o i : ME} : mwpE cx n (.dsub o i) μ H Q = mwpE cx n o μ H fun ov H => mwpE cx n i μ H fun iv H => dsubP ov iv H Q := rfl
theorem es_nil : mwpEs cx n .nil μ H QL = QL [] H := rfl
theorem es_cons {e : ME} {es : MEs} : mwpEs cx n (.cons e es) μ H QL = mwpE cx n e μ H fun v H => mwpEs cx n es μ H fun vs H => QL (v :: vs) H := rfl
theorem b_one {op : BoolOp} {e : ME} : mwpB cx n op (.cons e .nil) μ H Q = mwpE cx n e μ H Q := rfl
theorem b_more {op : BoolOp} {e e' : ME} {es : MEs} : mwpB cx n op (.cons e (.cons e' es)) μ H Q = mwpE cx n e μ H fun v H => TruthP v fun b => (b = (op == .And) → mwpB cx n op (.cons e' es) μ H Q) ∧ (b = (op == .Or) → Q (.bool b) H) := rfl
theorem s_assign {i : Nat} {e : ME} : mwpS cx n (.assign i e) μ H N R = mwpE cx n e μ H fun v H => N (setL μ i v) H := rfl
theorem s_setSub {o i v : ME} : mwpS cx n (.setSub o i v) μ H N R = mwpE cx n v μ H fun vv H => mwpE cx n o μ H fun ov H => mwpE cx n i μ H fun iv H => setSubP ov iv vv H fun H => N μ H := rfl
theorem s_expr {e : ME} : mwpS cx n (.expr e) μ H N R = mwpE cx n e μ H fun _ H => N μ H := rfl
theorem s_ite {c : ME} {t e : MSs} : mwpS cx n (.ite c t e) μ H N R = mwpE cx n c μ H fun v H => TruthP v fun b => (b = true → mwpSs cx n t μ H N R) ∧ (b = false → mwpSs cx n e μ H N R) := rfl
theorem s_for {i : Nat} {it : ME} {body : MSs} : mwpS cx n (.for_ i it body) μ H N R = mwpE cx n it μ H fun v H => IterP cx v H fun items st H₀ => ForP items st μ H₀ (fun x μ H K => mwpSs cx n body (setL μ i x) H K (nx R)) N := rfl
theorem s_forR {i : Nat} {a b : ME} {body : MSs} : mwpS cx n (.forR i a b body) μ H N R = mwpE cx n a μ H fun x H => mwpE cx n b μ H fun y H => RngP x y fun items => ForP items (fun _ => True) μ H (fun x μ H K => mwpSs cx n body (setL μ i x) H K (nx R)) N := rfl
theorem s_while {c : ME} {body : MSs} : mwpS cx n (.while_ c body) μ H N R = ∃ I : Nat → List V → HP → Prop, (∃ k, I k μ H) ∧ ∀ k μ H, I k μ H → mwpE cx n c μ H fun v H => TruthP v fun b =>
      (b = true → mwpSs cx n body μ H (fun μ' H' => ∃ H₃, LE H₃ H' ∧ ∃ m, m < k ∧ I m μ' H₃) (nx R)) ∧ (b = false → N μ H) := rfl
theorem s_ret {e : ME} : mwpS cx n (.ret e) μ H N R = mwpE cx n e μ H R := rfl
theorem s_setAttr {C : Addr} {i : Nat} {x : Str} {e : ME} : mwpS cx n (.setAttr C i x e) μ H N R = mwpE cx n e μ H fun v H => getL μ i ≠ .unb ∧ setAttrP C (getL μ i) x v H fun H => N μ H := rfl
theorem s_raise : mwpS cx n .raise_ μ H N R = False := rfl
theorem s_setD {o i v : ME} : mwpS cx n (.setD o i v) μ H N R = mwpE cx n v μ H fun vv H => mwpE cx n o μ H fun ov H => mwpE cx n i μ H fun iv H => setDP ov iv vv H fun H => N μ H := rfl
theorem s_raiseS {C : Addr} {m : ME} : mwpS cx n (.raiseS C m) μ H N R = mwpE cx n m μ H fun _ H => R (.exc C) H := rfl
theorem s_tryS {i j : Nat} {C f K : Addr} {x : Str} {as : MEs} {h : ME} : mwpS cx n (.tryS i C x f j as K h) μ H N R = (getL μ j ≠ .unb ∧ instP C (getL μ j) x H ∧ mwpEs cx n as μ H fun vs H => CallX cx n f (getL μ j :: vs) H fun v H => onX v (fun v => N (setL μ i v) H) fun D => D = K ∧ mwpE cx n h μ H R) := rfl
theorem s_retN : mwpS cx n .retN μ H N R = R .none H := rfl
theorem ss_nil : mwpSs cx n .nil μ H N R = N μ H := rfl
theorem ss_cons {s : MS} {r : MSs} : mwpSs cx n (.cons s r) μ H N R = mwpS cx n s μ H (fun μ H => mwpSs cx n r μ H N R) R := rfl
end
end Mine
end

section
namespace Mine
open PySem PyProof.Rows

noncomputable def EP (cx : Cx) (s : Shared) (H : HP) (Q : V → HP → Prop) : Value → Shared → Prop := fun v s' => ∃ H', HS cx H' s' ∧ KE s H s' H' ∧ Q (abs v) H'

theorem EP.from {cx : Cx} {s s₁ : Shared} {H H₁ : HP} {Q : V → HP → Prop} (k : KE s H s₁ H₁) {v : Value} {s' : Shared} (h : EP cx s₁ H₁ Q v s') : EP cx s H Q v s' := by
  obtain ⟨H', a, b, c⟩ := h
  exact ⟨H', a, k.trans b, c⟩
theorem ep_from {cx : Cx} {s s₁ : Shared} {H H₁ : HP} {Q : V → HP → Prop} {M : Model} {A : Around} {E : Value → Shared → Prop} {t : Sem Value} (k : KE s H s₁ H₁) (h : wpAny M A t (EP cx s₁ H₁ Q) E s₁) : wpAny M A t (EP cx s H Q) E s₁ :=
  wpAny_mono h (fun _ _ x => x.from k) fun _ _ e => e

theorem abs_bool {v : Value} {b : Bool} (h : abs v = .bool b) : v = .bool b := by cases v <;> first | (cases h; rfl) | cases h
theorem abs_int {v : Value} {i : Int} (h : abs v = .int i) : ∃ t, v = .int i t := by cases v <;> first | (cases h; exact ⟨_, rfl⟩) | cases h
theorem abs_ref {v : Value} {a : Addr} (h : abs v = .ref a) : v = .ref a := by cases v <;> first | (cases h; rfl) | cases h

section
variable {cx : Cx} {H : HP} {s : Shared} {A : Around} {E : Value → Shared → Prop} {n : Nat}

theorem lk_rep (C : cx.OK) (S : HS cx H s) {a : Addr} {o : O} (h : lk cx H a = some o) : Rep s.heap a o := by
  unfold lk at h
  split at h
  · rename_i e; cases h; exact S.hr a _ e
  · obtain ⟨vs, e, rfl⟩ := Option.map_eq_some_iff.mp h
    exact (C.z a vs e).keep (S.ext a)
theorem lst_get (C : cx.OK) (S : HS cx H s) {a : Addr} {vs : List V} (h : lst cx H a = some vs) : ∃ items k, IsL s.heap a items k ∧ items.toList.map abs = vs := by
  unfold lst at h
  split at h
  · rename_i e; cases h
    exact lk_rep C S e
  · cases h
theorem sq_get (C : cx.OK) (S : HS cx H s) {a : Addr} {vs : List V} (h : sq cx H a = some vs) :
    ∃ (T : String) (items : Array Value) (k : Nat), s.heap.get? a = some { cls := .type T, data := .seq items k } ∧ (T = "list" ∨ T = "tuple") ∧ items.toList.map abs = vs := by
  unfold sq at h
  split at h
  · rename_i e; cases h
    obtain ⟨i, k, q, m⟩ := lk_rep C S e
    exact ⟨_, i, k, q, .inl rfl, m⟩
  · rename_i e; cases h
    obtain ⟨i, k, q, m⟩ := lk_rep C S e
    exact ⟨_, i, k, q, .inr rfl, m⟩
  · cases h

theorem size_of {items : Array Value} {vs : List V} (h : items.toList.map abs = vs) : items.size = vs.length := by rw [← h]; simp

theorem ep_push (C : cx.OK) (S : HS cx H s) {Q : V → HP → Prop} {o : O} (h : new cx H o Q) {ob : Obj} (R : ∀ h : Heap, h.get? s.heap.objs.size = some ob → Rep h s.heap.objs.size o) (hf : ob.isFreed = false) (tk : Nat) :
    EP cx s H Q (.ref s.heap.objs.size) { s with heap := s.heap.push ob, toks := tk } := by
  have k : ∀ b o', s.heap.get? b = some o' → (s.heap.push ob).get? b = some o' := fun b o' e => Heap.get?_push_of_some _ e
  exact ⟨_, S.alloc k (get_size _) (R _ (Heap.get?_push_size _ hf)) tk, KE.alloc k (get_size _) tk, h _ (S.fresh C (get_size _))⟩
theorem rep_list {h : Heap} {a : Addr} {items : Array Value} {k : Nat} {vs : List V} (e : h.get? a = some { cls := .type "list", data := .seq items k }) (m : items.toList.map abs = vs) : Rep h a (.list vs) := ⟨items, k, e, m⟩
theorem rep_tup {h : Heap} {a : Addr} {items : Array Value} {k : Nat} {vs : List V} (e : h.get? a = some { cls := .type "tuple", data := .seq items k }) (m : items.toList.map abs = vs) : Rep h a (.tup vs) := ⟨items, k, e, m⟩

theorem ep_same {Q : V → HP → Prop} (S : HS cx H s) {v : Value} (tk : Nat) (h : Q (abs v) H) : EP cx s H Q v { s with toks := tk } := ⟨H, S.toks tk, KE.toks s H tk, h⟩
theorem ep_here {Q : V → HP → Prop} (S : HS cx H s) {v : Value} (h : Q (abs v) H) : EP cx s H Q v s := ⟨H, S, Kept.refl _ s H, h⟩
theorem ep_grow {Q : V → HP → Prop} (S : HS cx H s) {v : Value} {h' : Heap} {tk : Nat} (k : ∀ b o, s.heap.get? b = some o → h'.get? b = some o) (h : Q (abs v) H) :
    EP cx s H Q v { s with heap := h', toks := tk } := ⟨H, S.grow k tk, KE.grow k tk, h⟩

theorem replicate_fold (items : Array Value) (m : Nat) : (List.foldl (fun x1 x2 => x1 ++ x2) #[] (List.replicate m items)).toList = (List.replicate m items.toList).flatten := by
  have : ∀ (l : List (Array Value)) (acc : Array Value), (List.foldl (fun x1 x2 => x1 ++ x2) acc l).toList = acc.toList ++ (l.map Array.toList).flatten := by
    intro l
    induction l with
    | nil => intro acc; simp
    | cons x l ih => intro acc; rw [List.foldl_cons, ih]; simp
  rw [this]; simp

theorem pylong_room (C : cx.OK) (hA : AOK0 A n) (S : HS cx H s) : PylongRoom (model cx.prog cx.w) A s := by
  obtain ⟨env, outer, hf, h1, h2, h3, h4⟩ := hA.top
  refine PylongRoom.of (C.nolimit.keeps S.ext) ?_ (SeerAt.of (C.seer.keeps S.ext) C.tree hf h1 h2 h3 h4)
  have := hA.depth
  unfold recursionLimit Builtin.pylongFrames
  first | lia | omega

theorem add_ok (C : cx.OK) (S : HS cx H s) {a b : Value} {Q : V → HP → Prop} (h : addP cx (abs a) (abs b) H Q) : wpAny (model cx.prog cx.w) A (binaryOp .Add a b) (EP cx s H Q) E s := by
  cases a with
  | int x t =>
    obtain ⟨y, hb, h⟩ := onI_inv h
    obtain ⟨u, rfl⟩ := abs_int hb
    exact PyProof.Rows.add_int (ep_same S _ h)
  | ref x =>
    obtain ⟨y, hb, h⟩ := onR_inv h
    have := abs_ref hb; subst this
    obtain ⟨xs, hx, h⟩ := onO_inv h
    obtain ⟨ys, hy, h⟩ := onO_inv h
    obtain ⟨i1, k1, e1, m1⟩ := lst_get C S hx
    obtain ⟨i2, k2, e2, m2⟩ := lst_get C S hy
    refine PySem.P.add_list e1 e2 (ep_push C S h.2 (fun h e => rep_list e (by simp [m1, m2])) rfl _) ?_
    rw [size_of m1, size_of m2, sizeLine_eq]; exact h.1
  | _ => exact False.elim h
theorem mul_ok (C : cx.OK) (S : HS cx H s) {a b : Value} {Q : V → HP → Prop} (h : mulP cx (abs a) (abs b) H Q) : wpAny (model cx.prog cx.w) A (binaryOp .Mult a b) (EP cx s H Q) E s := by
  cases a with
  | int x t =>
    obtain ⟨y, hb, h⟩ := onI_inv h
    obtain ⟨u, rfl⟩ := abs_int hb
    exact PyProof.Rows.mul_int (ep_same S _ h.2) h.1
  | ref a =>
    obtain ⟨x, hb, h⟩ := onI_inv h
    obtain ⟨u, rfl⟩ := abs_int hb
    obtain ⟨xs, hx, hn0, hn, hsz, h⟩ := onO_inv h
    obtain ⟨i1, k1, e1, m1⟩ := lst_get C S hx
    rw [← size_of m1] at hsz
    refine wpAny_binaryOp_repeat_ref (T := "list") (U := "int") (by decide) ⟨_, e1, rfl⟩ (fun s' => typeIs_int s' x u) noFill_list_mul F.fills_int_mul F.slot_int_rmul repeat_list F.slot_int_index.lookup
        (call_meets F.slot_int_rmul (typeIs_int s x u) F.entry_int_rmul (F.args_int_rmul_2 _ _) (int___rmul___int_list x u _ i1 k1)
          ⟨e1, rfl, ⟨_, e1, rfl⟩, call_meets F.slot_list_mul ⟨_, e1, rfl⟩ F.entry_list_mul (F.args_list_mul_2 _ _)
            (AutoListH.list___mul___list_int_3 _ i1 k1 x u (by simp [Builtin.List.listFitsIndex]; omega) (by first | lia | omega) (by simp [Builtin.List.listTooLong, sizeLine]; omega))
            ⟨e1, ?_⟩⟩)
    refine ep_push C S h (fun h e => rep_list e ?_) rfl _
    rw [replicate_fold, ← m1]
    split
    · rename_i he
      have : i1 = #[] := by simpa using he
      subst this; simp
    · simp [List.map_flatten]
  | _ => exact False.elim h
theorem bin_ok (C : cx.OK) (hA : AOK0 A n) (S : HS cx H s) {op : Operator} {a b : Value} {Q : V → HP → Prop} (h : binP cx op (abs a) (abs b) H Q) :
    wpAny (model cx.prog cx.w) A (binaryOp op a b) (EP cx s H Q) E s := by
  have ii : ∀ {k : Int → Int → Prop}, (onI (abs a) fun x => onI (abs b) fun y => k x y) → ∃ x y t u, a = .int x t ∧ b = .int y u ∧ k x y := fun h => by
    obtain ⟨x, e1, h⟩ := onI_inv h
    obtain ⟨y, e2, h⟩ := onI_inv h
    obtain ⟨t, e1⟩ := abs_int e1
    obtain ⟨u, e2⟩ := abs_int e2
    exact ⟨x, y, t, u, e1, e2, h⟩
  cases op with
  | Add => exact add_ok C S h
  | Mult => exact mul_ok C S h
  | Sub =>
    obtain ⟨x, y, t, u, rfl, rfl, h⟩ := ii h
    exact PyProof.Rows.sub_int (ep_same S _ h)
  | FloorDiv =>
    obtain ⟨x, y, t, u, rfl, rfl, h1, h2⟩ := ii h
    exact PyProof.Rows.floordiv_int h1 (ep_same S _ h2) (Or.inr (pylong_room C hA S))
  | Mod =>
    obtain ⟨x, y, t, u, rfl, rfl, h1, h2⟩ := ii h
    exact PyProof.Rows.mod_int' h1 (ep_same S _ h2)
  | Pow =>
    obtain ⟨x, y, t, u, rfl, rfl, h1, h2, h3⟩ := ii h
    exact PyProof.Rows.pow_int h1 h2 (ep_same S _ h3)
  | _ => exact False.elim h
end
end Mine
end

section
namespace Mine
open PySem PyProof.Rows PySem.SeqAt

theorem asInts_some : ∀ {vs : List V} {l : List Int}, asInts vs = some l → vs = intsV l
  | [], l, h => by cases h; rfl
  | .int i :: r, l, h => by
    simp only [asInts, Option.map_eq_some_iff] at h
    obtain ⟨l', h1, rfl⟩ := h
    simp only [intsV, List.map_cons]; rw [asInts_some h1]; rfl
  | .unb :: _, _, h => by cases h
  | .none :: _, _, h => by cases h
  | .bool _ :: _, _, h => by cases h
  | .str _ :: _, _, h => by cases h
  | .ref _ :: _, _, h => by cases h
  | .other :: _, _, h => by cases h

theorem eqNe_inv {op : CmpOp} {b c : Bool} (h : eqNe op b = some c) : (op = .Eq ∧ c = b) ∨ (op = .NotEq ∧ c = !b) := by
  cases op <;> first | (cases h; exact .inl ⟨rfl, rfl⟩) | (cases h; exact .inr ⟨rfl, rfl⟩) | cases h

noncomputable def hits (x : Int) : Value → Bool
  | .int i _ => i == x
  | _ => false

theorem any_hits {x : Int} : ∀ {items : List Value} {l : List Int}, items.map abs = intsV l → items.any (hits x) = l.contains x
  | [], [], _ => rfl
  | [], _ :: _, h => by cases h
  | _ :: _, [], h => by cases h
  | v :: r, i :: l, h => by
    simp only [intsV, List.map_cons, List.cons.injEq] at h
    obtain ⟨t, rfl⟩ := abs_int h.1
    rw [List.any_cons, List.contains_cons, any_hits (l := l) (by simpa [intsV] using h.2)]
    simp only [hits]
    rw [Bool.beq_comm]
theorem mem_int {items : List Value} {l : List Int} (h : items.map abs = intsV l) {y : Value} (hy : y ∈ items) : ∃ i t, y = .int i t := by
  have : abs y ∈ intsV l := by rw [← h]; exact List.mem_map_of_mem hy
  simp only [intsV, List.mem_map] at this
  obtain ⟨i, _, e⟩ := this
  obtain ⟨t, q⟩ := abs_int e.symm
  exact ⟨i, t, q⟩

section
variable {cx : Cx} {H : HP} {s : Shared} {A : Around} {E : Value → Shared → Prop} {n : Nat}

theorem rdS_inv {h : Heap} {x : Str} {t : Tok} {n : Nat} {d : PyData} (e : rdS x = some d) : (∃ as, Reads h (.str x t) d as) ∧ d.canLay0 = true ∧ d.depth ≤ n := by
  unfold rdS at e
  split at e
  · rename_i q; cases e; exact ⟨⟨_, .str _ _⟩, q, Nat.zero_le _⟩
  · cases e
theorem rdV_reads (C : cx.OK) (S : HS cx H s) : ∀ (n : Nat) (v : Value) (d : PyData), rdV cx H n (abs v) = some d → (∃ as, Reads s.heap v d as) ∧ d.canLay0 = true ∧ d.depth ≤ n := by
  intro n
  induction n with
  | zero =>
    intro v d h
    cases v <;> first | (cases h; exact ⟨⟨_, .int _ _⟩, rfl, Nat.zero_le _⟩) | exact rdS_inv h | cases h
  | succ n ih =>
    have all : ∀ (vs : List Value) (ds : List PyData), (vs.map abs).mapM (rdV cx H n) = some ds → (∃ as, ReadsAll s.heap vs ds as) ∧ PyData.canLayAll0 ds = true ∧ PyData.depthAll ds ≤ n := by
      intro vs
      induction vs with
      | nil => intro ds h; simp at h; subst h; exact ⟨⟨_, .nil⟩, rfl, Nat.zero_le _⟩
      | cons v vs ihv =>
        intro ds h
        simp only [List.map_cons, List.mapM_cons, Option.pure_def, Option.bind_eq_bind, Option.bind_eq_some_iff] at h
        obtain ⟨d, h1, es, h2, h3⟩ := h
        cases h3
        obtain ⟨⟨as, r⟩, c, dp⟩ := ih v d h1
        obtain ⟨⟨bs, rs⟩, cs, dps⟩ := ihv es h2
        exact ⟨⟨_, .cons r rs⟩, by rw [PyData.canLayAll0, c, cs]; rfl, Nat.max_le.mpr ⟨dp, dps⟩⟩
    intro v d h
    cases v with
    | int => cases h; exact ⟨⟨_, .int _ _⟩, rfl, Nat.zero_le _⟩
    | str => exact rdS_inv h
    | ref a =>
      have h : (match lk cx H a with
        | some (.list vs) => (vs.mapM (rdV cx H n)).map .list
        | some (.tup vs) => (vs.mapM (rdV cx H n)).map .tuple
        | _ => none) = some d := h
      cases hl : lk cx H a with
      | none => rw [hl] at h; cases h
      | some o =>
        rw [hl] at h
        have R := lk_rep C S hl
        cases o with
        | list vs =>
          obtain ⟨ds, e1, rfl⟩ := Option.map_eq_some_iff.mp h
          obtain ⟨items, k, e, m⟩ := R
          rw [← m] at e1
          obtain ⟨⟨as, r⟩, c, dp⟩ := all _ _ e1
          exact ⟨⟨_, .list e rfl rfl r⟩, c, Nat.succ_le_succ dp⟩
        | tup vs =>
          obtain ⟨ds, e1, rfl⟩ := Option.map_eq_some_iff.mp h
          obtain ⟨items, k, e, m⟩ := R
          rw [← m] at e1
          obtain ⟨⟨as, r⟩, c, dp⟩ := all _ _ e1
          exact ⟨⟨_, .tuple e rfl rfl r⟩, c, Nat.succ_le_succ dp⟩
        | _ => cases h
    | _ => cases h
theorem cmpRR_ok (C : cx.OK) (hA : ACall0 A n) (S : HS cx H s) {op : CmpOp} {x y : Addr} {c : Bool} {Q : V → HP → Prop} (h : ((rdV cx H 2 (.ref x)).bind fun d => (rdV cx H 2 (.ref y)).bind fun e => eqNe op (PyData.eqv d e)) = some c) (hQ : Q (.bool c) H) : wpAny (model cx.prog cx.w) A (compareOp op (.ref x) (.ref y)) (EP cx s H Q) E s := by
  have fin : EP cx s H Q (.bool c) s := ep_here S hQ
  obtain ⟨d, hd, h⟩ := Option.bind_eq_some_iff.mp h
  obtain ⟨e, he, h⟩ := Option.bind_eq_some_iff.mp h
  obtain ⟨⟨as, r⟩, c1, dp⟩ := rdV_reads C S 2 (.ref x) d hd
  obtain ⟨⟨bs, r'⟩, c2, dp'⟩ := rdV_reads C S 2 (.ref y) e he
  have sh : ∀ {d : PyData}, d.canLay0 = true → d.depth ≤ 2 → shaped d = true := fun c dp => by unfold shaped; rw [c, decide_eq_true (Nat.le_trans dp (by decide))]; rfl
  have hu : A.units + 64 < cLine := by have := hA.units; unfold cLine; omega
  rcases eqNe_inv h with ⟨rfl, rfl⟩ | ⟨rfl, rfl⟩
  · exact eq_dataH r r' (sh c1 dp) (sh c2 dp') hu fin
  · exact ne_dataH r r' (sh c1 dp) (sh c2 dp') hu fin
theorem cmpII_ok (S : HS cx H s) {op : CmpOp} {x y : Int} {t u : Tok} {c : Bool} {Q : V → HP → Prop} (h : cmpII op x y = some c) (hQ : Q (.bool c) H) : wpAny (model cx.prog cx.w) A (compareOp op (.int x t) (.int y u)) (EP cx s H Q) E s := by
  have fin : EP cx s H Q (.bool c) s := ep_here S hQ
  cases op with
  | Lt => cases h; exact PyProof.Rows.lt_int fin
  | LtE => cases h; exact PyProof.Rows.le_int fin
  | Gt => cases h; exact PyProof.Rows.gt_int fin
  | Eq => cases h; exact PyProof.Rows.eq_int fin
  | NotEq => cases h; exact PyProof.Rows.ne_int fin
  | _ => cases h
theorem in_ok (C : cx.OK) (S : HS cx H s) {x : Int} {t : Tok} {a : Addr} {vs : List V} {l : List Int} {Q : Value → Shared → Prop} (hvs : sq cx H a = some vs) (hl : asInts vs = some l) :
    (Q (.bool (l.contains x)) s → wpAny (model cx.prog cx.w) A (compareOp .In (.int x t) (.ref a)) Q E s) ∧ (Q (.bool (!l.contains x)) s → wpAny (model cx.prog cx.w) A (compareOp .NotIn (.int x t) (.ref a)) Q E s) := by
  obtain ⟨T, items, k, e, hT, m⟩ := sq_get C S hvs
  rw [asInts_some hl] at m
  have hany : items.any (hits x) = l.contains x := by rw [← any_hits m, ← Array.any_toList]
  have he : ∀ y, y ∈ items → EqAt A.in1 s y (.int x t) (hits x y) := fun y hy => by
    obtain ⟨i, u, rfl⟩ := mem_int m (Array.mem_toList_iff.mpr hy)
    exact EqAt.int_int i u x t
  rcases hT with rfl | rfl
  · exact ⟨fun q => in_listAt (hits x) ⟨_, e, rfl, k, rfl⟩ he (by rw [hany]; exact q), fun q => notIn_listAt (hits x) ⟨_, e, rfl, k, rfl⟩ he (by rw [hany]; exact q)⟩
  · exact ⟨fun q => in_tupleAt (hits x) ⟨_, e, rfl, k, rfl⟩ he (by rw [hany]; exact q), fun q => notIn_tupleAt (hits x) ⟨_, e, rfl, k, rfl⟩ he (by rw [hany]; exact q)⟩
theorem in_inv {a : Addr} {g : List Int → Bool} {c : Bool} (h : ((sq cx H a).bind fun vs => (asInts vs).map g) = some c) : ∃ vs l, sq cx H a = some vs ∧ asInts vs = some l ∧ c = g l := by
  obtain ⟨vs, hvs, h⟩ := Option.bind_eq_some_iff.mp h
  obtain ⟨l, hl, rfl⟩ := Option.map_eq_some_iff.mp h
  exact ⟨vs, l, hvs, hl, rfl⟩
theorem cmp_ok (C : cx.OK) (hA : ACall0 A n) (S : HS cx H s) {op : CmpOp} {a b : Value} {c : Bool} {Q : V → HP → Prop} (h : cmpP cx op (abs a) (abs b) H = some c) (hQ : Q (.bool c) H) :
    wpAny (model cx.prog cx.w) A (compareOp op a b) (EP cx s H Q) E s := by
  cases a with
  | int x t => cases b with
    | int y u => exact cmpII_ok S h hQ
    | bool y => cases op with
      | IsNot => cases h; exact wpAny_isNot_other rfl (by simp) (ep_here S hQ)
      | _ => cases h
    | ref a => cases op with
      | NotIn => obtain ⟨vs, l, h1, h2, rfl⟩ := in_inv h; exact (in_ok C S h1 h2).2 (ep_here S hQ)
      | In => obtain ⟨vs, l, h1, h2, rfl⟩ := in_inv h; exact (in_ok C S h1 h2).1 (ep_here S hQ)
      | _ => cases h
    | _ => cases h
  | str x t => cases b with
    | str y u =>
      rcases eqNe_inv h with ⟨rfl, rfl⟩ | ⟨rfl, rfl⟩
      · exact PyProof.Rows.eq_str (ep_here S hQ)
      · exact PyProof.Rows.ne_str (ep_here S hQ)
    | _ => cases h
  | bool x => cases b with
    | bool y =>
      rcases eqNe_inv h with ⟨rfl, rfl⟩ | ⟨rfl, rfl⟩
      · exact PyProof.Rows.eq_bool (ep_here S hQ)
      · exact PyProof.Rows.ne_bool (ep_here S hQ)
    | _ => cases h
  | ref x => cases b with
    | ref y => exact cmpRR_ok C hA S h hQ
    | _ => cases h
  | none => cases b with
    | none => cases op with
      | Is => cases h; exact PyProof.Rows.is_none_none (ep_here S hQ)
      | _ => cases h
    | _ => cases h
  | _ => cases h

theorem isi_ok (S : HS cx H s) {v : Value} {t : String} {b : Bool} {Q : V → HP → Prop} (h : isiP H (abs v) t = some b) (hQ : Q (.bool b) H) :
    wpAny (model cx.prog cx.w) A (call (.builtin "isinstance") [v, .type t]) (EP cx s H Q) E s := by
  have key : ∀ {u : String}, (if t = u then some true else none) = some b → t = u ∧ b = true := fun {u} h => by
    by_cases q : t = u
    · rw [if_pos q] at h; cases h; exact ⟨q, rfl⟩
    · rw [if_neg q] at h; cases h
  cases v with
  | int x u =>
    have h : (if t = "int" then some true else if t = "bool" then some false else none) = some b := h
    by_cases q : t = "int"
    · rw [if_pos q] at h; cases h; subst q; exact IsiPair.int_int (ep_here S hQ)
    · rw [if_neg q] at h
      by_cases q : t = "bool"
      · rw [if_pos q] at h; cases h; subst q; exact IsiPair.int_bool (ep_same S _ hQ)
      · rw [if_neg q] at h; cases h
  | ref a =>
    have h : (match H a with
      | some (.list _) => if t = "list" then some true else none
      | some (.tup _) => if t = "tuple" then some true else none
      | _ => none) = some b := h
    cases e : H a with
    | none => rw [e] at h; cases h
    | some o =>
      rw [e] at h
      cases o with
      | list vs =>
        obtain ⟨rfl, rfl⟩ := key h
        obtain ⟨i, k, q, m⟩ := S.hr _ _ e
        exact IsiPair.list_list q rfl (ep_here S hQ)
      | tup vs =>
        obtain ⟨rfl, rfl⟩ := key h
        obtain ⟨i, k, q, m⟩ := S.hr _ _ e
        exact IsiPair.tuple_tuple q rfl (ep_here S hQ)
      | _ => cases h
  | _ => cases h
end
end Mine
end

section
namespace Mine
open PySem PyProof.Rows PySem.SeqAt

theorem range_pick {α : Type} (xs : List α) : ∀ (c l : Nat), ((List.range c).map fun k => l + k).filterMap (fun i => xs[i]?) = (xs.drop l).take c := by
  intro c
  induction c with
  | zero => intro l; simp
  | succ c ih =>
    intro l
    rw [List.range_succ_eq_map, List.map_cons, List.map_map]
    have e : ((fun k => l + k) ∘ Nat.succ) = fun k => (l + 1) + k := by funext k; simp only [Function.comp]; omega
    rw [e, List.filterMap_cons, ih (l + 1)]
    simp only [Nat.add_zero]
    cases h : xs[l]? with
    | none =>
      have hl : xs.length ≤ l := List.getElem?_eq_none_iff.mp h
      simp [List.drop_eq_nil_of_le hl, List.drop_eq_nil_of_le (Nat.le_succ_of_le hl)]
    | some x =>
      obtain ⟨hl, hx⟩ := List.getElem?_eq_some_iff.mp h
      simp only
      rw [List.drop_eq_getElem_cons hl, List.take_succ_cons, hx]

noncomputable def partOf : V → Option (Option Int)
  | .none => some none
  | .int i => some (some i)
  | _ => none

theorem isPart_of {v : Value} {x : Option Int} (h : partOf (abs v) = some x) : IsPart v x := by
  cases v <;> simp [abs, partOf] at h <;> subst h <;> constructor

theorem min_cast {j : Int} (h : 0 ≤ j) (n : Nat) : min j (n : Int) = ((min j.toNat n : Nat) : Int) := by
  obtain ⟨k, rfl⟩ := Int.eq_ofNat_of_zero_le h
  rw [Int.toNat_natCast]
  omega
theorem bnd_none (n : Nat) (j : Int) (h0 : 0 ≤ j) : sliceBounds none (some j) none n = (0, ((min j.toNat n : Nat) : Int), 1) := by
  simp [sliceBounds, Int.not_lt.mpr h0, min_cast h0]
theorem bnd_some (n : Nat) (i j : Int) (h1 : 0 ≤ i) (h0 : 0 ≤ j) : sliceBounds (some i) (some j) none n = (((min i.toNat n : Nat) : Int), ((min j.toNat n : Nat) : Int), 1) := by
  simp [sliceBounds, Int.not_lt.mpr h0, Int.not_lt.mpr h1, min_cast h0, min_cast h1]
theorem bnd_open (n : Nat) (i : Int) (h1 : 0 ≤ i) : sliceBounds (some i) none none n = (((min i.toNat n : Nat) : Int), (n : Int), 1) := by
  simp [sliceBounds, Int.not_lt.mpr h1, min_cast h1]
theorem bnd_all (n : Nat) : sliceBounds none none none n = (0, (n : Int), 1) := by
  simp [sliceBounds]
theorem rng_cut (l h : Nat) : sliceRange (l : Int) (h : Int) 1 = (List.range (h - l)).map fun k => l + k := by
  unfold sliceRange
  simp only [show (1 : Int) > 0 from by decide, if_true, Int.one_mul]
  have ec : (if (l : Int) < h then ((h : Int) - l + 1 - 1) / 1 else 0).toNat = h - l := by
    split <;> omega
  rw [ec]
  congr 1
theorem cutAt_inv {n l : Nat} {i : Int} (h : cutAt n i = some l) : 0 ≤ i ∧ l = min i.toNat n := by
  unfold cutAt at h
  by_cases q : 0 ≤ i
  · rw [if_pos q] at h; cases h; exact ⟨q, rfl⟩
  · rw [if_neg q] at h; cases h
theorem slice_cut {items : Array Value} {vs : List V} (m : items.toList.map abs = vs) {lo hi : V} {l h : Nat} (hl : cutLo vs.length lo = some l) (hh : cutHi vs.length hi = some h) :
    ∃ pl ph, partOf lo = some pl ∧ partOf hi = some ph ∧ (slicePick items pl ph none).toList.map abs = cut vs l h := by
  have key : ∀ pl ph, sliceBounds pl ph none items.size = ((l : Int), (h : Int), 1) → (slicePick items pl ph none).toList.map abs = cut vs l h := by
    intro pl ph e
    unfold slicePick
    rw [e]
    dsimp only
    rw [rng_cut]
    have := range_pick items.toList (h - l) l
    simp only [Array.getElem?_toList] at this
    show List.map abs (List.filterMap (fun i => items[i]?) _) = _
    rw [this, ← m]
    unfold cut
    rw [List.map_take, List.map_drop, List.drop_take]
  rw [← size_of m] at hl hh
  cases hi with
  | int j =>
    obtain ⟨h0, rfl⟩ := cutAt_inv hh
    cases lo with
    | none => cases hl; exact ⟨none, some j, rfl, rfl, key _ _ (bnd_none _ _ h0)⟩
    | int i =>
      obtain ⟨h1, rfl⟩ := cutAt_inv hl
      exact ⟨some i, some j, rfl, rfl, key _ _ (bnd_some _ _ _ h1 h0)⟩
    | _ => cases hl
  | none =>
    cases hh
    cases lo with
    | none => cases hl; exact ⟨none, none, rfl, rfl, key _ _ (bnd_all _)⟩
    | int i =>
      obtain ⟨h1, rfl⟩ := cutAt_inv hl
      exact ⟨some i, none, rfl, rfl, key _ _ (bnd_open _ _ h1)⟩
    | _ => cases hl
  | _ => cases hh

noncomputable def BF.val : BF → Value
  | .len => .builtin "len"
  | .list => .type "list"
  | .min => .builtin "min"
  | .sum => .builtin "sum"
theorem intItems_of : ∀ {vs : List Value} {l : List Int}, vs.map abs = intsV l → ∃ xs : Array (Int × Tok), vs.toArray = intItems xs ∧ xs.toList.map (·.1) = l
  | [], [], _ => ⟨#[], by simp [intItems], rfl⟩
  | [], _ :: _, h => by cases h
  | _ :: _, [], h => by cases h
  | v :: r, i :: l, h => by
    simp only [intsV, List.map_cons, List.cons.injEq] at h
    obtain ⟨t, rfl⟩ := abs_int h.1
    obtain ⟨xs, e, q⟩ := intItems_of (vs := r) (l := l) (by simpa [intsV] using h.2)
    refine ⟨((i, t) :: xs.toList).toArray, ?_, by simp [q]⟩
    have e' : r = (intItems xs).toList := by rw [← e]
    rw [e']; simp [intItems]
noncomputable def BF.quiet : BF → Bool
  | .min => false
  | .sum => false
  | _ => true

section
variable {cx : Cx} {H : HP} {s : Shared} {A : Around} {E : Value → Shared → Prop} {n : Nat}

theorem one_arg {vs : List Value} {x : V} (e : vs.map abs = [x]) : ∃ v, vs = [v] ∧ abs v = x := by
  obtain ⟨v, vs', e1, e2, e3⟩ := List.map_eq_cons_iff.mp e
  exact ⟨v, by rw [e1, List.map_eq_nil_iff.mp e3], e2⟩
theorem callb_ok (C : cx.OK) (hA : AOK0 A n) (S : HS cx H s) {b : BF} (hh : b.quiet = false → A.handled = none) {vs : List Value} {Q : V → HP → Prop} (h : callbP cx b (vs.map abs) H Q) :
    wpAny (model cx.prog cx.w) A (call b.val vs) (EP cx s H Q) E s := by
  have ref1 : ∀ {k : Addr → Prop}, (on1 (vs.map abs) fun v => onR v k) → ∃ a, vs = [.ref a] ∧ k a := fun h => by
    obtain ⟨x, e, h1⟩ := on1_inv h
    obtain ⟨a, e1, h2⟩ := onR_inv h1
    obtain ⟨v, e2, e3⟩ := one_arg e
    exact ⟨a, by rw [e2, abs_ref (e3.trans e1)], h2⟩
  cases b with
  | len =>
    obtain ⟨a, rfl, h⟩ := ref1 h
    obtain ⟨xs, hx, h1, h2⟩ := onO_inv h
    obtain ⟨T, items, k, e, hT, m⟩ := sq_get C S hx
    have hsz := size_of m
    have q : EP cx s H Q (.int items.size (s.toks + 1)) { s with toks := s.toks + 1 + 1 } := ep_same S _ (by rw [hsz]; exact h2)
    have hb : (items.size : Int) < 2 ^ 63 := by rw [hsz]; omega
    rcases hT with rfl | rfl
    · exact PyProof.Rows.len_list ⟨_, e, rfl, k, rfl⟩ hb q
    · exact PyProof.Rows.len_tuple ⟨_, e, rfl, k, rfl⟩ hb q
  | list =>
    obtain ⟨a, rfl, h⟩ := ref1 h
    obtain ⟨xs, hx, h1, h2⟩ := onO_inv h
    obtain ⟨T, items, k, e, hT, m⟩ := sq_get C S hx
    refine call_list_seq _ hT e rfl rfl (fun h' c' hk hD => ?_) (by rw [size_of m, sizeLine_eq]; exact h1)
    exact ⟨_, S.alloc hk (get_size _) (rep_list hD m) s.toks, KE.alloc hk (get_size _) s.toks, h2 _ (S.fresh C (get_size _))⟩
  | sum =>
    obtain ⟨a, rfl, h⟩ := ref1 h
    obtain ⟨xs, hx, h⟩ := onO_inv h
    obtain ⟨l, hl, h1, h2⟩ := onO_inv h
    obtain ⟨items, k, e, m⟩ := lst_get C S hx
    rw [asInts_some hl] at m
    obtain ⟨ps, e1, e2⟩ := intItems_of m
    have e3 : items = intItems ps := by rw [← e1]
    subst e3
    refine sum_intList (hh rfl) e.isList (fun j hj => ?_) fun h' tk t' hk => ?_
    · have := h1 j (by rw [← e2]; simpa using hj)
      rw [numAt_eq, preSum_eq, e2]; exact this
    · refine ep_grow S hk ?_
      rw [preSum_eq, List.take_of_length_le (by simp), e2]; exact h2
  | min =>
    obtain ⟨x, y, e, h⟩ := on2_inv h
    obtain ⟨a, ea, h⟩ := onI_inv h
    obtain ⟨b, eb, hm⟩ := onI_inv h
    clear h
    obtain ⟨v, vs', rfl, e1, e3⟩ := List.map_eq_cons_iff.mp e
    obtain ⟨w, rfl, e2⟩ := one_arg e3
    obtain ⟨t, rfl⟩ := abs_int (e1.trans ea); obtain ⟨u, rfl⟩ := abs_int (e2.trans eb)
    refine min_two_ints (hh rfl) fun h' tk hk => ep_grow S hk ?_
    by_cases c : b < a
    · rw [if_pos c] at hm ⊢; exact hm
    · rw [if_neg c] at hm ⊢; exact hm
end
end Mine
end

section
namespace Mine
open PySem PyProof.Rows PySem.SeqAt

noncomputable def notSlice : Expr → Bool
  | .Slice .. => false
  | _ => true
theorem notSlice_sub {e : Expr} (h : notSlice e = true) (o i : Value) : subscripted e false o i = operate [o, i] (getItem o i) := by
  cases e <;> first | rfl | exact (Bool.false_ne_true h).elim

section
variable {cx : Cx} {H : HP} {s : Shared} {A : Around} {E : Value → Shared → Prop} {n : Nat}

theorem item_of {items : Array Value} {vs : List V} (m : items.toList.map abs = vs) {j : Nat} {v : V} (h : vs[j]? = some v) : ∃ x, items[j]? = some x ∧ abs x = v := by
  rw [← m, List.getElem?_map] at h
  obtain ⟨x, e, q⟩ := Option.map_eq_some_iff.mp h
  exact ⟨x, by simpa using e, q⟩

theorem sub_ok (C : cx.OK) (S : HS cx H s) {value slice : Expr} (hsl : notSlice slice = true) {o i : Value} {Q : V → HP → Prop} (h : subP cx (abs o) (abs i) H Q) :
    wpAny (model cx.prog cx.w) A (subscriptTail value slice o i) (EP cx s H Q) E s := by
  obtain ⟨a, ho, h⟩ := onR_inv h
  obtain ⟨k, hi, h⟩ := onI_inv h
  have := abs_ref ho; subst this
  obtain ⟨u, rfl⟩ := abs_int hi
  obtain ⟨vs, hvs, h0, hlen, h⟩ := onO_inv h
  obtain ⟨v, hv, h⟩ := onO_inv h
  obtain ⟨T, items, kk, e, hT, m⟩ := sq_get C S hvs
  obtain ⟨x, hx, hxa⟩ := item_of m hv
  have hlt : k.toNat < vs.length := (List.getElem?_eq_some_iff.mp hv).1
  have fin : EP cx s H Q x s := ep_here S (by rw [hxa]; exact h)
  have hk : k < 2 ^ 63 := by first | lia | omega
  rcases hT with rfl | rfl
  · have hL : s.heap.IsList a items := ⟨_, e, rfl, kk, rfl⟩
    exact tail_any hL.typeIs slot_list_getitem.lookup (wpAny_getItem_list hL h0 hk hx fin) (notSlice_sub hsl _ _)
  · have hT : IsTup s.heap a items.toList.toArray := ⟨_, e, rfl, kk, rfl⟩
    refine item_tupleT hT (by first | lia | omega) hk (j := k.toNat) ?_ (by simpa using hx) fin (notSlice_sub hsl _ _)
    have hsz : items.toList.length = vs.length := by rw [← m]; simp
    unfold seqIndex?
    rw [hsz]
    simp only [Int.not_lt.mpr h0, if_false]
    rw [if_pos (by simp only [Bool.and_eq_true, decide_eq_true_eq]; omega)]

theorem slice_ok (C : cx.OK) (S : HS cx H s) {value : Expr} {lo hi : Option Expr} {p : Pos} {o l u : Value} {Q : V → HP → Prop} (h : sliceP cx (abs o) (abs l) (abs u) H Q) :
    wpAny (model cx.prog cx.w) A (subscriptTail value (.Slice lo hi none p) o (.ref s.heap.objs.size)) (EP cx s H Q) E
      { s with heap := s.heap.push { cls := .type "slice", data := .fields #[l, u, .none] } } := by
  obtain ⟨a, ho, h⟩ := onR_inv h
  have := abs_ref ho; subst this
  have k1 : ∀ b ob, s.heap.get? b = some ob → (s.heap.push { cls := .type "slice", data := .fields #[l, u, .none] }).get? b = some ob := fun b ob x => Heap.get?_push_of_some _ x
  have S' := S.grow k1 s.toks
  refine ep_from (KE.grow k1 s.toks) ?_
  rcases onSq_inv h with ⟨vs, hvs, h⟩ | ⟨vs, hvs, hu, h⟩
  case inr =>
    obtain ⟨i, hi, h1, h2, h3, h4⟩ := onI_inv h
    obtain ⟨t, rfl⟩ := abs_int hi
    have : u = .none := by cases u <;> first | rfl | cases hu
    subst this
    obtain ⟨items, k, e, m⟩ := lk_rep C S hvs
    obtain ⟨j, rfl⟩ := Int.eq_ofNat_of_zero_le (show 0 ≤ i from by omega)
    rw [Int.toNat_natCast] at h2 h4
    have hT : IsTup (s.heap.push { cls := .type "slice", data := .fields #[.int (j : Int) t, .none, .none] }) a items := ⟨_, k1 _ _ e, rfl, k, rfl⟩
    refine tail_any (s := { s with heap := s.heap.push { cls := .type "slice", data := .fields #[.int (j : Int) t, .none, .none] } }) hT.typeIs slot_tuple_getitem.lookup
      (getItem_tuple_from hT ⟨_, Heap.get?_push_size _ rfl, rfl, rfl⟩ (by omega) (by rw [size_of m]; exact h2) ?_ (by rw [size_of m, sizeLine_eq]; exact h3)) rfl
    exact ep_push C S' h4 (fun h e => rep_tup e (by rw [List.map_drop, m])) rfl _
  obtain ⟨cl, e1, h⟩ := onO_inv h
  obtain ⟨ch, e2, h1, h2⟩ := onO_inv h
  obtain ⟨items, k, e, m⟩ := lk_rep C S hvs
  obtain ⟨pl, ph, q1, q2, q3⟩ := slice_cut m e1 e2
  have hL : (s.heap.push { cls := .type "slice", data := .fields #[l, u, .none] }).IsList a items := ⟨_, k1 _ _ e, rfl, k, rfl⟩
  refine tail_any (s := { s with heap := s.heap.push { cls := .type "slice", data := .fields #[l, u, .none] } }) hL.typeIs slot_list_getitem.lookup
    (wpAny_getItem_list_slice hL ⟨_, Heap.get?_push_size _ rfl, rfl, rfl⟩ (isPart_of q1) (isPart_of q2) .none (by simp) ?_ (by rw [size_of m, sizeLine_eq]; exact h1)) rfl
  exact ep_push C S' h2 (fun h e => rep_list e q3) rfl _

noncomputable def UP (cx : Cx) (s : Shared) (H : HP) (Q : HP → Prop) : Unit → Shared → Prop := fun _ s' => ∃ H', HS cx H' s' ∧ KE s H s' H' ∧ Q H'

theorem setItem_plain {l : Addr} {items : Array Value} {c : Nat} {k : Int} {t : Tok} {v : Value} {Q : Unit → Shared → Prop} (hl : IsL s.heap l items c)
    (h0 : 0 ≤ k) (hfit : k < 2 ^ 63) (hn : k < items.size)
    (hQ : ∀ h', IsL h' l (items.setIfInBounds k.toNat v) c → Heap.SameBut l s.heap h' → Q () { s with heap := h' }) :
    wpAny (model cx.prog cx.w) A (setItem (.ref l) (.int k t) v) Q E s := by
  have hT : s.TypeIs (.ref l) "list" := ⟨_, hl, rfl⟩
  unfold setItem
  refine wpAny_holding (wpAny_bind (wpAny_sequenceKey hT (by decide) ?_))
  refine wpAny_bind (wpAny_callSpecial?_slot (name := Str.ofString "__setitem__") hT slot_list_setitem (wpAny_call_entry slot_list_setitem hT entry_list_setitem ?_ (args_list_setitem _ _ _)))
  show wpAny _ _ (Builtin.List.listSubscript? (.int k t) >>= _) _ _ s
  refine wpAny_bind (wpAny_listSubscript_int (fitsIndex_of h0 hfit) ?_)
  clear hfit
  obtain ⟨j, rfl⟩ := Int.eq_ofNat_of_zero_le h0
  have hj : j < items.size := by first | lia | omega
  have hx' : items[j]? = some items[j] := Array.getElem?_eq_getElem hj
  have hnew : IsL (s.heap.update l (Obj.mapSeq (·.setIfInBounds j v))) l (items.setIfInBounds j v) c := by
    have := hl.update (fun xs => xs.setIfInBounds j v)
    simpa using this
  show wpAny _ _ ((seqItemAt l j >>= fun r => pure (r.map (j, ·))) >>= _) _ _ s
  refine wpAny_bind (wpAny_bind (wpAny_seqItemAt hl rfl (wpAny_pure ?_)))
  rw [hx']
  show wpAny _ _ (setSeqItemAt l j v >>= _) _ _ s
  refine wpAny_bind (wpAny_setSeqItemAt hl rfl ?_)
  have fin : Q () { s with heap := s.heap.update l (Obj.mapSeq (·.setIfInBounds j v)) } := hQ _ hnew (Heap.SameBut.update ..)
  first
    | exact wpAny_pure ⟨.none, rfl, wpAny_pure fin⟩
    | exact wpAny_bind (wpAny_pure (wpAny_pure ⟨.none, rfl, wpAny_pure fin⟩))

theorem setSub_ok (S : HS cx H s) {o i v : Value} {Q : HP → Prop} (h : setSubP (abs o) (abs i) (abs v) H Q) :
    wpAny (model cx.prog cx.w) A (setItem o i v) (UP cx s H Q) E s := by
  obtain ⟨a, ho, h⟩ := onR_inv h
  obtain ⟨k, hi, h⟩ := onI_inv h
  have := abs_ref ho; subst this
  obtain ⟨u, rfl⟩ := abs_int hi
  obtain ⟨vs, hvs, h0, hlen, hlt, h⟩ := onHL_inv h
  obtain ⟨items, c, e, m⟩ := S.hr _ _ hvs
  rw [← size_of m] at hlt hlen
  refine setItem_plain e h0 (by first | lia | omega) (by first | lia | omega) fun h' hL sb => ?_
  exact ⟨_, S.change hvs (fun b ob hb q => (sb.2 b hb).trans q) (rep_list hL (by rw [Array.toList_setIfInBounds, List.map_set, m])) s.toks, KE.change hvs (fun b ob hb q => (sb.2 b hb).trans q) s.toks, h⟩
theorem getK_abs (ws : List (Int × Value)) (k : Int) : (valueAt ws k).map abs = getK (ws.map fun q => (q.1, abs q.2)) k := by
  induction ws with
  | nil => rfl
  | cons p r ih =>
    simp only [valueAt, getK, List.map_cons, List.find?_cons] at ih ⊢
    by_cases h : p.1 = k
    · simp [h]
    · simp only [decide_eq_false h]; exact ih
theorem putK_abs (ws : List (Int × Value)) (k : Int) (v : Value) : (stored ws k v).map (fun q => (q.1, abs q.2)) = putK (ws.map fun q => (q.1, abs q.2)) k (abs v) := by
  unfold stored putK
  rw [List.any_map]
  split
  · rename_i h
    rw [if_pos (by simpa [Function.comp_def] using h), List.map_map, List.map_map]
    apply List.map_congr_left
    intro p _
    simp only [Function.comp]
    split <;> rfl
  · rename_i h
    rw [if_neg (by simpa [Function.comp_def] using h), List.map_append]; rfl
theorem dsub_ok (S : HS cx H s) {value slice : Expr} (hsl : notSlice slice = true) {o i : Value} {Q : V → HP → Prop} (h : dsubP (abs o) (abs i) H Q) : wpAny (model cx.prog cx.w) A (subscriptTail value slice o i) (EP cx s H Q) E s := by
  obtain ⟨a, ho, h⟩ := onR_inv h
  obtain ⟨k, hi, h⟩ := onI_inv h
  have := abs_ref ho; subst this
  obtain ⟨u, rfl⟩ := abs_int hi
  obtain ⟨kvs, hk, h⟩ := onD_inv h
  obtain ⟨v, hv, h⟩ := onO_inv h
  obtain ⟨p, w, ws, d, rfl⟩ := S.hr _ _ hk
  rw [← getK_abs] at hv
  obtain ⟨x, hx, rfl⟩ := Option.map_eq_some_iff.mp hv
  have dd : s.heap.DictOf (intKind cx.prog cx.w) a ws := DictOf.any d
  exact tail_any dd.typeIs slot_dict_getitem.lookup (wpAny_getItem_of (k := k) (by simp [intKind, Value.isInt]) dd.mapOf hx (ep_same S _ h)) (notSlice_sub hsl _ _)
theorem setD_ok (S : HS cx H s) {o i v : Value} {Q : HP → Prop} (h : setDP (abs o) (abs i) (abs v) H Q) : wpAny (model cx.prog cx.w) A (setItem o i v) (UP cx s H Q) E s := by
  obtain ⟨a, ho, h⟩ := onR_inv h
  obtain ⟨k, hi, h⟩ := onI_inv h
  have := abs_ref ho; subst this
  obtain ⟨u, rfl⟩ := abs_int hi
  obtain ⟨kvs, hk, hlen, h⟩ := onD_inv h
  obtain ⟨p, w, ws, d, rfl⟩ := S.hr _ _ hk
  refine wpAny_setItem_pairs (k := k) (by simp [intKind, Value.isInt]) (DictOf.any d) (fun h' d' sb => ?_) (by rw [sizeLine_eq]; simpa using hlen)
  exact ⟨_, S.change (o' := .dct (putK (ws.map fun q => (q.1, abs q.2)) k (abs v))) hk (fun b ob hb q => (sb.2 b hb).trans q) ⟨_, _, _, d', putK_abs ws k v⟩ _, KE.change hk (fun b ob hb q => (sb.2 b hb).trans q) _, h⟩
end
end Mine
end

section
namespace Mine
open PySem PySem.W PyProof.Rows

noncomputable abbrev FE (es : List DictEntry) (fs : List (Str × V)) : Prop := es.map (fun e => (keyS e, abs e.val)) = fs.map fun p => (some p.1, p.2)

theorem keyS_is {e : DictEntry} {x y : Str} (h : keyS e = some x) : e.key.isStr y = (x == y) ∧ e.refKey = false := by
  obtain ⟨hs, k, v⟩ := e
  cases k <;> first | (cases h; exact ⟨rfl, rfl⟩) | cases h
theorem fe_cons {e : DictEntry} {es : List DictEntry} {fs : List (Str × V)} (h : FE (e :: es) fs) : ∃ x r, fs = (x, abs e.val) :: r ∧ keyS e = some x ∧ FE es r := by
  cases fs with
  | nil => cases h
  | cons p r =>
    obtain ⟨x, v⟩ := p
    simp only [FE, List.map_cons, List.cons.injEq, Prod.mk.injEq] at h
    obtain ⟨⟨h1, h2⟩, h3⟩ := h
    exact ⟨x, r, by rw [h2], h1, h3⟩
theorem fe_find (x : Str) : ∀ {es : List DictEntry} {fs : List (Str × V)}, FE es fs → (es.find? (·.key.isStr x)).map (fun e => abs e.val) = fs.lookup x ∧ es.any (·.refKey) = false
  | [], [], _ => ⟨rfl, rfl⟩
  | [], _ :: _, h => by cases h
  | e :: es, fs, h => by
    obtain ⟨y, r, rfl, h1, h2⟩ := fe_cons h
    obtain ⟨a, b⟩ := fe_find x h2
    obtain ⟨c, d⟩ := keyS_is (y := x) h1
    rw [List.find?_cons, List.any_cons, List.lookup_cons, c, d, b, show (x == y) = (y == x) from Bool.beq_comm]
    cases (y == x)
    · exact ⟨a, rfl⟩
    · exact ⟨rfl, rfl⟩
theorem fe_put (x : Str) (hs : Int) (t : Tok) (w : Value) : ∀ {es : List DictEntry} {fs : List (Str × V)}, FE es fs → FE (putL x hs (.str x t) w es) (putF x (abs w) fs)
  | [], [], _ => rfl
  | [], _ :: _, h => by cases h
  | e :: es, fs, h => by
    obtain ⟨y, r, rfl, h1, h2⟩ := fe_cons h
    have ih := fe_put x hs t w h2
    obtain ⟨c, d⟩ := keyS_is (y := x) h1
    unfold putL putF
    rw [c]
    cases q : (y == x)
    · simp only [Bool.false_eq_true, if_false, FE, List.map_cons, h1]
      rw [show List.map (fun e => (keyS e, abs e.val)) (putL x hs (.str x t) w es) = _ from ih]
    · simp only [if_true, FE, List.map_cons]
      rw [show List.map (fun e => (keyS e, abs e.val)) es = _ from h2]
      rw [show keyS ⟨e.hash, e.key, w⟩ = some y from h1]
theorem putL_len (x : Str) (hs : Int) (k w : Value) : ∀ es : List DictEntry, (putL x hs k w es).length ≤ es.length + 1
  | [] => Nat.le_refl _
  | e :: es => by
    unfold putL
    split
    · exact Nat.le_succ _
    · exact Nat.succ_le_succ (putL_len x hs k w es)

noncomputable def attrIn (K : Frag) (C : Addr) (x : Str) : Bool := plainGet K C x && (hasDictIn K C && (findIn K (.ref C) x == some none && (findIn K (.ref C) "__setattr__" == some (some (.builtin "object.__setattr__")) && plainOver K C)))
noncomputable def methIn (K : Frag) (C : Addr) (x : Str) (f : Addr) : Bool := plainGet K C x && (findIn K (.ref C) x == some (some (.ref f)) && (isFn K (.ref f) && keepIn K (.ref f)))
noncomputable def mkIn (K : Frag) (C f : Addr) : Bool := makesIn K C && (findIn K (.ref C) "__init__" == some (some (.ref f)) && (isFn K (.ref f) && keepIn K (.ref C)))
theorem band {a b : Bool} (h : (a && b) = true) : a = true ∧ b = true := by cases a <;> cases b <;> first | exact ⟨rfl, rfl⟩ | cases h

section
variable {cx : Cx} {K : Frag} {H : HP} {s : Shared} {A : Around} {E : Value → Shared → Prop} {n : Nat} {C : Addr} {x : Str}

theorem handed_abs {w : Value} (h : abs w ≠ .other) : handedIn w = true := by
  cases w <;> first | rfl | exact absurd rfl h
theorem inst_at (S : HS cx H s) {a dx : Addr} {fs : List (Str × V)} (h1 : H a = some (.inst C dx)) (h2 : H dx = some (.flds fs)) :
    ∃ es n, s.heap.get? dx = some (dictOf es n) ∧ FE es fs ∧ InstAt s.heap a (instObj C dx) C (some (dictOf es n)) := by
  obtain ⟨es, k, e, m⟩ := S.hr _ _ h2
  exact ⟨es, k, e, m, S.hr _ _ h1, rfl, rfl, e⟩
theorem attr_ok (X : K.In cx.base) (hT : attrIn K C x = true) (S : HS cx H s) {o : Value} {Q : V → HP → Prop} (h : attrP C (abs o) x H Q) : wpAny (model cx.prog cx.w) A (getAttr o x true) (EP cx s H Q) E s := by
  obtain ⟨a, ha, h⟩ := onR_inv h
  have := abs_ref ha; subst this
  obtain ⟨dx, hi, h⟩ := onIn_inv h
  obtain ⟨fs, hf, h⟩ := onFl_inv h
  obtain ⟨v, hv, hne, hq⟩ := onO_inv h
  obtain ⟨es, k, e, m, I⟩ := inst_at S hi hf
  obtain ⟨h1, h2⟩ := band hT
  obtain ⟨h2, h3⟩ := band h2
  obtain ⟨h3, h4⟩ := band h3
  obtain ⟨f1, f2⟩ := fe_find x m
  rw [hv] at f1
  obtain ⟨en, f3, f4⟩ := Option.map_eq_some_iff.mp f1
  refine get_value (v := en.val) (X.keeps S.ext) I (plainGet_of h1).1 (findObj_own (attr := none) h2 (beq_iff_eq.mp h3) rfl ?_) (handed_abs (by rw [f4]; exact hne)) (ep_same S _ (by rw [f4]; exact hq))
  rw [lookIn_dict]
  unfold W.getL
  rw [f3]
theorem meth_ok (X : K.In cx.base) {f : Addr} (hT : methIn K C x f = true) (S : HS cx H s) {o : Value} {pl : Sem Bool} (h : instP C (abs o) x H) {Q : Value × List Value → Shared → Prop} (q : Q (.ref f, [o]) s) :
    wpAny (model cx.prog cx.w) A (getMethod o x pl) Q E s := by
  obtain ⟨a, ha, h⟩ := onR_inv h
  have := abs_ref ha; subst this
  obtain ⟨dx, hi, h⟩ := onIn_inv h
  obtain ⟨fs, hf, h⟩ := onFl_inv h
  obtain ⟨es, k, e, m, I⟩ := inst_at S hi hf
  obtain ⟨h1, h2⟩ := band hT
  obtain ⟨h2, h3⟩ := band h2
  obtain ⟨h3, h4⟩ := band h3
  obtain ⟨f1, f2⟩ := fe_find x m
  rw [h] at f1
  refine method_fn (X.keeps S.ext) I (plainGet_of h1).1 (plainGet_of h1).2 (beq_iff_eq.mp h2) (beq_iff_eq.mp h3) ?_ q
  show (lookIn x (dictOf es k)).map _ = _
  rw [lookIn_dict]
  unfold W.getL
  rw [Option.map_eq_none_iff.mp f1, f2]
  rfl
theorem setAttr_ok (X : K.In cx.base) (hT : attrIn K C x = true) (S : HS cx H s) {o v : Value} {Q : HP → Prop} (h : setAttrP C (abs o) x (abs v) H Q) : wpAny (model cx.prog cx.w) A (setAttr o x v) (UP cx s H Q) E s := by
  obtain ⟨a, ha, h⟩ := onR_inv h
  have := abs_ref ha; subst this
  obtain ⟨dx, hi, h⟩ := onIn_inv h
  obtain ⟨fs, hf, hlen, h⟩ := onFl_inv h
  obtain ⟨es, k, e, m, I⟩ := inst_at S hi hf
  obtain ⟨h1, h2⟩ := band hT
  obtain ⟨h2, h3⟩ := band h2
  obtain ⟨h3, h4⟩ := band h3
  obtain ⟨h4, h5⟩ := band h4
  have X' := X.keeps S.ext
  have hel : es.length < 100 := by have := congrArg List.length m; rw [List.length_map, List.length_map] at this; rw [this]; exact hlen
  refine set_plain X' I (beq_iff_eq.mp h4) (osa_open (s := { s with toks := s.toks + 1 }) X' I h5 (r := none) ?_ fun b => ?_)
  · unfold takerIn; rw [beq_iff_eq.mp h3]; rfl
  obtain ⟨cd, hc, hd⟩ := any_some h2
  have D' := Heap.get?_update_self (Obj.putName x (PyData.keyHash cx.w.params x) (.str x (s.toks + 1)) v) e (by rw [putName_dict]; rfl)
  rw [putName_dict] at D'
  dsimp only
  refine wpAny_bind (wpAny_pure (wpAny_bind (wpAny_bind (wpAny_loadPart I.at_ (wpAny_bind ((looks_clsIn X' hc).keeps (h' := s.heap) (fun _ _ e => e) _ _ _ _ (fun _ _ e => e) ?_))))))
  rw [hd]
  refine wpAny_pure (a := some dx) (wpAny_bind (wpAny_pure (wpAny_bind ?_)))
  unfold nsSet
  refine wpAny_bind (wpAny_bind (wpAny_askSetting (wpAny_pure (wpAny_bind (wpAny_mkText (wpAny_bind (wpAny_loadPart e ?_)))))))
  have f2 := (fe_find x m).2
  have c : aRefKeyMayBeTheName x es.toArray = false := by
    rw [aRefKeyMayBeTheName_at, ← Array.any_toList, ← Array.any_toList]
    show (!es.any _ && es.any _) = false
    rw [f2, Bool.and_false]
  dsimp only
  rw [c]
  refine wpAny_updatePart e (wpAny_bind (wpAny_lookBehind D' (pastItsLine_dict (by rw [List.size_toArray, sizeLine_eq]; have := putL_len x (PyData.keyHash cx.w.params x) (.str x (s.toks + 1)) v es; omega)) (wpAny_pure ?_)))
  have sb : ∀ b ob, b ≠ dx → s.heap.get? b = some ob → (s.heap.update dx (Obj.putName x (PyData.keyHash cx.w.params x) (.str x (s.toks + 1)) v)).get? b = some ob := fun b ob hb q => (Heap.get?_update_other _ _ (Ne.symm hb)).trans q
  exact ⟨_, S.change (o' := .flds (putF x (abs v) fs)) hf sb ⟨_, _, D', fe_put x _ _ v m⟩ _, KE.change hf sb _, h⟩
theorem mk_ok (CO : cx.OK) (hA : ACall A n) (hf : ∀ l, A.frames = some l → FrL cx.base H s.heap l) (X : K.In cx.base) {f : Addr} (hT : mkIn K C f = true) (S : HS cx H s) {vs : List Value} {Q : V → HP → Prop} (h : mkP cx n C f (vs.map abs) H Q) :
    wpAny (model cx.prog cx.w) A (call (.ref C) vs) (EP cx s H Q) E s := by
  obtain ⟨h1, h2⟩ := band hT
  obtain ⟨h2, h3⟩ := band h2
  obtain ⟨h3, h4⟩ := band h3
  have X' := X.keeps S.ext
  obtain ⟨hn, h⟩ := h
  obtain ⟨hh, g, d, t, os⟩ := s
  refine wpAny_call (make_core (makes_of X' h1) (looks_findIn X' (beq_iff_eq.mp h2)) (fun self => bind_fn X' self (beq_iff_eq.mp h3)) (.inl rfl) ?_)
  have k1 : ∀ b o, hh.get? b = some o → (hh.push emptyDict).get? b = some o := fun b o e => Heap.get?_push_of_some _ e
  have S1 : HS cx (upd H hh.objs.size (.flds [])) ⟨hh.push emptyDict, g, d, t, os⟩ := S.alloc (o := .flds []) k1 (get_size _) ⟨[], 0, Heap.get?_push_size _ rfl, rfl⟩ t
  have k2 : ∀ b o, (hh.push emptyDict).get? b = some o → ((hh.push emptyDict).push (instObj C hh.objs.size)).get? b = some o := fun b o e => Heap.get?_push_of_some _ e
  have hs : (hh.push emptyDict).objs.size = hh.objs.size + 1 := Heap.size_push ..
  have hno : (hh.push emptyDict).get? (hh.objs.size + 1) = none := by rw [← hs]; exact get_size _
  have S2 : HS cx (upd (upd H hh.objs.size (.flds [])) (hh.objs.size + 1) (.inst C hh.objs.size)) ⟨(hh.push emptyDict).push (instObj C hh.objs.size), g, d, t, os⟩ :=
    S1.alloc k2 hno (by show Heap.get? _ _ = _; rw [← hs]; exact Heap.get?_push_size _ rfl) t
  have K1 : KE ⟨hh, g, d, t, os⟩ H ⟨hh.push emptyDict, g, d, t, os⟩ (upd H hh.objs.size (.flds [])) := KE.alloc k1 (get_size _) t
  have K2 : KE ⟨hh.push emptyDict, g, d, t, os⟩ (upd H hh.objs.size (.flds [])) ⟨(hh.push emptyDict).push (instObj C hh.objs.size), g, d, t, os⟩ (upd (upd H hh.objs.size (.flds [])) (hh.objs.size + 1) (.inst C hh.objs.size)) := KE.alloc k2 hno t
  have hu := hA.units
  have hd := hA.depth
  refine codeAny_mono (h hh.objs.size (S.fresh CO (get_size _)) (hh.objs.size + 1) (S1.fresh CO hno) _ _ (.ref (hh.objs.size + 1) :: vs) ⟨⟨by show A.depth + 1 + _ < _; omega, by show A.units + 1 + _ < _; omega, hA.frames⟩, hA.handled⟩ S2 (fun l e => (hf l e).kept (K1.trans K2) fun _ _ _ _ => id) rfl) fun r s' hr => ?_
  obtain ⟨v, H', rfl, a, b, c, q⟩ := hr
  refine ⟨(by cases v <;> first | rfl | cases c), H', a, K1.trans (K2.trans b), q⟩
end
end Mine
end

section
namespace Mine
open PySem PyProof.Rows PySem.SeqAt

noncomputable def bmV : List Value := [.type "ValueError", .type "Exception", .type "BaseException", .type "object"]
noncomputable def ExcCls (C : Addr) (h : Heap) : Prop := OwnClsQ "" C bmV "ValueError.__new__" (fun _ => some (.ref C)) h
structure Tbl where
  fns : List (Str × Addr)
  bfs : List (Str × BF)
  tys : List (Str × String)
  K : PySem.W.Frag
  ats : List (Addr × Str)
  mts : List (Addr × Str × Addr)
  mks : List (Str × Addr × Addr)
  gis : List (Str × Int)
  exs : List (Str × Addr)
  q : Bool

structure Tbl.OK (cx : Cx) (T : Tbl) : Prop where
  fn : ∀ x f, T.fns.lookup x = some f → cx.gl x = some (.ref f) ∧ ∃ o fd, cx.base.get? f = some o ∧ o.data = .func fd
  bf : ∀ x b, T.bfs.lookup x = some b → cx.gl x = some b.val
  ty : ∀ x t, T.tys.lookup x = some t → cx.gl x = some (.type t)
  isi : cx.gl "isinstance" = some (.builtin "isinstance")
  rng : cx.gl "range" = some (.type "range")
  kin : T.K.In cx.base
  at_ : ∀ C x, T.ats.contains (C, x) = true → attrIn T.K C x = true
  mt : ∀ C x f, T.mts.contains (C, x, f) = true → methIn T.K C x f = true
  mkc : ∀ x C f, T.mks.contains (x, C, f) = true → cx.gl x = some (.ref C) ∧ mkIn T.K C f = true
  gi : ∀ x i, T.gis.lookup x = some i → ∃ t, cx.gl x = some (.int i t)
  ex : ∀ x C, T.exs.lookup x = some C → cx.gl x = some (.ref C) ∧ ExcCls C cx.base

noncomputable def isGlob (sc : Scope) (x : Str) : Bool := sc.names.lookup x == some .globalImplicit && !(x == ("__debug__" : Str))
noncomputable def Mth.nm : Mth → Str
  | .append => "append"
  | .pop => "pop"
noncomputable def plainBase : Expr → Bool
  | .Call .. => false
  | _ => true
noncomputable def relabelS (scope outer : Scope) : Scope :=
  { scope with names := scope.names.map fun (n, k) => if (k == .free && outer.kind == .function && outer.names.lookup n == some .cell) then (n, .cell) else (n, k) }
noncomputable def compNames (scope : Scope) (nm : List (Option Str)) (x : Str) : List (Option Str) :=
  nm.map (fun o => o.filter fun y => scope.names.lookup y == some .free) ++ [some x]
noncomputable def compScopeOk (scope outer : Scope) (x : Str) : Bool :=
  scope.kind == .function && scope.names.lookup x == some .local && outer.kind == .function &&
  scope.names.all fun y => y.2 != .cell && (y.2 != .local || scope.names.lookup y.1 == some .local) && (y.2 != .free || (outer.names.lookup y.1 == some .cell && scope.names.lookup y.1 == some .free))

noncomputable def cN : Const → Bool
  | .none => true
  | _ => false
noncomputable def vConst (e : Expr) (k : Const → Bool) : Bool := match e with
  | .Constant c _ _ => k c
  | _ => false
theorem vConst_inv {e : Expr} {k : Const → Bool} (h : vConst e k = true) : ∃ c n p, e = .Constant c n p ∧ k c = true := by cases e <;> first | exact ⟨_, _, _, rfl, h⟩ | exact (Bool.false_ne_true h).elim
noncomputable def vName (e : Expr) (k : Str → Bool) : Bool := match e with
  | .Name x _ => k x
  | _ => false
theorem vName_inv {e : Expr} {k : Str → Bool} (h : vName e k = true) : ∃ x p, e = .Name x p ∧ k x = true := by cases e <;> first | exact ⟨_, _, rfl, h⟩ | exact (Bool.false_ne_true h).elim
noncomputable def vBin (e : Expr) (k : Expr → Operator → Expr → Bool) : Bool := match e with
  | .BinOp l op r _ => k l op r
  | _ => false
theorem vBin_inv {e : Expr} {k : Expr → Operator → Expr → Bool} (h : vBin e k = true) : ∃ l op r p, e = .BinOp l op r p ∧ k l op r = true := by cases e <;> first | exact ⟨_, _, _, _, rfl, h⟩ | exact (Bool.false_ne_true h).elim
noncomputable def vUn (e : Expr) (k : UnaryOp → Expr → Bool) : Bool := match e with
  | .UnaryOp op a _ => k op a
  | _ => false
theorem vUn_inv {e : Expr} {k : UnaryOp → Expr → Bool} (h : vUn e k = true) : ∃ op a p, e = .UnaryOp op a p ∧ k op a = true := by cases e <;> first | exact ⟨_, _, _, rfl, h⟩ | exact (Bool.false_ne_true h).elim
noncomputable def vCmp (e : Expr) (k : Expr → List CmpOp → List Expr → Bool) : Bool := match e with
  | .Compare l ops cs _ => k l ops cs
  | _ => false
theorem vCmp_inv {e : Expr} {k : Expr → List CmpOp → List Expr → Bool} (h : vCmp e k = true) : ∃ l ops cs p, e = .Compare l ops cs p ∧ k l ops cs = true := by cases e <;> first | exact ⟨_, _, _, _, rfl, h⟩ | exact (Bool.false_ne_true h).elim
noncomputable def vBool (e : Expr) (k : BoolOp → List Expr → Bool) : Bool := match e with
  | .BoolOp op es _ => k op es
  | _ => false
theorem vBool_inv {e : Expr} {k : BoolOp → List Expr → Bool} (h : vBool e k = true) : ∃ op es p, e = .BoolOp op es p ∧ k op es = true := by cases e <;> first | exact ⟨_, _, _, rfl, h⟩ | exact (Bool.false_ne_true h).elim
noncomputable def vCall (e : Expr) (k : Expr → List Expr → List Keyword → Pos → Bool) : Bool := match e with
  | .Call f as ks p => k f as ks p
  | _ => false
theorem vCall_inv {e : Expr} {k : Expr → List Expr → List Keyword → Pos → Bool} (h : vCall e k = true) : ∃ f as ks p, e = .Call f as ks p ∧ k f as ks p = true := by cases e <;> first | exact ⟨_, _, _, _, rfl, h⟩ | exact (Bool.false_ne_true h).elim
noncomputable def vAttr (e : Expr) (k : Expr → Str → Pos → Bool) : Bool := match e with
  | .Attribute o m p => k o m p
  | _ => false
theorem vAttr_inv {e : Expr} {k : Expr → Str → Pos → Bool} (h : vAttr e k = true) : ∃ o m p, e = .Attribute o m p ∧ k o m p = true := by cases e <;> first | exact ⟨_, _, _, rfl, h⟩ | exact (Bool.false_ne_true h).elim
noncomputable def vDict (e : Expr) (k : List (Option Expr) → List Expr → Bool) : Bool := match e with
  | .Dict ks vs _ => k ks vs
  | _ => false
theorem vDict_inv {e : Expr} {k : List (Option Expr) → List Expr → Bool} (h : vDict e k = true) : ∃ ks vs p, e = .Dict ks vs p ∧ k ks vs = true := by cases e <;> first | exact ⟨_, _, _, rfl, h⟩ | exact (Bool.false_ne_true h).elim
noncomputable def vSub (e : Expr) (k : Expr → Expr → Bool) : Bool := match e with
  | .Subscript o i _ => k o i
  | _ => false
theorem vSub_inv {e : Expr} {k : Expr → Expr → Bool} (h : vSub e k = true) : ∃ o i p, e = .Subscript o i p ∧ k o i = true := by cases e <;> first | exact ⟨_, _, _, rfl, h⟩ | exact (Bool.false_ne_true h).elim
noncomputable def vSlice (e : Expr) (k : Option Expr → Option Expr → Option Expr → Bool) : Bool := match e with
  | .Slice a b c _ => k a b c
  | _ => false
theorem vSlice_inv {e : Expr} {k : Option Expr → Option Expr → Option Expr → Bool} (h : vSlice e k = true) : ∃ a b c p, e = .Slice a b c p ∧ k a b c = true := by cases e <;> first | exact ⟨_, _, _, _, rfl, h⟩ | exact (Bool.false_ne_true h).elim
noncomputable def vList (e : Expr) (k : List Expr → Bool) : Bool := match e with
  | .List es _ => k es
  | _ => false
theorem vList_inv {e : Expr} {k : List Expr → Bool} (h : vList e k = true) : ∃ es p, e = .List es p ∧ k es = true := by cases e <;> first | exact ⟨_, _, rfl, h⟩ | exact (Bool.false_ne_true h).elim
noncomputable def vTup (e : Expr) (k : List Expr → Bool) : Bool := match e with
  | .Tuple es _ _ => k es
  | _ => false
theorem vTup_inv {e : Expr} {k : List Expr → Bool} (h : vTup e k = true) : ∃ es n p, e = .Tuple es n p ∧ k es = true := by cases e <;> first | exact ⟨_, _, _, rfl, h⟩ | exact (Bool.false_ne_true h).elim
noncomputable def vComp (e : Expr) (k : Expr → List Comprehension → Scope → Bool) : Bool := match e with
  | .ListComp elt gs sc _ => k elt gs sc
  | _ => false
theorem vComp_inv {e : Expr} {k : Expr → List Comprehension → Scope → Bool} (h : vComp e k = true) : ∃ elt gs sc p, e = .ListComp elt gs sc p ∧ k elt gs sc = true := by cases e <;> first | exact ⟨_, _, _, _, rfl, h⟩ | exact (Bool.false_ne_true h).elim

noncomputable def vIfE (e : Expr) (k : Expr → Expr → Expr → Bool) : Bool := match e with
  | .IfExp c a b _ => k c a b
  | _ => false
theorem vIfE_inv {e : Expr} {k : Expr → Expr → Expr → Bool} (h : vIfE e k = true) : ∃ c a b p, e = .IfExp c a b p ∧ k c a b = true := by cases e <;> first | exact ⟨_, _, _, _, rfl, h⟩ | exact (Bool.false_ne_true h).elim

theorem and2 {a b : Bool} (h : (a && b) = true) : a = true ∧ b = true := by cases a <;> cases b <;> first | exact ⟨rfl, rfl⟩ | cases h

noncomputable def nameCall (e : Expr) (k : Str → List Expr → Bool) : Bool := vCall e fun f as ks _ => ks.isEmpty && vName f fun x => k x as
theorem nil_of {α : Type} {l : List α} (h : l.isEmpty = true) : l = [] := List.isEmpty_iff.mp h
theorem nameCall_inv {e : Expr} {k : Str → List Expr → Bool} (h : nameCall e k = true) : ∃ x np as p, e = .Call (.Name x np) as [] p ∧ k x as = true := by
  obtain ⟨f, as, ks, p, e1, h1⟩ := vCall_inv h
  obtain ⟨hk, h2⟩ := and2 h1
  obtain ⟨x, np, e2, h3⟩ := vName_inv h2
  rw [nil_of hk, e2] at e1
  exact ⟨x, np, as, p, e1, h3⟩
noncomputable def oneGen (gs : List Comprehension) (k : Expr → Expr → List Expr → Int → Bool) : Bool := match gs with
  | [⟨tg, iter, ifs, a⟩] => k tg iter ifs a
  | _ => false
theorem oneGen_inv {gs : List Comprehension} {k : Expr → Expr → List Expr → Int → Bool} (h : oneGen gs k = true) : ∃ tg iter ifs a, gs = [⟨tg, iter, ifs, a⟩] ∧ k tg iter ifs a = true := match gs, h with
  | [⟨tg, iter, ifs, a⟩], h => ⟨tg, iter, ifs, a, rfl, h⟩
noncomputable def oneComp (e : Expr) (sc : Scope) (k : Expr → Str → Expr → List Expr → Scope → Bool) : Bool := vComp e fun elt gs scope => oneGen gs fun tg iter ifs a => a == 0 && vName tg fun x => compScopeOk scope sc x && k elt x iter ifs scope
theorem oneComp_inv {e : Expr} {sc : Scope} {k : Expr → Str → Expr → List Expr → Scope → Bool} (h : oneComp e sc k = true) :
    ∃ elt x px iter ifs scope p, e = .ListComp elt [⟨.Name x px, iter, ifs, 0⟩] scope p ∧ compScopeOk scope sc x = true ∧ k elt x iter ifs scope = true := by
  obtain ⟨elt, gs, scope, p, e1, h1⟩ := vComp_inv h
  obtain ⟨tg, iter, ifs, a, e2, h2⟩ := oneGen_inv h1
  obtain ⟨ha, h3⟩ := and2 h2
  obtain ⟨x, px, e3, h4⟩ := vName_inv h3
  obtain ⟨hs, h5⟩ := and2 h4
  rw [e3, eq_of_beq ha] at e2
  rw [e2] at e1
  exact ⟨elt, x, px, iter, ifs, scope, p, e1, hs, h5⟩

noncomputable def l1 {α : Type} (l : List α) (k : α → Bool) : Bool := match l with
  | [a] => k a
  | _ => false
theorem l1_inv {α : Type} {l : List α} {k : α → Bool} (h : l1 l k = true) : ∃ a, l = [a] ∧ k a = true := match l, h with
  | [a], h => ⟨a, rfl, h⟩
noncomputable def l2 {α : Type} (l : List α) (k : α → α → Bool) : Bool := match l with
  | [a, b] => k a b
  | _ => false
theorem l2_inv {α : Type} {l : List α} {k : α → α → Bool} (h : l2 l k = true) : ∃ a b, l = [a, b] ∧ k a b = true := match l, h with
  | [a, b], h => ⟨a, b, rfl, h⟩
theorem or2 {a b : Bool} (h : (a || b) = true) : a = true ∨ b = true := by cases a <;> cases b <;> first | exact .inl rfl | exact .inr rfl | cases h

noncomputable def isNoneM : ME → Bool
  | .cnone => true
  | _ => false
noncomputable def isTrueM : ME → Bool
  | .cbool b => b
  | _ => false
noncomputable def isZeroM : ME → Bool
  | .cint i => i == 0
  | _ => false
noncomputable def cI (c : Const) (i : Int) : Bool := match c with
  | .int j => i == j
  | _ => false
noncomputable def cB (c : Const) (b : Bool) : Bool := match c with
  | .bool d => b == d
  | _ => false
noncomputable def cS (c : Const) (x : Str) : Bool := match c with
  | .str y => x == y
  | _ => false
noncomputable def so {α : Type} (o : Option α) (k : α → Bool) (n : Bool) : Bool := match o with
  | some x => k x
  | none => n
mutual
noncomputable def chkE (T : Tbl) : ME → Scope → List (Option Str) → Expr → Bool
  | .cint i, _, _, e => vConst e fun c => cI c i
  | .cbool b, _, _, e => vConst e fun c => cB c b
  | .cnone, _, _, e => vConst e cN
  | .cstr x, _, _, e => vConst e fun c => cS c x
  | .loc i, _, nm, e => vName e fun x => !(x == ("__debug__" : Str)) && nm[i]? == some (some x)
  | .bin op l r, sc, nm, e => vBin e fun a o b => o == op && (chkE T l sc nm a && chkE T r sc nm b)
  | .not m, sc, nm, e => vUn e fun o a => o == .Not && chkE T m sc nm a
  | .cmp l op r, sc, nm, e => vCmp e fun a ops cs => l1 ops fun o => l1 cs fun b => o == op && (chkE T l sc nm a && chkE T r sc nm b)
  | .bop op ms, sc, nm, e => vBool e fun o es => o == op && chkEs T ms sc nm es
  | .callf f ms, sc, nm, e => !T.q && nameCall e fun x as => isGlob sc x && (T.fns.lookup x == some f && (!as.isEmpty && chkEs T ms sc nm as))
  | .callb b ms, sc, nm, e => (b.quiet || !T.q) && nameCall e fun x as => isGlob sc x && (T.bfs.lookup x == some b && (!as.isEmpty && chkEs T ms sc nm as))
  | .isi m t, sc, nm, e => nameCall e fun x as => isGlob sc x && (x == ("isinstance" : Str) && l2 as fun a b => chkE T m sc nm a && vName b fun y => isGlob sc y && T.tys.lookup y == some t)
  | .meth o m ms, sc, nm, e => vCall e fun f as ks p => ks.isEmpty && vAttr f fun b x ap =>
      (ap.endLine == p.line && plainBase b) && (x == m.nm && (chkE T o sc nm b && (decide (as.length < 2) && chkEs T ms sc nm as)))
  | .sub o i, sc, nm, e => vSub e fun a b => chkE T o sc nm a && chkE T i sc nm b
  | .dsub o i, sc, nm, e => vSub e fun a b => chkE T o sc nm a && chkE T i sc nm b
  | .dnil, _, _, e => vDict e fun ks vs => ks.isEmpty && vs.isEmpty
  | .done k v, sc, nm, e => vDict e fun ks vs => l1 ks fun x => so x (fun x => vConst x fun c => cI c k) false && l1 vs fun y => chkE T v sc nm y
  | .slice o lo hi, sc, nm, e => vSub e fun a b => chkE T o sc nm a && vSlice b fun x y z => z.isNone && (so x (fun x => chkE T lo sc nm x) (isNoneM lo) && so y (fun y => chkE T hi sc nm y) (isNoneM hi))
  | .list ms, sc, nm, e => vList e fun es => chkEs T ms sc nm es
  | .tup ms, sc, nm, e => vTup e fun es => chkEs T ms sc nm es
  | .comp el it c, sc, nm, e => !T.q && oneComp e sc fun elt x iter ifs scope => chkE T el (relabelS scope sc) (compNames scope nm x) elt && (chkE T it sc nm iter &&
      (ifs.isEmpty && isTrueM c || l1 ifs fun i => chkE T c (relabelS scope sc) (compNames scope nm x) i))
  | .compR el a b c, sc, nm, e => !T.q && oneComp e sc fun elt x iter ifs scope => chkE T el (relabelS scope sc) (compNames scope nm x) elt && ((nameCall iter fun y as => isGlob sc y && (y == ("range" : Str) &&
      ((l1 as fun q => isZeroM a && chkE T b sc nm q) || l2 as fun p q => chkE T a sc nm p && chkE T b sc nm q))) &&
      (ifs.isEmpty && isTrueM c || l1 ifs fun i => chkE T c (relabelS scope sc) (compNames scope nm x) i))
  | .neg m, sc, nm, e => vUn e fun o a => o == .USub && chkE T m sc nm a
  | .cmp2 l o1 m o2 r, sc, nm, e => vCmp e fun a ops cs => l2 ops fun p q => l2 cs fun b c => (p == o1 && q == o2) && (chkE T l sc nm a && (chkE T m sc nm b && chkE T r sc nm c))
  | .ife c t f, sc, nm, e => vIfE e fun d a b => chkE T c sc nm d && (chkE T t sc nm a && chkE T f sc nm b)
  | .gint i, sc, _, e => vName e fun x => isGlob sc x && T.gis.lookup x == some i
  | .attr C i x, _, nm, e => vAttr e fun o y _ => y == x && (T.ats.contains (C, x) && vName o fun z => !(z == ("__debug__" : Str)) && nm[i]? == some (some z))
  | .callm C x f i ms, sc, nm, e => !T.q && vCall e fun g as ks p => ks.isEmpty && vAttr g fun o y ap => (ap.endLine == p.line && y == x) && (T.mts.contains (C, x, f) && ((vName o fun z => !(z == ("__debug__" : Str)) && nm[i]? == some (some z)) && (decide (as.length < 20) && chkEs T ms sc nm as)))
  | .mk C f ms, sc, nm, e => !T.q && nameCall e fun x as => isGlob sc x && (T.mks.contains (x, C, f) && (!as.isEmpty && chkEs T ms sc nm as))
noncomputable def chkEs (T : Tbl) : MEs → Scope → List (Option Str) → List Expr → Bool
  | .nil, _, _, es => es.isEmpty
  | .cons m ms, sc, nm, es => match es with
    | e :: r => chkE T m sc nm e && chkEs T ms sc nm r
    | [] => false
end
theorem chkEs_cons {T : Tbl} {m : ME} {ms : MEs} {sc : Scope} {nm : List (Option Str)} {es : List Expr} (h : chkEs T (.cons m ms) sc nm es = true) : ∃ e r, es = e :: r ∧ chkE T m sc nm e = true ∧ chkEs T ms sc nm r = true := by
  cases es with
  | nil => cases h
  | cons e r => exact ⟨e, r, rfl, and2 h⟩
noncomputable def kindOK (e : Expr) : Bool := match e with
  | .Constant .. => true
  | .Name .. => true
  | .BinOp .. => true
  | .UnaryOp .. => true
  | .Compare .. => true
  | .BoolOp .. => true
  | .Call .. => true
  | .Subscript .. => true
  | .List .. => true
  | .Tuple .. => true
  | .ListComp .. => true
  | .IfExp .. => true
  | .Attribute .. => true
  | .Dict .. => true
  | _ => false
end Mine
end

section
namespace Mine
open PySem PyProof.Rows PySem.SeqAt

noncomputable def BP (cx : Cx) (s : Shared) (H : HP) (Q : Bool → HP → Prop) : Bool → Shared → Prop := fun b s' => ∃ H', HS cx H' s' ∧ KE s H s' H' ∧ Q b H'
noncomputable def LP (cx : Cx) (s : Shared) (H : HP) (Q : List V → HP → Prop) : List Value → Shared → Prop := fun vs s' => ∃ H', HS cx H' s' ∧ KE s H s' H' ∧ Q (vs.map abs) H'
theorem bp_from {cx : Cx} {s s₁ : Shared} {H H₁ : HP} {Q : Bool → HP → Prop} {M : Model} {A : Around} {E : Value → Shared → Prop} {t : Sem Bool} (k : KE s H s₁ H₁) (h : wpAny M A t (BP cx s₁ H₁ Q) E s₁) : wpAny M A t (BP cx s H Q) E s₁ :=
  wpAny_mono h (fun _ _ ⟨H', a, b, c⟩ => ⟨H', a, k.trans b, c⟩) fun _ _ e => e
theorem ep_then {cx : Cx} {s : Shared} {H : HP} {Q : V → HP → Prop} {Q' : Value → Shared → Prop} {M : Model} {A : Around} {E : Value → Shared → Prop} {t : Sem Value} (h : wpAny M A t (EP cx s H Q) E s)
    (f : ∀ v s₁ H₁, HS cx H₁ s₁ → KE s H s₁ H₁ → Q (abs v) H₁ → Q' v s₁) : wpAny M A t Q' E s := wpAny_mono h (fun v s₁ ⟨H₁, a, b, c⟩ => f v s₁ H₁ a b c) fun _ _ e => e

theorem starEach_of {e : Expr} (h : kindOK e = true) (r : List Expr) (env : Env) : starEach (e :: r) env = (false, eval e env) :: starEach r env := by
  cases e <;> first | rfl | exact (Bool.false_ne_true h).elim
theorem marks_of {e : Expr} (h : kindOK e = true) (op : CmpOp) : behindInMarks op e = false := by
  cases e <;> first | rfl | exact (Bool.false_ne_true h).elim
theorem folded_of {e : Expr} (h : kindOK e = true) (env : Env) (x : Value) : foldedSetIterable e env x = pure x := by
  cases e <;> first | rfl | exact (Bool.false_ne_true h).elim
theorem notSlice_of {e : Expr} (h : kindOK e = true) : notSlice e = true := by
  cases e <;> first | rfl | exact (Bool.false_ne_true h).elim
theorem base_of {o : Expr} (h : plainBase o = true) (x : Str) (env : Env) (t : Sem Value) : attributeBase o x env t = t := by
  cases o <;> first | rfl | exact (Bool.false_ne_true h).elim
theorem truth_inv {v : Value} {Q : Bool → Prop} (h : TruthP (abs v) Q) : ∃ b, v = .bool b ∧ Q b := by
  cases v <;> first | exact ⟨_, rfl, h⟩ | exact False.elim h

section
variable {cx : Cx} {T : Tbl} {fm : Fm} {H : HP} {μ : List V} {s : Shared} {A : Around} {E : Value → Shared → Prop} {n : Nat}

theorem glob_name (C : cx.OK) (W : fm.OK cx A) (S : HS cx H s) {M : Model} {x : Str} {pos : Pos} {v : Value} (hx : isGlob fm.env.scope x = true) (hg : cx.gl x = some v) {Q : Value → Shared → Prop} (h : Q v s) :
    wpAny M A (eval (.Name x pos) fm.env) Q E s := by
  obtain ⟨h1, h2⟩ := and2 hx
  refine Calls.Name_function_global W.kind (eq_of_beq h1) ?_ (by simpa using h2)
  rcases C.glob x v hg with ⟨mg, g1, g2⟩ | ⟨mg, mb, g1, g2, g3, g4⟩
  · exact Calls.loadGlobal_global (by rw [W.globals]; exact g1.keeps S.ext) g2 h
  · exact Calls.loadGlobal_builtin (by rw [W.globals]; exact g1.keeps S.ext) g2 (by rw [W.builtins]; exact g3.keeps S.ext) g4 h

theorem callf_ok (hA : AOK A n) (S : HS cx H s) (hf : ∀ l, A.frames = some l → FrL cx.base H s.heap l) {f : Addr} {vs : List Value} {Q : V → HP → Prop} (h : CallP cx n f (vs.map abs) H Q) :
    wpAny (model cx.prog cx.w) A (call (.ref f) vs) (EP cx s H Q) E s := by
  refine wpAny_call (codeAny_mono (h A s vs hA.toACall S hf rfl) fun r s' hr => ?_)
  obtain ⟨v, H', rfl, a, b, c⟩ := hr
  exact ⟨H', a, b, c⟩
theorem noStar (env : Env) (pos : Pos) : ∀ {es : List Expr}, (∀ e ∈ es, kindOK e = true) → (backTo pos (starEach es env)).any (·.1) = false ∧ (backTo pos (starEach es env)).all (fun x => !x.1) = true
  | [], _ => ⟨rfl, rfl⟩
  | e :: r, h => by
    rw [starEach_of (h e List.mem_cons_self)]
    exact noStar env pos fun e he => h e (List.mem_cons_of_mem _ he)
theorem compare2 {M : Model} {env : Env} {l m r : Expr} {o1 o2 : CmpOp} {pos : Pos} {Q : Value → Shared → Prop} (hm : behindInMarks o2 r = false)
    (h : wpAny M A (eval l env) (fun a s₁ => wpAny M A (eval m env) (fun b s₂ => wpAny M A (compareOp o1 a b) (fun c s₃ => wpAny M A (truthy c) (fun t s₄ =>
      if t then wpAny M A (eval r env) (fun d s₅ => wpAny M A (compareOp o2 b d) Q E s₅) E s₄ else Q c s₄) E s₃) E s₂) E s₁) E s) :
    wpAny M A (eval (.Compare l [o1, o2] [m, r] pos) env) Q E s := by
  show wpAny M A (do compareChain pos (← eval l env) [o1, o2] (markedEach [o1, o2] [m, r] [eval m env, eval r env])) Q E s
  rw [markedEach_of_false _ _ _ (show lastMarks [o1, o2] [m, r] = false from hm)]
  refine wpAny_bind (wpAny_mono h (fun a s₁ h₁ => ?_) fun _ _ e => e)
  unfold compareChain
  refine wpAny_bind (wpAny_holding (wpAny_mono h₁ (fun b s₂ h₂ => ?_) fun _ _ e => e))
  refine wpAny_bind (wpAny_standAt (wpAny_bind (wpAny_holding (wpAny_mono h₂ (fun c s₃ h₃ => ?_) fun _ _ e => e))))
  refine wpAny_bind (wpAny_release (wpAny_bind (wpAny_holding (wpAny_mono h₃ (fun t s₄ h₄ => ?_) fun _ _ e => e))))
  cases t with
  | true =>
    simp only [if_true] at h₄ ⊢
    unfold compareChain
    refine wpAny_bind (wpAny_holding (wpAny_mono h₄ (fun d s₅ h₅ => wpAny_bind (wpAny_standAt ?_)) fun _ _ e => e))
    intro Γ p hΓ
    rw [Sem.wp_operate]; exact h₅ Γ p hΓ
  | false => exact wpAny_pure h₄

theorem testChain2 {M : Model} {env : Env} {l m r : Expr} {o1 o2 : CmpOp} {pos : Pos} {whole : Sem Value} {Q : Bool → Shared → Prop} (hm : behindInMarks o2 r = false)
    (h : wpAny M A (eval l env) (fun a s₁ => wpAny M A (eval m env) (fun b s₂ => wpAny M A (compareOp o1 a b) (fun c s₃ => wpAny M A (truthy c) (fun t s₄ =>
      if t then wpAny M A (eval r env) (fun d s₅ => wpAny M A (compareOp o2 b d) (fun f s₆ => wpAny M A (truthy f) Q E s₆) E s₅) E s₄ else Q false s₄) E s₃) E s₂) E s₁) E s) :
    wpAny M A (isTrue (.Compare l [o1, o2] [m, r] pos) env whole) Q E s := by
  refine isTrue_chain (wpAny_mono h (fun a s₁ h₁ => ?_) fun _ _ e => e) hm
  unfold testChain
  refine wpAny_bind (wpAny_holding (wpAny_mono h₁ (fun b s₂ h₂ => ?_) fun _ _ e => e))
  refine wpAny_bind (wpAny_standAt (wpAny_bind (wpAny_holding (wpAny_mono h₂ (fun c s₃ h₃ => ?_) fun _ _ e => e))))
  refine wpAny_bind (wpAny_release (wpAny_bind (wpAny_holding (wpAny_mono h₃ (fun t s₄ h₄ => ?_) fun _ _ e => e))))
  cases t with
  | true =>
    simp only [if_true] at h₄ ⊢
    show wpAny M A (testChain pos b [o2] [eval r env]) Q E s₄
    unfold testChain
    refine wpAny_bind (wpAny_holding (wpAny_mono h₄ (fun d s₅ h₅ => wpAny_bind (wpAny_standAt (wpAny_bind ?_))) fun _ _ e => e))
    intro Γ p hΓ
    rw [Sem.wp_operate]
    exact Sem.wp_mono _ Γ _ (fun f p' s₆ h₆ => wpAny_holding h₆) (fun _ _ _ e => e) _ _ (h₅ Γ p hΓ)
  | false => exact wpAny_pure h₄
noncomputable def Mth.id : Mth → String
  | .append => "list.append"
  | .pop => "list.pop"
theorem mth_slot (m : Mth) : Slot "list" m.nm m.id ∧ typeOf (.builtin m.id) = pure (.type "method_descriptor") := by
  cases m with
  | append => exact ⟨PySem.F.slot_list_append, PySem.F.type_list_append⟩
  | pop => exact ⟨PySem.F.slot_list_pop, PySem.F.type_list_pop⟩
theorem listAt_inv {o : V} {H : HP} (h : listAt o H) : ∃ a vs, o = .ref a ∧ H a = some (.list vs) := by
  obtain ⟨a, e, h⟩ := onR_inv h
  obtain ⟨vs, e2, _⟩ := onHL_inv h
  exact ⟨a, vs, e, e2⟩
theorem erase_last (xs : Array Value) : (xs.eraseIdxIfInBounds (xs.size - 1)).toList = xs.toList.dropLast := by
  rw [Array.toList_eraseIdxIfInBounds]
  rw [List.dropLast_eq_take, List.eraseIdx_eq_take_drop_succ]
  simp
  omega
theorem meth0 {H : HP} {s : Shared} (S : HS cx H s) {a : Addr} {m : Mth} {pos : Pos} {Q : V → HP → Prop} (h : methP (.ref a) m [] H Q) :
    wpAny (model cx.prog cx.w) A (callWith pos (.builtin m.id) [.ref a] [] []) (EP cx s H Q) E s := by
  obtain ⟨vs, hvs, h⟩ := onHL_inv h
  cases m with
  | append => exact False.elim h
  | pop =>
    obtain ⟨v, hv, h1, h2⟩ := onO_inv h
    obtain ⟨items, k, e, mm⟩ := S.hr _ _ hvs
    have hlast : vs[vs.length - 1]? = some v := by rw [← List.getLast?_eq_getElem?]; exact hv
    obtain ⟨y, hy, hya⟩ := item_of mm hlast
    rw [← size_of mm] at hy
    have hle : items.size ≤ sizeLine := by rw [size_of mm, sizeLine_eq]; exact h1
    refine P.pop_list e hy ?_ hle
    have e' := IsL.update e (fun xs => xs.eraseIdxIfInBounds (items.size - 1))
    have sb : ∀ b ob, b ≠ a → s.heap.get? b = some ob → (s.heap.update a (Obj.mapSeq fun xs => xs.eraseIdxIfInBounds (items.size - 1))).get? b = some ob := fun b ob hb q => (Heap.get?_update_other _ _ (Ne.symm hb)).trans q
    exact ⟨_, S.change hvs sb (rep_list e' (by rw [erase_last, List.map_dropLast, mm])) s.toks, KE.change hvs sb s.toks, by rw [hya]; exact h2⟩
theorem meth1 {H : HP} {s : Shared} {a : Addr} {m : Mth} {pos : Pos} {x : Sem Value} {Q : V → HP → Prop}
    (h : wpAny (model cx.prog cx.w) A x (EP cx s H fun v H => methP (.ref a) m [v] H Q) E s) :
    wpAny (model cx.prog cx.w) A (callWith pos (.builtin m.id) [.ref a] [(false, x)] []) (EP cx s H Q) E s := by
  cases m with
  | append =>
    refine P.append_list (ep_then h fun v s₁ H₁ S k₁ h => ?_)
    obtain ⟨vs, hvs, h⟩ := onHL_inv h
    obtain ⟨items, k, e, mm⟩ := S.hr _ _ hvs
    refine ⟨items, k, by rw [size_of mm, sizeLine_eq]; exact h.1, e, ?_⟩
    have e' := IsL.update e (fun xs => xs.push v)
    have sb : ∀ b ob, b ≠ a → s₁.heap.get? b = some ob → (s₁.heap.update a (Obj.mapSeq fun xs => xs.push v)).get? b = some ob := fun b ob hb q => (Heap.get?_update_other _ _ (Ne.symm hb)).trans q
    exact ⟨_, S.change hvs sb (rep_list e' (by rw [Array.toList_push, List.map_append, mm]; rfl)) s₁.toks, k₁.trans (KE.change hvs sb s₁.toks), h.2⟩
  | pop =>
    refine Calls.callWith_builtin rfl (Calls.evalArgs_plain (Calls.spliced_cons (ep_then h fun v s₁ H₁ _ _ h => ?_)))
    obtain ⟨vs, _, h⟩ := onHL_inv h
    exact False.elim h
theorem truth_ok {M : Model} {H : HP} {s : Shared} {Q : Bool → HP → Prop} {v : Value} {s' : Shared} (x : EP cx s H (fun v H => TruthP v fun b => Q b H) v s') : wpAny M A (truthy v) (BP cx s H Q) E s' := by
  obtain ⟨H₁, S₁, k₁, h₁⟩ := x
  obtain ⟨b, rfl, h₁⟩ := truth_inv h₁
  exact wpAny_truthy_bool ⟨H₁, S₁, k₁, h₁⟩
end
end Mine
end

section
namespace Mine
open PySem PyProof.Rows PySem.SeqAt

noncomputable def JE (cx : Cx) (A : Around) (n : Nat) (m : ME) (fm : Fm) (e : Expr) : Prop :=
  ∀ (E : Value → Shared → Prop) (H : HP) (μ : List V) (s : Shared) (Q : V → HP → Prop), SR cx fm H μ s → mwpE cx n m μ H Q → wpAny (model cx.prog cx.w) A (eval e fm.env) (EP cx s H Q) E s
noncomputable def JT (cx : Cx) (A : Around) (n : Nat) (m : ME) (fm : Fm) (e : Expr) : Prop :=
  ∀ (E : Value → Shared → Prop) (H : HP) (μ : List V) (s : Shared) (Q : Bool → HP → Prop), SR cx fm H μ s → mwpE cx n m μ H (fun v H => TruthP v fun b => Q b H) → wpAny (model cx.prog cx.w) A (isTrue e fm.env (eval e fm.env)) (BP cx s H Q) E s
noncomputable def JL (cx : Cx) (A : Around) (n : Nat) (ms : MEs) (fm : Fm) (es : List Expr) : Prop :=
  ∀ (E : Value → Shared → Prop) (pos : Pos) (H : HP) (μ : List V) (s : Shared) (Q : List V → HP → Prop), SR cx fm H μ s → mwpEs cx n ms μ H Q → wpAny (model cx.prog cx.w) A (spliced (backTo pos (starEach es fm.env))) (LP cx s H Q) E s
noncomputable def JB (cx : Cx) (A : Around) (n : Nat) (op : BoolOp) (ms : MEs) (fm : Fm) (es : List Expr) : Prop :=
  ∀ (E : Value → Shared → Prop) (pos : Pos) (H : HP) (μ : List V) (s : Shared) (Q : V → HP → Prop), SR cx fm H μ s → mwpB cx n op ms μ H Q → wpAny (model cx.prog cx.w) A (boolOp pos op (evalEach es fm.env)) (EP cx s H Q) E s
noncomputable def JU (cx : Cx) (A : Around) (n : Nat) (op : BoolOp) (ms : MEs) (fm : Fm) (es : List Expr) : Prop :=
  ∀ (E : Value → Shared → Prop) (H : HP) (μ : List V) (s : Shared) (Q : Bool → HP → Prop), SR cx fm H μ s → mwpB cx n op ms μ H (fun v H => TruthP v fun b => Q b H) → wpAny (model cx.prog cx.w) A (allTrue op es fm.env) (BP cx s H Q) E s

section
variable {cx : Cx} {T : Tbl} {A : Around} {n : Nat} {fm : Fm} {E : Value → Shared → Prop} {H : HP} {μ : List V} {s : Shared} {Q : V → HP → Prop}

theorem j_int {i : Int} {c : Const} {k : Nat} {p : Pos} (h : cI c i = true) : JE cx A n (.cint i) fm (.Constant c k p) := by
  intro E H μ s Q S hq
  cases c with
  | int j => have := eq_of_beq (show (i == j) = true from h); subst this; exact wpAny_Constant_int (ep_same S.toHS _ hq)
  | _ => exact (Bool.false_ne_true h).elim
theorem j_none {c : Const} {k : Nat} {p : Pos} (h : cN c = true) : JE cx A n .cnone fm (.Constant c k p) := by
  intro E H μ s Q S hq
  cases c with
  | none => exact wpAny_Constant_none (ep_here S.toHS hq)
  | _ => exact (Bool.false_ne_true h).elim
theorem j_bool {b : Bool} {c : Const} {k : Nat} {p : Pos} (h : cB c b = true) : JE cx A n (.cbool b) fm (.Constant c k p) := by
  intro E H μ s Q S hq
  cases c with
  | bool j => have := eq_of_beq (show (b == j) = true from h); subst this; exact wpAny_Constant_bool (ep_here S.toHS hq)
  | _ => exact (Bool.false_ne_true h).elim
theorem j_str {x : Str} {c : Const} {k : Nat} {p : Pos} (h : cS c x = true) : JE cx A n (.cstr x) fm (.Constant c k p) := by
  intro E H μ s Q S hq
  cases c with
  | str j => have := eq_of_beq (show (x == j) = true from h); subst this; exact wpAny_Constant_str (ep_same S.toHS _ hq)
  | _ => exact (Bool.false_ne_true h).elim
theorem j_loc (W : fm.OK cx A) {i : Nat} {x : Str} {p : Pos} (hd : (!(x == ("__debug__" : Str))) = true) (hi : fm.names[i]? = some (some x)) : JE cx A n (.loc i) fm (.Name x p) := by
  intro E H μ s Q S h
  exact wpAny_Name (load_loc W S hi h.1 fun v hv => ep_here S.toHS (by rw [hv]; exact h.2)) (by simpa using hd)
theorem j_bin (C : cx.OK) (hA : AOK0 A n) {l r : ME} {a b : Expr} {op : Operator} {p : Pos} (il : JE cx A n l fm a) (ir : JE cx A n r fm b) : JE cx A n (.bin op l r) fm (.BinOp a op b p) := by
  intro E H μ s Q S h
  refine wpAny_BinOp (ep_then (il E H μ s _ S h) fun v s₁ H₁ S₁ k₁ h₁ => ep_then (ir E H₁ μ s₁ _ (S.step S₁ k₁) h₁) fun w s₂ H₂ S₂ k₂ h₂ => ?_)
  exact ep_from (k₁.trans k₂) (bin_ok C hA S₂ h₂)
theorem j_not {m : ME} {a : Expr} {p : Pos} (i : JE cx A n m fm a) : JE cx A n (.not m) fm (.UnaryOp .Not a p) := by
  intro E H μ s Q S h
  refine wpAny_UnaryOp (ep_then (i E H μ s _ S h) fun v s₁ H₁ S₁ k₁ h₁ => ?_)
  obtain ⟨b, rfl, h₁⟩ := truth_inv h₁
  exact PyProof.Rows.not_of (wpAny_truthy_bool ⟨H₁, S₁, k₁, h₁⟩)
theorem t_not {m : ME} {a : Expr} {p : Pos} (i : JT cx A n m fm a) : JT cx A n (.not m) fm (.UnaryOp .Not a p) := fun E H μ s Q S h =>
  wpAny_isTrue_Not (i E H μ s (fun b H => Q (!b) H) S h)
theorem j_cmp (C : cx.OK) (hA : AOK0 A n) {l r : ME} {a b : Expr} {op : CmpOp} {p : Pos} (kb : kindOK b = true) (il : JE cx A n l fm a) (ir : JE cx A n r fm b) : JE cx A n (.cmp l op r) fm (.Compare a [op] [b] p) := by
  intro E H μ s Q S h
  refine wpAny_Compare1 (ep_then (il E H μ s _ S h) fun v s₁ H₁ S₁ k₁ h₁ => ep_then (ir E H₁ μ s₁ _ (S.step S₁ k₁) h₁) fun w s₂ H₂ S₂ k₂ h₂ => ?_) (marks_of kb _)
  obtain ⟨c, hc, h₂⟩ := onO_inv h₂
  exact ep_from (k₁.trans k₂) (cmp_ok C hA.toACall0 S₂ hc h₂)
theorem t_cmp (C : cx.OK) (hA : AOK0 A n) {l r : ME} {a b : Expr} {op : CmpOp} {p : Pos} (kb : kindOK b = true) (il : JE cx A n l fm a) (ir : JE cx A n r fm b) : JT cx A n (.cmp l op r) fm (.Compare a [op] [b] p) := by
  intro E H μ s Q S h
  refine wpAny_isTrue_Compare1 (ep_then (il E H μ s _ S h) fun v s₁ H₁ S₁ k₁ h₁ => ep_then (ir E H₁ μ s₁ _ (S.step S₁ k₁) h₁) fun w s₂ H₂ S₂ k₂ h₂ => ?_) (marks_of kb _)
  obtain ⟨c, hc, h₂⟩ := onO_inv h₂
  refine ep_then (cmp_ok (Q := fun v H => TruthP v fun b => Q b H) C hA.toACall0 S₂ hc h₂) fun t s₃ H₃ S₃ k₃ h₃ => truth_ok ⟨H₃, S₃, k₁.trans (k₂.trans k₃), h₃⟩
theorem t_value {m : ME} {e : Expr} (i : JE cx A n m fm e) (he : ∀ env whole, isTrue e env whole = (do let v ← whole; standAt e.pos; holding [v] (truthy v))) : JT cx A n m fm e := fun E H μ s Q S h =>
  wpAny_isTrue_value (wpAny_mono (i E H μ s _ S h) (fun _ _ x => truth_ok x) fun _ _ e => e) (he _ _)

theorem jl_nil : JL cx A n .nil fm [] := fun E pos H μ s Q S h => Calls.spliced_nil ⟨H, S.toHS, Kept.refl _ s H, h⟩
theorem jl_cons {m : ME} {ms : MEs} {e : Expr} {r : List Expr} (ke : kindOK e = true) (i : JE cx A n m fm e) (ir : JL cx A n ms fm r) : JL cx A n (.cons m ms) fm (e :: r) := by
  intro E pos H μ s Q S h
  rw [starEach_of ke]
  refine Calls.spliced_cons (ep_then (i E H μ s _ S h) fun v s₁ H₁ S₁ k₁ h₁ => wpAny_mono (ir E pos H₁ μ s₁ _ (S.step S₁ k₁) h₁) (fun vs s₂ x => ?_) fun _ _ e => e)
  obtain ⟨H₂, S₂, k₂, h₂⟩ := x
  exact ⟨H₂, S₂, k₁.trans k₂, h₂⟩
theorem j_list (C : cx.OK) {ms : MEs} {es : List Expr} {p : Pos} (i : JL cx A n ms fm es) : JE cx A n (.list ms) fm (.List es p) := by
  intro E H μ s Q S h
  refine List_ (wpAny_mono (i E p H μ s _ S h) (fun vs s₁ x => ?_) fun _ _ e => e)
  obtain ⟨H₁, S₁, k₁, hlen, h₁⟩ := x
  exact ep_from k₁ (wpAny_newList (ep_push C S₁ h₁ (fun h e => rep_list e (by simp)) rfl _) (by rw [sizeLine_eq]; simpa using hlen))
theorem j_tup (C : cx.OK) {ms : MEs} {es : List Expr} {k : Nat} {p : Pos} (i : JL cx A n ms fm es) : JE cx A n (.tup ms) fm (.Tuple es k p) := by
  intro E H μ s Q S h
  refine Tuple_ (wpAny_mono (i E p H μ s _ S h) (fun vs s₁ x => ?_) fun _ _ e => e)
  obtain ⟨H₁, S₁, k₁, hlen, h₁⟩ := x
  exact ep_from k₁ (wpAny_newTuple (ep_push C S₁ h₁ (fun h e => rep_tup e (by simp)) rfl _) (by rw [sizeLine_eq]; simpa using hlen))

theorem jb_one {op : BoolOp} {m : ME} {e : Expr} (i : JE cx A n m fm e) : JB cx A n op (.cons m .nil) fm [e] := fun E pos H μ s Q S h => i E H μ s Q S h
theorem jb_more {op : BoolOp} {m m' : ME} {ms : MEs} {e e' : Expr} {r : List Expr} (i : JE cx A n m fm e) (ir : JB cx A n op (.cons m' ms) fm (e' :: r)) : JB cx A n op (.cons m (.cons m' ms)) fm (e :: e' :: r) := by
  intro E pos H μ s Q S h
  show wpAny _ A (do
    let v ← eval e fm.env
    standAt pos
    let t ← holding [v] (truthy v)
    match op, t with
    | .And, false | .Or, true => pure v
    | _, _ => boolOp pos op (evalEach (e' :: r) fm.env)) _ E s
  refine wpAny_bind (ep_then (i E H μ s _ S h) fun v s₁ H₁ S₁ k₁ h₁ => ?_)
  obtain ⟨b, rfl, h₁⟩ := truth_inv h₁
  refine wpAny_bind (wpAny_standAt (wpAny_bind (wpAny_holding (wpAny_truthy_bool ?_))))
  have rec' := fun h' => ep_from (E := E) k₁ (ir E pos H₁ μ s₁ Q (S.step S₁ k₁) h')
  cases op <;> cases b
  · exact wpAny_pure ⟨H₁, S₁, k₁, h₁.2 rfl⟩
  · exact rec' (h₁.1 rfl)
  · exact rec' (h₁.1 rfl)
  · exact wpAny_pure ⟨H₁, S₁, k₁, h₁.2 rfl⟩
theorem ju_one {op : BoolOp} {m : ME} {e : Expr} (i : JT cx A n m fm e) : JU cx A n op (.cons m .nil) fm [e] := by
  intro E H μ s Q S h
  have hx := i E H μ s Q S h
  cases op with
  | And =>
    refine wpAny_allTrue_And_cons (wpAny_mono hx (fun b s₁ x => ?_) fun _ _ e => e)
    cases b
    · exact x
    · exact wpAny_pure x
  | Or =>
    refine wpAny_allTrue_Or_cons (wpAny_mono hx (fun b s₁ x => ?_) fun _ _ e => e)
    cases b
    · exact wpAny_pure x
    · exact x
theorem ju_more {op : BoolOp} {m m' : ME} {ms : MEs} {e e' : Expr} {r : List Expr} (i : JT cx A n m fm e) (ir : JU cx A n op (.cons m' ms) fm (e' :: r)) : JU cx A n op (.cons m (.cons m' ms)) fm (e :: e' :: r) := by
  intro E H μ s Q S h
  have hx := i E H μ s (fun b H => (b = (op == .And) → mwpB cx n op (.cons m' ms) μ H (fun v H => TruthP v fun b => Q b H)) ∧ (b = (op == .Or) → Q b H)) S h
  have rec' := fun {s₁ H₁} (S₁ : HS cx H₁ s₁) (k₁ : KE s H s₁ H₁) h' => bp_from (E := E) k₁ (ir E H₁ μ s₁ Q (S.step S₁ k₁) h')
  cases op with
  | And =>
    refine wpAny_allTrue_And_cons (wpAny_mono hx (fun b s₁ x => ?_) fun _ _ e => e)
    obtain ⟨H₁, S₁, k₁, h₁⟩ := x
    cases b
    · exact ⟨H₁, S₁, k₁, h₁.2 rfl⟩
    · exact rec' S₁ k₁ (h₁.1 rfl)
  | Or =>
    refine wpAny_allTrue_Or_cons (wpAny_mono hx (fun b s₁ x => ?_) fun _ _ e => e)
    obtain ⟨H₁, S₁, k₁, h₁⟩ := x
    cases b
    · exact rec' S₁ k₁ (h₁.1 rfl)
    · exact ⟨H₁, S₁, k₁, h₁.2 rfl⟩

theorem callBF (C : cx.OK) (hA : AOK0 A n) {b : BF} (hh : b.quiet = false → A.handled = none) {t : Sem Value} {ts : List (Bool × Sem Value)} {pos : Pos} (hns : ((false, t) :: ts).any (·.1) = false)
    (h : wpAny (model cx.prog cx.w) A (spliced ((false, t) :: ts)) (LP cx s H fun vs H => callbP cx b vs H Q) E s) :
    wpAny (model cx.prog cx.w) A (callWith pos b.val [] ((false, t) :: ts) []) (EP cx s H Q) E s := by
  have fin : ∀ v, b.val = v → wpAny (model cx.prog cx.w) A (evalArgs v true ((false, t) :: ts) []) (fun a s₁ => wpAny (model cx.prog cx.w) A (call v ([] ++ a.pos) a.kw) (EP cx s H Q) E s₁) E s := by
    intro v hv
    subst hv
    refine Calls.evalArgs_plain (wpAny_mono h (fun vs s₁ x => ?_) fun _ _ e => e)
    obtain ⟨H₁, S₁, k₁, h₁⟩ := x
    exact ep_from (E := E) k₁ (callb_ok (A := A) C hA S₁ hh h₁)
  cases b with
  | len => exact Calls.callWith_builtin (id := "len") hns (fin _ rfl)
  | list => exact PySem.callWith_type (T := "list") hns (fin _ rfl)
  | min => exact Calls.callWith_builtin (id := "min") hns (fin _ rfl)
  | sum => exact Calls.callWith_builtin (id := "sum") hns (fin _ rfl)
theorem j_callf (C : cx.OK) (TO : T.OK cx) (hA : AOK A n) (W : fm.OK cx A) {f : Addr} {ms : MEs} {x : Str} {np p : Pos} {e : Expr} {r : List Expr} (hx : isGlob fm.env.scope x = true) (hf : T.fns.lookup x = some f) (ke : kindOK e = true)
    (i : JL cx A n ms fm (e :: r)) : JE cx A n (.callf f ms) fm (.Call (.Name x np) (e :: r) [] p) := by
  intro E H μ s Q S h
  obtain ⟨hg, o, fd, ho, hd⟩ := TO.fn x f hf
  refine wpAny_Call_ofName (glob_name C W S.toHS hx hg ?_)
  refine callWith_def hd (wpAny_mono (i E p H μ s _ S h) (fun vs s₁ x => ?_) fun _ _ e => e) (starEach_of ke _ _)
  obtain ⟨H₁, S₁, k₁, h₁⟩ := x
  exact ⟨S₁.ext _ _ ho, ep_from k₁ (callf_ok hA S₁ ((S.step S₁ k₁).frs W) h₁)⟩
theorem j_callb (C : cx.OK) (TO : T.OK cx) (hA : AOK0 A n) (W : fm.OK cx A) {b : BF} (hh : b.quiet = false → A.handled = none) {ms : MEs} {x : Str} {np p : Pos} {e : Expr} {r : List Expr} (hx : isGlob fm.env.scope x = true) (hf : T.bfs.lookup x = some b) (ke : ∀ a ∈ e :: r, kindOK a = true)
    (i : JL cx A n ms fm (e :: r)) : JE cx A n (.callb b ms) fm (.Call (.Name x np) (e :: r) [] p) := by
  intro E H μ s Q S h
  have hs := i E p H μ s _ S h
  have hns := (noStar fm.env p ke).1
  refine wpAny_Call_ofName (glob_name C W S.toHS hx (TO.bf _ _ hf) ?_)
  rw [starEach_of (ke e List.mem_cons_self)] at hs hns ⊢
  exact callBF C hA hh hns hs
theorem j_isi (C : cx.OK) (TO : T.OK cx) (W : fm.OK cx A) {m : ME} {t : String} {np tp p : Pos} {e : Expr} {y : Str} (hx : isGlob fm.env.scope "isinstance" = true) (hy : isGlob fm.env.scope y = true) (hf : T.tys.lookup y = some t) (ke : kindOK e = true)
    (i : JE cx A n m fm e) : JE cx A n (.isi m t) fm (.Call (.Name "isinstance" np) [e, .Name y tp] [] p) := by
  intro E H μ s Q S h
  refine wpAny_Call_ofName (glob_name C W S.toHS hx TO.isi ?_)
  rw [starEach_of ke]
  refine Calls.callWith_builtin (by rfl) (Calls.evalArgs_plain (Calls.spliced_cons (ep_then (i E H μ s _ S h) fun v s₁ H₁ S₁ k₁ h₁ => ?_)))
  refine Calls.spliced_cons (glob_name C W S₁ hy (TO.ty _ _ hf) (Calls.spliced_nil ?_))
  obtain ⟨b, hb, h₁⟩ := onO_inv h₁
  exact ep_from k₁ (isi_ok S₁ hb h₁)
theorem j_meth {o : ME} {m : Mth} {ms : MEs} {b : Expr} {ap p : Pos} {as : List Expr} (hp : (ap.endLine == p.line) = true) (hb : plainBase b = true) (hl : as.length < 2) (hc : chkEs T ms fm.env.scope fm.names as = true) (hk : ∀ a ∈ as, kindOK a = true) (io : JE cx A n o fm b)
    (ia : ∀ m' e, ms = .cons m' .nil → as = [e] → JE cx A n m' fm e) : JE cx A n (.meth o m ms) fm (.Call (.Attribute b m.nm ap) as [] p) := by
  intro E H μ s Q S h
  obtain ⟨slot, hty⟩ := mth_slot m
  have hns := (noStar fm.env p hk).2
  refine wpAny_Call_method (base_of hb _ _ _) (by rw [hns, show keywordEach [] fm.env = [] from rfl]; simp [backToKw]; first | lia | omega) hp PySem.F.plainAttrs_list slot hty (ep_then (io E H μ s _ S h) fun ov s₁ H₁ S₁ k₁ h₁ => ?_)
  obtain ⟨hl', h₁⟩ := h₁
  obtain ⟨ad, vs, e1, e2⟩ := listAt_inv hl'
  have := abs_ref e1; subst this
  obtain ⟨items, k, e3, _⟩ := S₁.hr _ _ e2
  refine ⟨⟨_, e3, rfl⟩, fun b hb => by cases hb; exact ⟨_, e3, rfl⟩, ?_⟩
  cases ms with
  | nil =>
    have := nil_of hc; subst this
    exact ep_from k₁ (meth0 S₁ h₁)
  | cons m' ms =>
    obtain ⟨e, r, rfl, h1, h2⟩ := chkEs_cons hc
    cases r with
    | cons e' r => rw [List.length_cons, List.length_cons] at hl; first | lia | omega
    | nil => cases ms with
      | nil =>
        rw [starEach_of (hk e List.mem_cons_self)]
        exact ep_from k₁ (meth1 (ia m' e rfl rfl E H₁ μ s₁ _ (S.step S₁ k₁) h₁))
      | cons => cases h2
theorem j_sub (C : cx.OK) {o i : ME} {a b : Expr} {p : Pos} (kb : kindOK b = true) (io : JE cx A n o fm a) (ii : JE cx A n i fm b) : JE cx A n (.sub o i) fm (.Subscript a b p) := by
  intro E H μ s Q S h
  refine Subscript_ (ep_then (io E H μ s _ S h) fun v s₁ H₁ S₁ k₁ h₁ => ep_then (ii E H₁ μ s₁ _ (S.step S₁ k₁) h₁) fun w s₂ H₂ S₂ k₂ h₂ => ?_)
  exact ep_from (k₁.trans k₂) (sub_ok C S₂ (notSlice_of kb) h₂)
theorem j_dsub {o i : ME} {a b : Expr} {p : Pos} (kb : kindOK b = true) (io : JE cx A n o fm a) (ii : JE cx A n i fm b) : JE cx A n (.dsub o i) fm (.Subscript a b p) := by
  intro E H μ s Q S h
  refine Subscript_ (ep_then (io E H μ s _ S h) fun v s₁ H₁ S₁ k₁ h₁ => ep_then (ii E H₁ μ s₁ _ (S.step S₁ k₁) h₁) fun w s₂ H₂ S₂ k₂ h₂ => ?_)
  exact ep_from (k₁.trans k₂) (dsub_ok S₂ (notSlice_of kb) h₂)
theorem j_dnil (C : cx.OK) {p : Pos} : JE cx A n .dnil fm (.Dict [] [] p) := by
  intro E H μ s Q S h
  exact wpAny_Dict_empty (ep_push C S.toHS h (fun h e => ⟨cx.prog, cx.w, [], ⟨_, #[], _, e, ⟨rfl, rfl, rfl⟩, rfl, fun _ q => (by simp at q), .nil, .nil⟩, rfl⟩) rfl _)
theorem j_done (C : cx.OK) {k : Int} {v : ME} {c : Const} {ck : Nat} {cp p : Pos} {e : Expr} (hc : cI c k = true) (iv : JE cx A n v fm e) : JE cx A n (.done k v) fm (.Dict [some (.Constant c ck cp)] [e] p) := by
  intro E H μ s Q S h
  have kg : ∀ b o, s.heap.get? b = some o → (s.heap.push { cls := .type "dict", data := .dict #[] }).get? b = some o := fun b o q => Heap.get?_push_of_some _ q
  have S1 : HS cx (upd H s.heap.objs.size (.dct [])) { s with heap := s.heap.push { cls := .type "dict", data := .dict #[] } } := S.toHS.alloc (o := .dct []) kg (get_size _) ⟨cx.prog, cx.w, [], Heap.DictOf.new _, rfl⟩ s.toks
  have k1 : KE s H { s with heap := s.heap.push { cls := .type "dict", data := .dict #[] } } (upd H s.heap.objs.size (.dct [])) := KE.alloc kg (get_size _) s.toks
  refine wpAny_Dict_pairs (knd := intKind cx.prog cx.w) (pairs := [(eval (.Constant c ck cp) fm.env, do let x ← eval e fm.env; standAt p; pure x)]) rfl (by simp) (by simp) ?_
  refine evalPairs_cons (ep_then (j_int (n := n) hc E _ μ _ (fun w H' => w = .int k ∧ H' = upd H s.heap.objs.size (.dct [])) (S.step S1 k1) ⟨rfl, rfl⟩) fun kv s₂ H₂ S₂ k₂ h₂ => ?_)
  obtain ⟨hk, rfl⟩ := h₂
  obtain ⟨t, rfl⟩ := abs_int hk
  have k12 := k1.trans k₂
  refine wpAny_bind (ep_then (iv E _ μ s₂ _ (S.step S₂ k12) (h _ (S.toHS.fresh C (get_size _)))) fun x s₃ H₃ S₃ k₃ h₃ => wpAny_bind (wpAny_standAt (wpAny_pure (evalPairs_nil ?_))))
  obtain ⟨hD, hQ⟩ := h₃
  obtain ⟨p', w', ws, d, hw⟩ := S₃.hr _ _ hD
  have : ws = [] := List.map_eq_nil_iff.mp hw
  subst this
  refine display_done_int (vs := [(.int k t, x)]) (P := fun h' => EP cx s H Q (.ref s.heap.objs.size) { s₃ with heap := h', toks := s₃.toks + [((.int k t : Value), x)].length }) rfl (by simp [intKeyPairs]) (DictOf.any d) fun h' d' sb => ?_
  exact ⟨_, S₃.change (o' := .dct [(k, abs x)]) hD (fun b ob hb q => (sb.2 b hb).trans q) ⟨_, _, _, d', rfl⟩ _, (k12.trans k₃).trans (KE.change hD (fun b ob hb q => (sb.2 b hb).trans q) _), hQ⟩
theorem part_ok {o : ME} {x : Option Expr} (i : (x = none ∧ o = .cnone) ∨ ∃ e, x = some e ∧ JE cx A n o fm e) (S : SR cx fm H μ s) (h : mwpE cx n o μ H Q) : wpAny (model cx.prog cx.w) A (evalPart x fm.env) (EP cx s H Q) E s := by
  rcases i with ⟨rfl, rfl⟩ | ⟨e, rfl, i⟩
  · exact wpAny_evalPart_none (ep_here S.toHS h)
  · exact wpAny_evalPart_some (i E H μ s _ S h)
theorem j_slice (C : cx.OK) {o lo hi : ME} {a : Expr} {x y : Option Expr} {p p' : Pos} (io : JE cx A n o fm a) (il : (x = none ∧ lo = .cnone) ∨ ∃ e, x = some e ∧ JE cx A n lo fm e) (ih : (y = none ∧ hi = .cnone) ∨ ∃ e, y = some e ∧ JE cx A n hi fm e) :
    JE cx A n (.slice o lo hi) fm (.Subscript a (.Slice x y none p') p) := by
  intro E H μ s Q S h
  refine Subscript_ (ep_then (io E H μ s _ S h) fun v s₁ H₁ S₁ k₁ h₁ => ?_)
  refine wpAny_Slice (ep_then (part_ok il (S.step S₁ k₁) h₁) fun l s₂ H₂ S₂ k₂ h₂ => ?_)
  have k12 := k₁.trans k₂
  refine ep_then (part_ok ih (S.step S₂ k12) h₂) fun u s₃ H₃ S₃ k₃ h₃ => wpAny_evalPart_none ?_
  exact wpAny_mono (slice_ok C S₃ h₃) (fun _ _ x => x.from (k12.trans k₃)) fun _ _ e => e
theorem j_neg {m : ME} {a : Expr} {p : Pos} (i : JE cx A n m fm a) : JE cx A n (.neg m) fm (.UnaryOp .USub a p) := by
  intro E H μ s Q S h
  refine wpAny_UnaryOp (ep_then (i E H μ s _ S h) fun v s₁ H₁ S₁ k₁ h₁ => ?_)
  obtain ⟨j, e, h₁⟩ := onI_inv h₁
  obtain ⟨t, rfl⟩ := abs_int e
  exact PyProof.Rows.neg_int ⟨H₁, S₁.toks _, k₁.trans (KE.toks s₁ H₁ _), h₁⟩
theorem j_ife {c t e : ME} {d a b : Expr} {p : Pos} (ic : JT cx A n c fm d) (it : JE cx A n t fm a) (ie : JE cx A n e fm b) : JE cx A n (.ife c t e) fm (.IfExp d a b p) := by
  intro E H μ s Q S h
  refine wpAny_IfExp (wpAny_mono (ic E H μ s (fun b' H => (b' = true → mwpE cx n t μ H Q) ∧ (b' = false → mwpE cx n e μ H Q)) S h) (fun v s₁ x => ?_) fun _ _ e => e)
  obtain ⟨H₁, S₁, k₁, h₁⟩ := x
  cases v with
  | true => exact ep_from k₁ (it E H₁ μ s₁ Q (S.step S₁ k₁) (h₁.1 rfl))
  | false => exact ep_from k₁ (ie E H₁ μ s₁ Q (S.step S₁ k₁) (h₁.2 rfl))
theorem t_ife {c t e : ME} {d a b : Expr} {p : Pos} (ic : JT cx A n c fm d) (it : JT cx A n t fm a) (ie : JT cx A n e fm b) : JT cx A n (.ife c t e) fm (.IfExp d a b p) := by
  intro E H μ s Q S h
  rw [arm_isTrue_IfExp]
  refine wpAny_bind (wpAny_mono (ic E H μ s (fun b' H => (b' = true → mwpE cx n t μ H fun v H => TruthP v fun b => Q b H) ∧ (b' = false → mwpE cx n e μ H fun v H => TruthP v fun b => Q b H)) S h) (fun v s₁ x => ?_) fun _ _ e => e)
  obtain ⟨H₁, S₁, k₁, h₁⟩ := x
  cases v with
  | true => exact bp_from k₁ (it E H₁ μ s₁ Q (S.step S₁ k₁) (h₁.1 rfl))
  | false => exact bp_from k₁ (ie E H₁ μ s₁ Q (S.step S₁ k₁) (h₁.2 rfl))
theorem j_gint (C : cx.OK) (TO : T.OK cx) (W : fm.OK cx A) {i : Int} {x : Str} {p : Pos} (hx : isGlob fm.env.scope x = true) (hf : T.gis.lookup x = some i) : JE cx A n (.gint i) fm (.Name x p) := by
  intro E H μ s Q S h
  obtain ⟨t, ht⟩ := TO.gi x i hf
  exact glob_name C W S.toHS hx ht (ep_here S.toHS h)
theorem chain_ok (C : cx.OK) (hA : AOK0 A n) {r : ME} {c : Expr} {o1 o2 : CmpOp} {v w : Value} {s₁ s₂ : Shared} {H₁ H₂ : HP} (S : SR cx fm H μ s) (S₂ : HS cx H₂ s₂) (k : KE s H s₂ H₂) (ir : JE cx A n r fm c)
    (h : onO (cmpP cx o1 (abs v) (abs w) H₂) fun d => (d = true → mwpE cx n r μ H₂ fun e H => onO (cmpP cx o2 (abs w) e H) fun f => Q (.bool f) H) ∧ (d = false → Q (.bool false) H₂))
    {P : Value → Shared → Prop} (fin : ∀ b s', EP cx s H Q (.bool b) s' → P (.bool b) s') :
    wpAny (model cx.prog cx.w) A (compareOp o1 v w) (fun t s₃ => ∃ d, t = .bool d ∧ if d = true then wpAny (model cx.prog cx.w) A (eval c fm.env) (fun y s₅ => wpAny (model cx.prog cx.w) A (compareOp o2 w y) P E s₅) E s₃ else P t s₃) E s₂ := by
  obtain ⟨d, hd, h⟩ := onO_inv h
  refine ep_then (cmp_ok (Q := fun u H' => u = .bool d ∧ H' = H₂) C hA.toACall0 S₂ hd ⟨rfl, rfl⟩) fun t s₃ H₃ S₃ k₃ h₃ => ?_
  obtain ⟨ht, rfl⟩ := h₃
  have := abs_bool ht; subst this
  have k' := k.trans k₃
  refine ⟨d, rfl, ?_⟩
  cases d with
  | true =>
    rw [if_pos rfl]
    refine ep_then (ir E H₃ μ s₃ _ (S.step S₃ k') (h.1 rfl)) fun y s₄ H₄ S₄ k₄ h₄ => ?_
    obtain ⟨f, hf, h₄⟩ := onO_inv h₄
    refine wpAny_mono (cmp_ok (Q := fun u H' => u = .bool f ∧ Q (.bool f) H') C hA.toACall0 S₄ hf ⟨rfl, h₄⟩) (fun u s₅ x => ?_) fun _ _ e => e
    obtain ⟨H₅, S₅, k₅, hu, h₅⟩ := x
    have := abs_bool hu; subst this
    exact fin f s₅ ⟨H₅, S₅, k'.trans (k₄.trans k₅), h₅⟩
  | false =>
    rw [if_neg (by decide)]
    exact fin false s₃ ⟨H₃, S₃, k', h.2 rfl⟩
theorem j_cmp2 (C : cx.OK) (hA : AOK0 A n) {l m r : ME} {a b c : Expr} {o1 o2 : CmpOp} {p : Pos} (kc : kindOK c = true) (il : JE cx A n l fm a) (im : JE cx A n m fm b) (ir : JE cx A n r fm c) : JE cx A n (.cmp2 l o1 m o2 r) fm (.Compare a [o1, o2] [b, c] p) := by
  intro E H μ s Q S h
  refine compare2 (marks_of kc _) (ep_then (il E H μ s _ S h) fun v s₁ H₁ S₁ k₁ h₁ => ep_then (im E H₁ μ s₁ _ (S.step S₁ k₁) h₁) fun w s₂ H₂ S₂ k₂ h₂ => ?_)
  refine wpAny_mono (chain_ok (s₁ := s₁) (H₁ := H₁) (P := EP cx s H Q) C hA S S₂ (k₁.trans k₂) ir h₂ fun _ _ x => x) (fun t s₃ x => ?_) fun _ _ e => e
  obtain ⟨d, rfl, x⟩ := x
  exact wpAny_truthy_bool x
theorem t_cmp2 (C : cx.OK) (hA : AOK0 A n) {l m r : ME} {a b c : Expr} {o1 o2 : CmpOp} {p : Pos} (kc : kindOK c = true) (il : JE cx A n l fm a) (im : JE cx A n m fm b) (ir : JE cx A n r fm c) : JT cx A n (.cmp2 l o1 m o2 r) fm (.Compare a [o1, o2] [b, c] p) := by
  intro E H μ s Q S h
  refine testChain2 (marks_of kc _) (ep_then (il E H μ s _ S h) fun v s₁ H₁ S₁ k₁ h₁ => ep_then (im E H₁ μ s₁ _ (S.step S₁ k₁) h₁) fun w s₂ H₂ S₂ k₂ h₂ => ?_)
  refine wpAny_mono (chain_ok (s₁ := s₁) (H₁ := H₁) (Q := fun v H => TruthP v fun b => Q b H) (P := fun t s' => wpAny (model cx.prog cx.w) A (truthy t) (BP cx s H Q) E s') C hA S S₂ (k₁.trans k₂) ir h₂ fun _ _ x => truth_ok x) (fun t s₃ x => ?_) fun _ _ e => e
  obtain ⟨d, rfl, x⟩ := x
  cases d with
  | true => exact wpAny_truthy_bool x
  | false => exact x
theorem name_ok (W : fm.OK cx A) (S : SR cx fm H μ s) {i : Nat} {x : Str} {p : Pos} (hd : (!(x == ("__debug__" : Str))) = true) (hi : fm.names[i]? = some (some x)) (hu : getL μ i ≠ .unb) {P : Value → Shared → Prop} (h : ∀ v, abs v = getL μ i → P v s) :
    wpAny (model cx.prog cx.w) A (eval (.Name x p) fm.env) P E s := wpAny_Name (load_loc W S hi hu h) (by simpa using hd)
theorem j_attr (TO : T.OK cx) (W : fm.OK cx A) {C : Addr} {i : Nat} {x z : Str} {np p : Pos} (ht : T.ats.contains (C, x) = true) (hd : (!(z == ("__debug__" : Str))) = true) (hi : fm.names[i]? = some (some z)) : JE cx A n (.attr C i x) fm (.Attribute (.Name z np) x p) := by
  intro E H μ s Q S h
  refine Attribute_name (name_ok W S hd hi h.1 fun v hv => attr_ok TO.kin (TO.at_ C x ht) S.toHS ?_)
  rw [hv]; exact h.2
theorem callm_any (TO : T.OK cx) (W : fm.OK cx A) {C f : Addr} {i : Nat} {ms : MEs} {x z : Str} {np ap p : Pos} {as : List Expr} (hp : (ap.endLine == p.line) = true) (ht : T.mts.contains (C, x, f) = true) (hd : (!(z == ("__debug__" : Str))) = true)
    (hi : fm.names[i]? = some (some z)) (hl : as.length < 20) (hk : ∀ a ∈ as, kindOK a = true) (hc : chkEs T ms fm.env.scope fm.names as = true) (ia : JL cx A n ms fm as) (S : SR cx fm H μ s) {P : List V → HP → Prop} (h0 : getL μ i ≠ .unb) (h1 : instP C (getL μ i) x H) (h2 : mwpEs cx n ms μ H P) {RR : Value → Shared → Prop}
    (fin : ∀ v vs s₁ H₁, abs v = getL μ i → HS cx H₁ s₁ → KE s H s₁ H₁ → P (vs.map abs) H₁ → wpAny (model cx.prog cx.w) A (call (.ref f) ([v] ++ vs)) RR E s₁) : wpAny (model cx.prog cx.w) A (eval (.Call (.Attribute (.Name z np) x ap) as [] p) fm.env) RR E s := by
  have hM := TO.mt C x f ht
  rw [arm_eval_Call, base_of rfl]
  refine wpAny_bind (name_ok W S hd hi h0 fun v hv => wpAny_bind (wpAny_standAt ?_))
  have hns := noStar fm.env p hk
  have hform : methodCallForm (as.length + ([] : List Keyword).length) (backTo p (starEach as fm.env)) (backToKw p (keywordEach [] fm.env)) = true := by
    show (List.all _ _ && _ && decide (_ < 30)) = true
    rw [hns.2]
    show (true && true && decide _) = true
    rw [decide_eq_true (by show as.length + 0 + 0 < 30; omega)]; rfl
  have hpos : methodCallPos true (.Name z np) fm.env ap p = pure p := by unfold methodCallPos; simp [hp]
  unfold methodCall
  rw [hform]
  refine wpAny_bind (wpAny_holding (meth_ok TO.kin hM S.toHS (by rw [hv]; exact h1) ?_))
  refine wpAny_bind (wpAny_of_eq hpos ?_)
  have hkeep : PySem.W.keepIn T.K (.ref f) = true := (band (band (band hM).2).2).2
  cases as with
  | nil =>
    cases ms with
    | nil => exact PySem.W.callWith_K0 (TO.kin.keeps S.ext) hkeep (fin v [] s H hv S.toHS (Kept.refl _ s H) h2)
    | cons => cases hc
  | cons e r =>
    refine PySem.W.callWith_K TO.kin hkeep (wpAny_mono (ia E p H μ s _ S h2) (fun vs s₁ x => ?_) fun _ _ e => e) (starEach_of (hk e List.mem_cons_self) _ _) (noStar fm.env p fun a ha => hk a (List.mem_cons_of_mem _ ha)).1
    obtain ⟨H₁, S₁, k₁, h₁⟩ := x
    exact ⟨TO.kin.keeps S₁.ext, fin v vs s₁ H₁ hv S₁ k₁ h₁⟩
theorem j_callm (TO : T.OK cx) (hA : AOK A n) (W : fm.OK cx A) {C f : Addr} {i : Nat} {ms : MEs} {x z : Str} {np ap p : Pos} {as : List Expr} (hp : (ap.endLine == p.line) = true) (ht : T.mts.contains (C, x, f) = true) (hd : (!(z == ("__debug__" : Str))) = true)
    (hi : fm.names[i]? = some (some z)) (hl : as.length < 20) (hk : ∀ a ∈ as, kindOK a = true) (hc : chkEs T ms fm.env.scope fm.names as = true) (ia : JL cx A n ms fm as) : JE cx A n (.callm C x f i ms) fm (.Call (.Attribute (.Name z np) x ap) as [] p) := by
  intro E H μ s Q S h
  exact callm_any TO W hp ht hd hi hl hk hc ia S h.1 h.2.1 h.2.2 fun v vs s₁ H₁ hv S₁ k₁ h₁ => ep_from k₁ (callf_ok hA S₁ ((S.step S₁ k₁).frs W) (by show CallP cx n f (abs v :: vs.map abs) H₁ Q; rw [hv]; exact h₁))
theorem j_mk (CO : cx.OK) (TO : T.OK cx) (hA : AOK A n) (W : fm.OK cx A) {C f : Addr} {ms : MEs} {x : Str} {np p : Pos} {e : Expr} {r : List Expr} (hx : isGlob fm.env.scope x = true) (ht : T.mks.contains (x, C, f) = true) (hk : ∀ a ∈ e :: r, kindOK a = true)
    (ia : JL cx A n ms fm (e :: r)) : JE cx A n (.mk C f ms) fm (.Call (.Name x np) (e :: r) [] p) := by
  intro E H μ s Q S h
  obtain ⟨hg, hM⟩ := TO.mkc x C f ht
  have hkeep : PySem.W.keepIn T.K (.ref C) = true := (band (band (band hM).2).2).2
  refine wpAny_Call_ofName (glob_name CO W S.toHS hx hg ?_)
  refine PySem.W.callWith_K TO.kin hkeep (wpAny_mono (ia E p H μ s _ S h) (fun vs s₁ x => ?_) fun _ _ e => e) (starEach_of (hk e List.mem_cons_self) _ _) (noStar fm.env p fun a ha => hk a (List.mem_cons_of_mem _ ha)).1
  obtain ⟨H₁, S₁, k₁, h₁⟩ := x
  exact ⟨TO.kin.keeps S₁.ext, ep_from k₁ (mk_ok CO hA.toACall ((S.step S₁ k₁).frs W) TO.kin hM S₁ h₁)⟩
end
end Mine
end

section
namespace Mine
open PySem PyProof.Rows PySem.SeqAt

structure Iter (cx : Cx) (A : Around) (E : Value → Shared → Prop) (it : Addr) (items : List V) (st : HP → Prop) (P : Nat → Heap → Prop) : Prop where
  next : ∀ (s : Shared) (H : HP) (i : Nat) (v : V) (Q : Option Value → Shared → Prop), HS cx H s → st H → P i s.heap → items[i]? = some v →
    (∀ h' tk x, Mine.abs x = v → P (i + 1) h' → Heap.SameBut it s.heap h' → Q (some x) { s with heap := h', toks := tk }) → wpAny (model cx.prog cx.w) A (pyNext (.ref it)) Q E s
  stop : ∀ (s : Shared) (H : HP) (Q : Option Value → Shared → Prop), HS cx H s → st H → P items.length s.heap →
    (∀ h', Heap.ExtBut it s.heap h' → Q none { s with heap := h' }) → wpAny (model cx.prog cx.w) A (pyNext (.ref it)) Q E s
  self : ∀ (s : Shared) (Q : Value → Shared → Prop), P 0 s.heap → Q (.ref it) s → wpAny (model cx.prog cx.w) A (pyIter (.ref it)) Q E s
  frame : ∀ i h h', P i h → (∀ o, h.get? it = some o → h'.get? it = some o) → P i h'
  live : ∀ i h, P i h → ∃ o, h.get? it = some o
  nd : ∀ i h o, P i h → h.get? it = some o → ∀ es ep, o.data ≠ .dict es ep

section
variable {cx : Cx} {T : Tbl} {A : Around} {E : Value → Shared → Prop} {n : Nat}

theorem iter_list (C : cx.OK) (hh : A.handled = none) {H : HP} {s : Shared} (S : HS cx H s) {a : Addr} {vs : List V} (h : lk cx H a = some (.list vs)) {E' : Value → Shared → Prop} {Q : Value → Shared → Prop}
    (hQ : ∀ it P ob, s.heap.get? it = none → (∀ E, Iter cx A E it vs (fun H' => lk cx H' a = some (.list vs)) P) → P 0 (s.heap.push ob) → Q (.ref it) { s with heap := s.heap.push ob }) :
    wpAny (model cx.prog cx.w) A (pyIter (.ref a)) Q E' s := by
  obtain ⟨items, k, e, m⟩ := lk_rep C S h
  refine wpAny_pyIter_list (items := items) ⟨_, e, rfl, k, rfl⟩ ?_
  refine hQ _ (fun i h => h.IsListIter s.heap.objs.size a i) _ (get_size _) (fun E => ⟨?_, ?_, ?_, ?_, ?_, ?_⟩) ⟨_, Heap.get?_push_size _ rfl, rfl, rfl⟩
  · intro s' H' i v Q S' st hp hv hq
    obtain ⟨items', k', e', m'⟩ := lk_rep C S' st
    obtain ⟨x, hx, hxa⟩ := item_of m' hv
    exact wpAny_pyNext_list_item hp ⟨_, e', rfl, k', rfl⟩ hx fun h' hi sb => hq h' s'.toks x hxa hi sb
  · intro s' H' Q S' st hp hq
    obtain ⟨items', k', e', m'⟩ := lk_rep C S' st
    exact wpAny_pyNext_list_end hh hp ⟨_, e', rfl, k', rfl⟩ (by rw [← size_of m']; simp) hq
  · intro s' Q hp hq; exact wpAny_pyIter_listiter hp hq
  · rintro i h h' ⟨o, e, r⟩ hk; exact ⟨o, hk o e, r⟩
  · rintro i h ⟨o, e, r⟩; exact ⟨o, e⟩
  · rintro i h o ⟨o', e, r⟩ e2 es ep q
    rw [e] at e2; cases e2; rw [r.2] at q; cases q
theorem rangeL_length (x y : Int) : (rangeL x y).length = (y - x).toNat := by simp [rangeL]
theorem rangeL_get {x y : Int} {i : Nat} {v : V} (h : (intsV (rangeL x y))[i]? = some v) : v = .int (x + i) ∧ (i : Int) < y - x := by
  simp only [intsV, rangeL, List.getElem?_map, Option.map_eq_some_iff] at h
  obtain ⟨j, ⟨k, hk, rfl⟩, rfl⟩ := h
  obtain ⟨hlt, e⟩ := List.getElem?_eq_some_iff.mp hk
  simp at e hlt
  subst e
  exact ⟨rfl, by first | lia | omega⟩

theorem iter_range (hh : A.handled = none) {s : Shared} {r : Addr} {x y : Int} {t u v : Tok} (hr : IsRange s.heap r x y 1 t u v) (hx : -1152921504606846976 < x ∧ x < 1152921504606846976) (hy : -1152921504606846976 < y ∧ y < 1152921504606846976) {E' : Value → Shared → Prop} {Q : Value → Shared → Prop}
    (hQ : ∀ it P ob, s.heap.get? it = none → (∀ E, Iter cx A E it (intsV (rangeL x y)) (fun _ => True) P) → P 0 (s.heap.push ob) → Q (.ref it) { s with heap := s.heap.push ob }) :
    wpAny (model cx.prog cx.w) A (pyIter (.ref r)) Q E' s := by
  refine wpAny_pyIter_range hr ?_ ?_
  · have hs := rangeSize_one x y
    unfold Builtin.Range.small Builtin.Range.rangeFitsLong
    rw [hs]
    simp only [Bool.and_eq_true, Bool.or_eq_true, decide_eq_true_eq, beq_iff_eq, show (1 : Int) > 0 from by decide, if_true]
    split <;> omega
  · refine hQ _ (fun i h => IsRangeIter h s.heap.objs.size (x + i) (Builtin.Range.rangeSize x y 1 - i) 1) _ (get_size _) (fun E => ⟨?_, ?_, ?_, ?_, ?_, ?_⟩) ?_
    · intro s' H' i v Q S' st hp hv hq
      obtain ⟨rfl, hi⟩ := rangeL_get hv
      refine wpAny_pyNext_range_item hp ?_ fun h' hi' sb => hq h' _ _ rfl ?_ sb
      · rw [rangeSize_one]; split <;> omega
      · have e1 : x + (i : Int) + 1 = x + ((i + 1 : Nat) : Int) := by first | lia | omega
        have e2 : Builtin.Range.rangeSize x y 1 - (i : Int) - 1 = Builtin.Range.rangeSize x y 1 - ((i + 1 : Nat) : Int) := by first | lia | omega
        rw [e1, e2] at hi'; exact hi'
    · intro s' H' Q S' st hp hq
      refine wpAny_pyNext_range_end hh hp ?_ hq
      rw [rangeSize_one]
      simp only [intsV, List.length_map, rangeL_length]
      split <;> omega
    · intro s' Q hp hq; exact wpAny_pyIter_rangeiter hp hq
    · intro i h h' hp hk; exact hk _ hp
    · intro i h hp; exact ⟨_, hp⟩
    · intro i h o hp e es ep q
      rw [show h.get? _ = _ from hp] at e; cases e; cases q
    · have := Heap.get?_push_size s.heap (o := { cls := .type "range_iterator", data := .fields #[rawInt x, rawInt (Builtin.Range.rangeSize x y 1), rawInt 1] }) rfl
      simpa using this
end
end Mine
end

section
namespace Mine
open PySem PyProof.Rows PySem.SeqAt

section
variable {cx : Cx} {T : Tbl} {A : Around} {E : Value → Shared → Prop} {n : Nat}

theorem lookup_relabelS {outer : Scope} (y : Str) : ∀ (names : List (Str × NameKind)), (names.map fun (n, k) => if (k == NameKind.free && outer.kind == .function && outer.names.lookup n == some .cell) then (n, NameKind.cell) else (n, k)).lookup y =
    (names.lookup y).map fun k => if (k == NameKind.free && outer.kind == .function && outer.names.lookup y == some .cell) then NameKind.cell else k
  | [] => rfl
  | (n, k) :: r => by
    rw [List.map_cons, List.lookup_cons]
    have ih := lookup_relabelS (outer := outer) y r
    by_cases hy : y = n
    · subst hy
      by_cases hc : (k == NameKind.free && outer.kind == .function && outer.names.lookup y == some .cell) = true
      · simp only [if_pos hc, List.lookup_cons, beq_self_eq_true, Option.map_some]
      · simp only [if_neg hc, List.lookup_cons, beq_self_eq_true, Option.map_some]
    · have hb : (y == n) = false := beq_eq_false_iff_ne.mpr hy
      by_cases hc : (k == NameKind.free && outer.kind == .function && outer.names.lookup n == some .cell) = true
      · simp only [if_pos hc, List.lookup_cons, hb]; exact ih
      · simp only [if_neg hc, List.lookup_cons, hb]; exact ih

structure ScopeOk (scope outer : Scope) (x : Str) : Prop where
  kind : scope.kind = .function
  loc : scope.names.lookup x = some .local
  okind : outer.kind = .function
  noCell : ∀ y ∈ scope.names, y.2 ≠ .cell
  locs : ∀ y ∈ scope.names, y.2 = .local → scope.names.lookup y.1 = some .local
  free : ∀ y ∈ scope.names, y.2 = .free → outer.names.lookup y.1 = some .cell
  free' : ∀ y, scope.names.lookup y = some .free → outer.names.lookup y = some .cell

theorem scopeOk_of {scope outer : Scope} {x : Str} (h : compScopeOk scope outer x = true) : ScopeOk scope outer x := by
  simp only [compScopeOk, Bool.and_eq_true, beq_iff_eq, List.all_eq_true, bne_iff_ne, Bool.or_eq_true, decide_eq_true_eq] at h
  obtain ⟨⟨⟨h1, h2⟩, h3⟩, h4⟩ := h
  refine ⟨h1, h2, h3, fun y hy => (h4 y hy).1.1, fun y hy e => ?_, fun y hy e => ?_, fun y e => ?_⟩
  · exact ((h4 y hy).1.2).resolve_left (fun q => q e)
  · exact (((h4 y hy).2).resolve_left (fun q => q e)).1
  · exact (((h4 (y, .free) (lookup_mem e)).2).resolve_left (fun q => q rfl)).1

theorem closure_of {env : Env} : ∀ (names : List (Str × NameKind)) (acc : List (Str × Addr)), (∀ y ∈ names, y.2 = .free → ∃ c, env.cells.lookup y.1 = some c) → (∀ p ∈ acc, env.cells.lookup p.1 = some p.2) →
    ∃ cl : List (Str × Addr), (forIn names acc fun (p : Str × NameKind) (cs : List (Str × Addr)) => (if p.2 == NameKind.free then (do let c ← cellOf env p.1; pure (ForInStep.yield ((p.1, c) :: cs))) else pure (ForInStep.yield cs) : Sem (ForInStep (List (Str × Addr))))) = pure cl ∧
      (∀ p ∈ cl, env.cells.lookup p.1 = some p.2) ∧ (∀ y, ((y, NameKind.free) ∈ names ∨ ∃ c, (y, c) ∈ acc) → ∃ c, (y, c) ∈ cl)
  | [], acc, _, ha => ⟨acc, rfl, ha, fun y h => h.elim (fun q => nomatch q) id⟩
  | (nm, k) :: r, acc, h, ha => by
    by_cases hk : k = .free
    · subst hk
      obtain ⟨c, hc⟩ := h (nm, .free) List.mem_cons_self rfl
      obtain ⟨cl, e, h1, h2⟩ := closure_of r ((nm, c) :: acc) (fun y hy => h y (List.mem_cons_of_mem _ hy)) (fun p hp => by
        rcases List.mem_cons.mp hp with rfl | hp
        · exact hc
        · exact ha p hp)
      refine ⟨cl, ?_, h1, fun y hy => h2 y ?_⟩
      · rw [List.forIn_cons, ← e]
        simp only [beq_self_eq_true, if_true, cellOf, hc]
        rfl
      · rcases hy with hy | ⟨d, hd⟩
        · rcases List.mem_cons.mp hy with q | hy
          · cases q; exact .inr ⟨c, List.mem_cons_self⟩
          · exact .inl hy
        · exact .inr ⟨d, List.mem_cons_of_mem _ hd⟩
    · obtain ⟨cl, e, h1, h2⟩ := closure_of r acc (fun y hy => h y (List.mem_cons_of_mem _ hy)) ha
      refine ⟨cl, ?_, h1, fun y hy => h2 y ?_⟩
      · rw [List.forIn_cons, ← e]
        have : (k == NameKind.free) = false := beq_eq_false_iff_ne.mpr hk
        simp only [this, Bool.false_eq_true, if_false]
        rfl
      · rcases hy with hy | hd
        · rcases List.mem_cons.mp hy with q | hy
          · cases q; exact absurd rfl hk
          · exact .inl hy
        · exact .inr hd

theorem lookup_of_mem {α β : Type} [BEq α] [LawfulBEq α] {x : α} {c : β} : ∀ {l : List (α × β)}, (x, c) ∈ l → ∃ d, l.lookup x = some d
  | (y, d) :: l, h => by
    rw [List.lookup_cons]
    cases hb : x == y with
    | true => exact ⟨d, rfl⟩
    | false =>
      rcases List.mem_cons.mp h with q | h
      · cases q; simp at hb
      · exact lookup_of_mem h

theorem closureFor_ok {fm : Fm} (W : fm.OK cx A) {scope : Scope} {x : Str} (O : ScopeOk scope fm.env.scope x) :
    ∃ cl, closureFor scope fm.env = pure cl ∧ (∀ y c, cl.lookup y = some c → fm.env.cells.lookup y = some c) ∧ (∀ y, scope.names.lookup y = some .free → ∃ c, cl.lookup y = some c) := by
  obtain ⟨cl, e, h1, h2⟩ := closure_of (env := fm.env) scope.names [] (fun y hy q => W.cellAt y.1 (O.free y hy q)) (fun _ hp => nomatch hp)
  refine ⟨cl, ?_, fun y c q => h1 _ (lookup_mem q), fun y q => ?_⟩
  · unfold closureFor
    have : (fun (x : Str × NameKind) (r : List (Str × Addr)) => (match x with | (name, kind) => if (kind == NameKind.free) = true then do let c ← cellOf fm.env name; pure (ForInStep.yield ((name, c) :: r)) else pure (ForInStep.yield r) : Sem (ForInStep (List (Str × Addr))))) =
      fun p cs => (if p.2 == NameKind.free then (do let c ← cellOf fm.env p.1; pure (ForInStep.yield ((p.1, c) :: cs))) else pure (ForInStep.yield cs)) := by
      funext p cs; rfl
    simp only [this, e]
    rfl
  · obtain ⟨c, hc⟩ := h2 y (.inl (lookup_mem q))
    exact lookup_of_mem hc

theorem getL_append (μ : List V) (v : V) : ∀ i, i < μ.length → getL (μ ++ [v]) i = getL μ i := by
  induction μ with
  | nil => intro i h; cases h
  | cons a l ih =>
    intro i h
    cases i with
    | zero => rfl
    | succ i => exact ih i (Nat.lt_of_succ_lt_succ h)
theorem getL_last (μ : List V) (v : V) : getL (μ ++ [v]) μ.length = v := by
  induction μ with
  | nil => rfl
  | cons a l ih => exact ih

noncomputable abbrev compFm (fm : Fm) (scope : Scope) (cl : List (Str × Addr)) (C : Addr) (x : Str) : Fm := ⟨compEnvC scope cl C fm.env, compNames scope fm.names x, fm.l⟩

theorem compFm_names {fm : Fm} {scope : Scope} {x y : Str} {i : Nat} (h : (compNames scope fm.names x)[i]? = some (some y)) :
    (fm.names[i]? = some (some y) ∧ scope.names.lookup y = some .free) ∨ (i = fm.names.length ∧ y = x) := by
  unfold compNames at h
  by_cases hi : i < fm.names.length
  · rw [List.getElem?_append_left (by simpa using hi), List.getElem?_map, Option.map_eq_some_iff] at h
    obtain ⟨o, e, q⟩ := h
    obtain ⟨rfl, hf⟩ := Option.filter_eq_some_iff.mp q
    exact .inl ⟨e, by simpa using hf⟩
  · rw [List.getElem?_append_right (by simpa using Nat.le_of_not_lt hi)] at h
    simp only [List.length_map] at h
    have : i - fm.names.length = 0 := by
      obtain ⟨hlt, _⟩ := List.getElem?_eq_some_iff.mp h
      simpa using hlt
    rw [this] at h
    simp at h
    exact .inr ⟨by omega, h.symm⟩

theorem kindOf_comp {fm : Fm} {scope : Scope} {cl : List (Str × Addr)} {C : Addr} {x : Str} (O : ScopeOk scope fm.env.scope x) (y : Str) :
    (scope.names.lookup y = some .free → (compEnvC scope cl C fm.env).kindOf y = some .cell) ∧ (scope.names.lookup y = some .local → (compEnvC scope cl C fm.env).kindOf y = some .local) ∧
    ((compEnvC scope cl C fm.env).kindOf y = some .cell → scope.names.lookup y = some .free) := by
  have e : (compEnvC scope cl C fm.env).kindOf y = (scope.names.lookup y).map fun k => if (k == NameKind.free && fm.env.scope.kind == .function && fm.env.scope.names.lookup y == some .cell) then NameKind.cell else k :=
    lookup_relabelS (outer := fm.env.scope) y scope.names
  rw [e]
  refine ⟨fun h => ?_, fun h => ?_, fun h => ?_⟩
  · rw [h]; simp [O.okind, O.free' y h]
  · rw [h]; rfl
  · obtain ⟨k, h1, h2⟩ := Option.map_eq_some_iff.mp h
    split at h2
    · rename_i hc
      simp only [Bool.and_eq_true, beq_iff_eq] at hc
      rw [h1, hc.1.1]
    · subst h2
      exact absurd rfl (O.noCell (y, .cell) (lookup_mem h1))

theorem compFm_ok {fm : Fm} (W : fm.OK cx A) {scope : Scope} {x : Str} (O : ScopeOk scope fm.env.scope x) {cl : List (Str × Addr)} {C : Addr}
    (h1 : ∀ y c, cl.lookup y = some c → fm.env.cells.lookup y = some c) (h2 : ∀ y, scope.names.lookup y = some .free → ∃ c, cl.lookup y = some c)
    (hC : ¬ fm.own C) (hb : cx.base.get? C = none) : (compFm fm scope cl C x).OK cx A where
  frames := W.frames
  kind := O.kind
  globals := W.globals
  builtins := W.builtins
  cellsNe := fun y c hm (e : c = C) => hC (.inr ⟨y, e ▸ h1 y c hm⟩)
  cellsInj := fun y z c e1 e2 => W.cellsInj y z c (h1 _ _ e1) (h1 _ _ e2)
  inj := fun i j y e1 e2 => by
    rcases compFm_names e1 with ⟨a1, a2⟩ | ⟨a1, a2⟩ <;> rcases compFm_names e2 with ⟨b1, b2⟩ | ⟨b1, b2⟩
    · exact W.inj i j y a1 b1
    · subst b2; rw [O.loc] at a2; cases a2
    · subst a2; rw [O.loc] at b2; cases b2
    · rw [a1, b1]
  above := fun a q => by
    rcases q with q | ⟨y, q⟩
    · rw [q]; exact hb
    · exact W.above a (.inr ⟨y, h1 y a q⟩)
  cellAt := fun y q => h2 y ((kindOf_comp (cl := cl) (C := C) O y).2.2 q)

theorem comp_frame {fm : Fm} {H : HP} {μ : List V} {s : Shared} (S : SR cx fm H μ s) {scope : Scope} {x : Str} (O : ScopeOk scope fm.env.scope x) {cl : List (Str × Addr)} {C : Addr}
    (h1 : ∀ y c, cl.lookup y = some c → fm.env.cells.lookup y = some c) (h2 : ∀ y, scope.names.lookup y = some .free → ∃ c, cl.lookup y = some c)
    {m : Str → Option Value} (hn : s.heap.Ns C m) {v : Value} (hv : m x = some v) (hH : H C = none) : SR cx (compFm fm scope cl C x) H (μ ++ [abs v]) s := by
  refine ⟨S.toHS, ⟨?_, ?_, ⟨m, hn⟩, ?_⟩, fun a o e q => ?_, S.ff⟩
  · simp [compNames, S.fr.len]
  · rintro a (q | ⟨y, q⟩)
    · obtain ⟨o, es, ep, e, _⟩ := hn; exact ⟨o, by rw [q]; exact e⟩
    · exact S.fr.live a (.inr ⟨y, h1 y a q⟩)
  · intro i y hy
    rcases compFm_names hy with ⟨a1, a2⟩ | ⟨a1, a2⟩
    · obtain ⟨ov, w, q⟩ := S.fr.var i y a1
      have hil : i < μ.length := by rw [S.fr.len]; exact (List.getElem?_eq_some_iff.mp a1).1
      refine ⟨ov, ?_, by rw [getL_append _ _ _ hil]; exact q⟩
      have hk : fm.env.kindOf y = some .cell := O.free' y a2
      rcases w with ⟨k1, _⟩ | ⟨_, c, hc, hcell⟩
      · rw [hk] at k1; cases k1
      · obtain ⟨d, hd⟩ := h2 y a2
        have := h1 y d hd
        rw [hc] at this; cases this
        exact .inr ⟨(kindOf_comp O y).1 a2, c, hd, hcell⟩
    · subst a2
      refine ⟨some v, .inl ⟨(kindOf_comp O y).2.1 O.loc, m, hn, hv⟩, .inr ⟨v, rfl, ?_⟩⟩
      rw [a1, ← S.fr.len, getL_last]
  · rcases q with q | ⟨y, q⟩
    · have q' : a = C := q
      rw [q', hH] at e; cases e
    · exact S.own a o e (.inr ⟨y, h1 y a q⟩)
end
end Mine
end

section
namespace Mine
open PySem PyProof.Rows PySem.SeqAt

section
variable {cx : Cx} {T : Tbl} {A : Around} {E : Value → Shared → Prop} {n : Nat}

theorem Ns.keep {h h' : Heap} {a : Addr} {m : Str → Option Value} (x : h.Ns a m) (k : ∀ o, h.get? a = some o → h'.get? a = some o) : h'.Ns a m :=
  let ⟨o, es, ep, e, r⟩ := x; ⟨o, es, ep, k o e, r⟩

structure CI (cx : Cx) (fm : Fm) (μ : List V) (s₀ : Shared) (H₀ : HP) (it C D : Addr) (P : Nat → Heap → Prop) (H : HP) (i : Nat) (acc : List V) (s : Shared) : Prop where
  sr : SR cx fm H μ s
  ke : KE s₀ H₀ s H
  pos : P i s.heap
  itH : H it = none
  ns : ∃ m, s.heap.Ns C m
  cH : H C = none
  dl : ∃ ys, s.heap.PlainList D ys ∧ ys.toList.map abs = acc
  dH : H D = none

theorem comp_loop (C : cx.OK) {fm : Fm} {H₀ : HP} {μ : List V} {s₀ : Shared} {Q : V → HP → Prop} (W : fm.OK cx A) {elt iter : Expr} {ifs : List Expr} {x : Str} {px pos : Pos} {scope : Scope}
    (O : ScopeOk scope fm.env.scope x) {cl : List (Str × Addr)} {Ca D it : Addr}
    (h1 : ∀ y c, cl.lookup y = some c → fm.env.cells.lookup y = some c) (h2 : ∀ y, scope.names.lookup y = some .free → ∃ c, cl.lookup y = some c)
    {items : List V} {st : HP → Prop} {P : Nat → Heap → Prop} (I : ∀ E, Iter cx A E it items st P)
    (turn : V → HP → (Option V → HP → Prop) → Prop)
    (hcond : ∀ (E : Value → Shared → Prop) (s : Shared) (H : HP) (v : V) (K : Option V → HP → Prop), SR cx (compFm fm scope cl Ca x) H (μ ++ [v]) s → turn v H K →
      wpAny (model cx.prog cx.w) A (forIn ifs true fun c r => if r = true then do let ok ← isTrue c (compEnvC scope cl Ca fm.env) (eval c (compEnvC scope cl Ca fm.env)); pure (ForInStep.yield ok) else pure (ForInStep.yield r))
        (fun ok s' => ∃ H', HS cx H' s' ∧ KE s H s' H' ∧ (ok = true → wpAny (model cx.prog cx.w) A (eval elt (compEnvC scope cl Ca fm.env)) (EP cx s' H' fun v H => K (some v) H) E s') ∧ (ok = false → K none H')) E s)
    (hfresh : s₀.heap.get? it = none ∧ s₀.heap.get? Ca = none ∧ s₀.heap.get? D = none ∧ Ca ≠ it ∧ D ≠ it ∧ D ≠ Ca)
    (hC : ¬ fm.own Ca ∧ ¬ fm.fr Ca ∧ cx.base.get? Ca = none) (hD : ¬ fm.own D ∧ ¬ fm.fr D ∧ cx.base.get? D = none ∧ cx.Z D = none) (hit : ¬ fm.own it ∧ ¬ fm.fr it ∧ cx.base.get? it = none)
    (hlen : items.length ≤ 16777216) (Inv : List V → List V → HP → Prop) (hst : ∀ done acc H₁, Inv done acc H₁ → st H₁)
    (hturn : ∀ done x rest acc H₁, items = done ++ x :: rest → Inv done acc H₁ → turn x H₁ fun ov H₂ => ∃ H₃, LE H₃ H₂ ∧ Inv (done ++ [x]) (acc ++ ov.toList) H₃)
    (hend : ∀ acc H₁, Inv items acc H₁ → new cx H₁ (.list acc) Q)
    {s : Shared} {H₁ : HP} (hI : Inv [] [] H₁) (hs : CI cx fm μ s₀ H₀ it Ca D P H₁ 0 [] s) {R : Result → Shared → Prop}
    (hR : ∀ s' H', HS cx H' s' → KE s₀ H₀ s' H' → Q (.ref D) H' → H' Ca = none → (∃ m, s'.heap.Ns Ca m) → R (.ok .next) s') :
    codeAny (model cx.prog cx.w) A (.compLoop (.ListComp elt [⟨.Name x px, iter, ifs, 0⟩] scope pos) 0 (.ref it) (.ref D) (compEnvC scope cl Ca fm.env)) R s := by
  refine codeAny_compLoop_tests (fun k s => ∃ done rest acc H, items = done ++ rest ∧ k = rest.length ∧ acc.length ≤ done.length ∧ Inv done acc H ∧ CI cx fm μ s₀ H₀ it Ca D P H done.length acc s) ?_ items.length
    ⟨[], items, [], H₁, rfl, rfl, Nat.le_refl _, hI, hs⟩
  rintro k s ⟨done, rest, acc, H, hitems, rfl, hacc, hInv, B⟩
  have hdl : done.length ≤ items.length := by rw [hitems, List.length_append]; first | lia | omega
  cases rest with
  | nil =>
    rw [List.append_nil] at hitems
    subst hitems
    refine (I _).stop s H _ B.sr.toHS (hst _ _ _ hInv) B.pos fun h' eb => ?_
    have S' := B.sr.aside B.itH hit.1 hit.2.1 hit.2.2 eb s.toks
    obtain ⟨m, hm⟩ := B.ns
    obtain ⟨ys, hys, hya⟩ := B.dl
    obtain ⟨kk, hkk⟩ := hys
    have hD' : h'.get? D = some { cls := .type "list", data := .seq ys kk } := eb D _ hfresh.2.2.2.2.1 hkk
    refine hR _ (upd H D (.list acc)) ⟨fun a o e => ?_, S'.ext, fun a o e => ?_⟩ ⟨fun b o e hb _ => ?_, fun a o e ha _ => ?_, B.ke.os, B.ke.gens⟩ (hend acc H hInv D ⟨B.dH, hD.2.2.1, hD.2.2.2⟩) (by rw [upd_ne _ (Ne.symm hfresh.2.2.2.2.2)]; exact B.cH) ⟨m, Ns.keep hm fun o e => eb Ca o hfresh.2.2.2.1 e⟩
    · by_cases h : a = D
      · subst h; rw [upd_same] at e; cases e; exact rep_list hD' hya
      · rw [upd_ne _ h] at e; exact S'.hr a o e
    · by_cases h : a = D
      · subst h; exact hD.2.2.1
      · rw [upd_ne _ h] at e; exact S'.low a o e
    · obtain ⟨o', e', so⟩ := B.ke.keep b o e hb id
      exact ⟨o', eb b o' (fun q => by subst q; rw [hfresh.1] at e; cases e) e', so⟩
    · rw [upd_ne _ (fun q => by subst q; rw [hfresh.2.2.1] at e; cases e)]
      exact B.ke.dom a o e ha id
  | cons v rest =>
    have hv : items[done.length]? = some v := by rw [hitems]; simp
    refine (I _).next s H done.length v _ B.sr.toHS (hst _ _ _ hInv) B.pos hv fun h₁ tk xv hxa hp₁ sb₁ => ?_
    -- the iterator has gone on
    have S₁ := B.sr.aside B.itH hit.1 hit.2.1 hit.2.2 sb₁.extBut tk
    obtain ⟨m, hm⟩ := B.ns
    have hm₁ : h₁.Ns Ca m := Ns.keep hm fun o e => sb₁.extBut Ca o hfresh.2.2.2.1 e
    refine wpAny_assign_Name (wpAny_storeName_local (m := m) ((kindOf_comp O x).2.1 O.loc) hm₁ (fun h₂ hm₂ sb₂ => ?_) (by show (scope.kind == .class || (scope.kind == .module && _)) = false; rw [O.kind]; rfl))
    have S₂ := S₁.aside B.cH hC.1 hC.2.1 hC.2.2 sb₂.extBut (tk + 1)
    have F₂ := comp_frame S₂ O h1 h2 hm₂ (v := xv) (by simp) B.cH
    rw [hxa] at F₂
    -- all that stood before the turn, but the iterator and the block's names
    have keep₂ : ∀ b o, b ≠ it → b ≠ Ca → s.heap.get? b = some o → h₂.get? b = some o := fun b o n1 n2 e => sb₂.extBut b o n2 (sb₁.extBut b o n1 e)
    have ke₂ : KE s₀ H₀ { s with heap := h₂, toks := tk + 1 } H := ⟨fun b o e hb _ => (let ⟨o', e', so⟩ := B.ke.keep b o e hb id; ⟨o', keep₂ b o' (fun q => by subst q; rw [hfresh.1] at e; cases e) (fun q => by subst q; rw [hfresh.2.1] at e; cases e) e', so⟩), fun a o e ha _ => B.ke.dom a o e ha id, B.ke.os, B.ke.gens⟩
    have pos₂ : P (done.length + 1) h₂ := (I fun _ _ => False).frame _ _ _ hp₁ fun o e => sb₂.extBut it o (Ne.symm hfresh.2.2.2.1) e
    obtain ⟨oit, hoit⟩ := (I fun _ _ => False).live _ _ pos₂
    obtain ⟨ys, hys, hya⟩ := B.dl
    have hys₂ : h₂.PlainList D ys := by obtain ⟨kk, e⟩ := hys; exact ⟨kk, keep₂ D _ hfresh.2.2.2.2.1 hfresh.2.2.2.2.2 e⟩
    refine wpAny_mono (hcond _ _ _ _ _ F₂ (hturn done v rest acc H hitems hInv)) (fun ok s₃ x₃ => ?_) fun _ _ e => e
    obtain ⟨H₃, S₃, k₃, ht, hf⟩ := x₃
    -- an end of a turn, at any later heap
    have fin : ∀ (s₄ : Shared) (H₄ : HP) (acc' : List V) (ys' : Array Value), HS cx H₄ s₄ → KE { s with heap := h₂, toks := tk + 1 } H s₄ H₄ → (∃ H₅, LE H₅ H₄ ∧ Inv (done ++ [v]) acc' H₅) → acc'.length ≤ done.length + 1 →
        ys'.toList.map abs = acc' → ∀ s₅ : Shared, s₅.heap.PlainList D ys' → (∀ b o, b ≠ D → s₄.heap.get? b = some o → s₅.heap.get? b = some o) → s₅.os = s₄.os → s₅.gens = s₄.gens →
        ∃ m, m < (v :: rest).length ∧ ∃ done rest acc H, items = done ++ rest ∧ m = rest.length ∧ acc.length ≤ done.length ∧ Inv done acc H ∧ CI cx fm μ s₀ H₀ it Ca D P H done.length acc s₅ := by
      intro s₄ H₄ acc' ys' S₄ k₄ ⟨H₅, le, hI5⟩ hl hy s₅ hp5 hk5 ho5 hg5
      have S₅ := (S₂.step S₄ k₄).le le
      have dH : H₅ D = none := by
        cases e : H₅ D with
        | none => rfl
        | some o =>
          obtain ⟨kk, e2⟩ := hys₂
          have := k₄.dom D _ e2 B.dH id
          rw [le D o e] at this; cases this
      have itH : H₅ it = none := by
        cases e : H₅ it with
        | none => rfl
        | some o =>
          have := k₄.dom it _ hoit B.itH id
          rw [le it o e] at this; cases this
      have cH : H₅ Ca = none := by
        cases e : H₅ Ca with
        | none => rfl
        | some o =>
          obtain ⟨oc, _, _, e2, _⟩ := hm₂
          have := k₄.dom Ca _ e2 B.cH id
          rw [le Ca o e] at this; cases this
      have S₆ : SR cx fm H₅ μ { s₄ with heap := s₅.heap } := S₅.aside dH hD.1 hD.2.1 hD.2.2.1 hk5 s₄.toks
      refine ⟨rest.length, Nat.lt_succ_self _, done ++ [v], rest, acc', H₅, by rw [hitems]; simp, rfl, by simpa using hl, hI5, ?_⟩
      have S₇ : SR cx fm H₅ μ s₅ := ⟨⟨S₆.hr, S₆.ext, S₆.low⟩, S₆.fr, S₆.own, S₆.ff⟩
      have k5 := (ke₂.trans k₄).le le
      refine ⟨S₇, ⟨fun b o e hb q => (let ⟨o', e', so⟩ := k5.keep b o e hb q; ⟨o', hk5 b o' (fun q => by subst q; rw [hfresh.2.2.1] at e; cases e) e', so⟩), k5.dom, ho5.trans k5.os, hg5.trans k5.gens⟩, ?_, itH, ?_, cH, ⟨ys', hp5, hy⟩, dH⟩
      · rw [List.length_append]
        exact (I fun _ _ => False).frame _ _ _ pos₂ fun o e => hk5 it o (Ne.symm hfresh.2.2.2.2.1) (k₄.same e B.itH id ((I fun _ _ => False).nd _ _ _ pos₂ e))
      · exact ⟨_, Ns.so hm₂ fun oc e => (let ⟨o', e', so⟩ := k₄.keep Ca oc e B.cH id; ⟨o', hk5 Ca o' (Ne.symm hfresh.2.2.2.2.2) e', so⟩)⟩
    cases ok with
    | true =>
      simp only [if_true]
      refine wpAny_mono (ht rfl) (fun y s₄ x₄ => ?_) fun _ _ e => e
      obtain ⟨H₄, S₄, k₄, h₄⟩ := x₄
      have hysn : s₄.heap.PlainList D ys := by
        obtain ⟨kk, e⟩ := hys₂
        have dn := k₃.dom D _ e B.dH id
        exact ⟨kk, k₄.same (k₃.same e B.dH id fun _ _ q => by cases q) dn id fun _ _ q => by cases q⟩
      have hsz : ys.size ≤ sizeLine := by rw [size_of hya, sizeLine_eq]; first | lia | omega
      refine wpAny_list_append_plain hysn (fun h' hp sb => ?_) hsz
      exact fin s₄ H₄ _ (ys.push y) S₄ (k₃.trans k₄) h₄ (by simp; omega) (by rw [Array.toList_push, List.map_append, hya]; rfl) _ hp (fun b o hb e => sb.extBut b o hb e) rfl rfl
    | false =>
      simp only [Bool.false_eq_true, if_false]
      have hysn : s₃.heap.PlainList D ys := by
        obtain ⟨kk, e⟩ := hys₂
        exact ⟨kk, k₃.same e B.dH id fun _ _ q => by cases q⟩
      have := hf rfl
      simp only [Option.toList_none, List.append_nil] at this
      exact fin s₃ H₃ acc ys S₃ k₃ this (by first | lia | omega) hya s₃ hysn (fun _ _ _ e => e) rfl rfl
end
end Mine
end

section
namespace Mine
open PySem PyProof.Rows PySem.SeqAt

section
variable {cx : Cx} {T : Tbl} {A : Around} {E : Value → Shared → Prop} {n : Nat}

theorem comp_block (C : cx.OK) {fm : Fm} {H : HP} {μ : List V} {s : Shared} {Q : V → HP → Prop} (W : fm.OK cx A) (S : SR cx fm H μ s) {elt iter : Expr} {ifs : List Expr} {x : Str} {px pos : Pos} {scope : Scope}
    (O : ScopeOk scope fm.env.scope x) {cl : List (Str × Addr)}
    (h1 : ∀ y c, cl.lookup y = some c → fm.env.cells.lookup y = some c) (h2 : ∀ y, scope.names.lookup y = some .free → ∃ c, cl.lookup y = some c)
    {items : List V} {st : HP → Prop} {P : Nat → Heap → Prop} {it : Addr} {ob : Obj} (I : ∀ E, Iter cx A E it items st P) (hit : s.heap.get? it = none) (hP : P 0 (s.heap.push ob)) 
    (turn : V → HP → (Option V → HP → Prop) → Prop)
    (hcond : ∀ (Ca : Addr) (E : Value → Shared → Prop) (s : Shared) (H : HP) (v : V) (K : Option V → HP → Prop), (compFm fm scope cl Ca x).OK cx A → SR cx (compFm fm scope cl Ca x) H (μ ++ [v]) s → turn v H K →
      wpAny (model cx.prog cx.w) A (forIn ifs true fun c r => if r = true then do let ok ← isTrue c (compEnvC scope cl Ca fm.env) (eval c (compEnvC scope cl Ca fm.env)); pure (ForInStep.yield ok) else pure (ForInStep.yield r))
        (fun ok s' => ∃ H', HS cx H' s' ∧ KE s H s' H' ∧ (ok = true → wpAny (model cx.prog cx.w) A (eval elt (compEnvC scope cl Ca fm.env)) (EP cx s' H' fun v H => K (some v) H) E s') ∧ (ok = false → K none H')) E s)
    (hC : CompP cx items st H turn Q) {RR : Value → Addr → Result → Shared → Prop}
    (hRR : ∀ D Ca s' H', HS cx H' s' → KE s H s' H' → Q (.ref D) H' → H' Ca = none → s.heap.get? Ca = none → (∃ m, s'.heap.Ns Ca m) → RR (.ref D) Ca (.ok .next) s') :
    wpAny (model cx.prog cx.w) A (newList []) (fun acc s₃ => wpAny (model cx.prog cx.w) A (newFunctionEnv scope fm.env.globals cl [] fm.env.qual none .none (some fm.env)) (fun cenv s₄ =>
      codeAny (model cx.prog cx.w) A (.compStart (.ListComp elt [⟨.Name x px, iter, ifs, 0⟩] scope pos) 0 (.ref it) acc { cenv with scope := relabel scope fm.env }) (RR acc cenv.locals) s₄) E s₃) E
      { s with heap := s.heap.push ob } := by
  obtain ⟨hlen, Inv, hI0, hst, hturn, hend⟩ := hC
  refine wpAny_newList ?_ (by simp)
  refine wpAny_newFunctionEnv O.noCell (by intro y hy; cases hy) (fun h₁ hns₁ hsb₁ => ?_) O.kind
  dsimp only at hns₁ hsb₁ ⊢
  obtain ⟨oit, hoit⟩ := (I fun _ _ => False).live _ _ hP
  have hitlt : @LT.lt Nat _ it (s.heap.objs.size + 1) := by have := Heap.lt_size hoit; rwa [Heap.size_push] at this
  -- names for the two new places
  have hD1 : (s.heap.push ob).objs.size = s.heap.objs.size + 1 := Heap.size_push ..
  generalize hDe : (s.heap.push ob).objs.size = D at hns₁ hsb₁ ⊢
  generalize hH2 : (s.heap.push ob).push { cls := .type "list", data := .seq ([] : List Value).toArray } = h2' at hns₁ hsb₁ ⊢
  generalize hCe : h2'.objs.size = Ca at hns₁ hsb₁ ⊢
  have hCa : Ca = D + 1 := by rw [← hCe, ← hH2, Heap.size_push, hDe]
  have hDv : D = s.heap.objs.size + 1 := by rw [← hDe, hD1]
  have hns0 : ∀ b, s.heap.objs.size ≤ b → s.heap.get? b = none := fun b hb => by
    cases e : s.heap.get? b with
    | none => rfl
    | some o => exact absurd (Heap.lt_size e) (Nat.not_lt.mpr hb)
  have hsD : s.heap.get? D = none := hns0 D (by first | lia | omega)
  have hsC : s.heap.get? Ca = none := hns0 Ca (by first | lia | omega)
  have hown : ∀ b, s.heap.get? b = none → ¬ fm.own b := fun b hb q => by
    obtain ⟨o, e⟩ := S.fr.live b q
    rw [hb] at e; cases e
  have hfrn : ∀ b, s.heap.get? b = none → ¬ fm.fr b := fun b hb ⟨e, he, hf⟩ => by
    obtain ⟨_, L, o, _, _, q1, _, _, q4, _⟩ := S.ff e he
    rw [hf] at q1; cases q1; rw [hb] at q4; cases q4
  have nCit : Ca ≠ it := Nat.ne_of_gt (by first | lia | omega)
  have nDit : D ≠ it := Nat.ne_of_gt (by first | lia | omega)
  have nDC : D ≠ Ca := by first | lia | omega
  -- what stood stands
  have k₁ : ∀ b o, s.heap.get? b = some o → h₁.get? b = some o := fun b o e => by
    have hb : @LT.lt Nat _ b _ := Heap.lt_size e
    refine hsb₁.extBut b o (Nat.ne_of_lt (by first | lia | omega)) (Heap.get?_push_of_some _ ?_)
    rw [← hH2]
    exact Heap.get?_push_of_some _ (Heap.get?_push_of_some _ e)
  have kit : ∀ o, (s.heap.push ob).get? it = some o → h₁.get? it = some o := fun o e => by
    refine hsb₁.extBut it o (Ne.symm nCit) (Heap.get?_push_of_some _ ?_)
    rw [← hH2]
    exact Heap.get?_push_of_some _ e
  have hDl : h₁.PlainList D #[] := ⟨0, hsb₁.extBut D _ nDC (Heap.get?_push_of_some _ (by
    rw [← hH2, ← hDe]; exact Heap.get?_push_size _ rfl))⟩
  have S' := S.toHS.grow k₁ (s.toks + ([] : List (Str × Value)).length)
  have K' : KE s H { s with heap := h₁, toks := s.toks + ([] : List (Str × Value)).length } H := KE.grow k₁ _
  have hfr := S.toHS.fresh C hsD
  have loop : codeAny (model cx.prog cx.w) A (.compLoop (.ListComp elt [⟨.Name x px, iter, ifs, 0⟩] scope pos) 0 (.ref it) (.ref D) (compEnvC scope cl Ca fm.env)) (RR (.ref D) Ca)
      { s with heap := h₁, toks := s.toks + ([] : List (Str × Value)).length } := by
    have cok : (compFm fm scope cl Ca x).OK cx A := compFm_ok W O h1 h2 (hown _ hsC) (S.toHS.base_none hsC)
    refine comp_loop (s₀ := s) (H₀ := H) C W O h1 h2 I turn (fun E s H v K F ht => hcond Ca E s H v K cok F ht) ⟨hit, hsC, hsD, nCit, nDit, nDC⟩ ⟨hown _ hsC, hfrn _ hsC, S.toHS.base_none hsC⟩ ⟨hown _ hsD, hfrn _ hsD, hfr.2.1, hfr.2.2⟩ ⟨hown _ hit, hfrn _ hit, S.toHS.base_none hit⟩ hlen
      Inv hst hturn hend hI0 ⟨S.step S' K', K', (I fun _ _ => False).frame _ _ _ hP kit, S.toHS.none_of hit, ⟨_, hns₁⟩, S.toHS.none_of hsC, ⟨#[], hDl, rfl⟩, S.toHS.none_of hsD⟩ ?_
    intro s' H' S₂ k₂ hQ hCn hns
    exact hRR D Ca s' H' S₂ k₂ hQ hCn hsC hns
  exact codeAny_compStart_list loop ((I _).self _ _ ((I fun _ _ => False).frame _ _ _ hP kit) loop)
end
end Mine
end

section
namespace Mine
open PySem PyProof.Rows PySem.SeqAt

section
variable {cx : Cx} {T : Tbl} {A : Around} {E : Value → Shared → Prop} {n : Nat}

noncomputable def ItPost (cx : Cx) (A : Around) (s : Shared) (H : HP) (K : List V → (HP → Prop) → HP → Prop) : Value → Shared → Prop := fun v s₂ =>
  ∃ it P ob s₁ H₁ items st, v = .ref it ∧ HS cx H₁ s₁ ∧ KE s H s₁ H₁ ∧ s₂ = { s₁ with heap := s₁.heap.push ob } ∧ s₁.heap.get? it = none ∧ (∀ E, Iter cx A E it items st P) ∧ P 0 (s₁.heap.push ob) ∧ K items st H₁

theorem iterP_ok (C : cx.OK) (hh : A.handled = none) {H : HP} {s : Shared} (S : HS cx H s) {v : Value} {K : List V → (HP → Prop) → HP → Prop} (h : IterP cx (abs v) H K) :
    wpAny (model cx.prog cx.w) A (pyIter v) (ItPost cx A s H K) E s := by
  obtain ⟨a, ha, h⟩ := onR_inv h
  have := abs_ref ha; subst this
  obtain ⟨vs, hl, h⟩ := onHL_inv h
  exact iter_list C hh S hl fun it P ob h1 h2 h3 => ⟨it, P, ob, s, H, vs, _, rfl, S, Kept.refl _ s H, rfl, h1, h2, h3, h.2⟩

theorem rng_end (hA : AOK A n) {H : HP} {s : Shared} {K : List V → (HP → Prop) → HP → Prop} {s₁ : Shared} {H₁ : HP} {x y : Int} {t u v : Tok} {tk : Nat} (S₁ : HS cx H₁ s₁) (k₁ : KE s H s₁ H₁) (hr : RngP (.int x) (.int y) fun items => K items (fun _ => True) H₁) :
    wpAny (model cx.prog cx.w) A (pyIter (.ref s₁.heap.objs.size)) (ItPost cx A s H K) E { s₁ with heap := s₁.heap.push { cls := .type "range", data := .fields #[.int x t, .int y u, .int 1 v] }, toks := tk } := by
  have kg : ∀ b o, s₁.heap.get? b = some o → (s₁.heap.push { cls := .type "range", data := .fields #[.int x t, .int y u, .int 1 v] }).get? b = some o := fun b o e => Heap.get?_push_of_some _ e
  refine iter_range (s := { s₁ with heap := s₁.heap.push { cls := .type "range", data := .fields #[.int x t, .int y u, .int 1 v] }, toks := tk }) hA.handled (IsRange.new _ _ _ _ _ _ _) hr.1 hr.2.1 fun it P ob h1 h2 h3 => ?_
  exact ⟨it, P, ob, _, H₁, _, _, rfl, S₁.grow kg tk, k₁.trans (KE.grow kg tk), rfl, h1, h2, h3, hr.2.2⟩
theorem rng_inv {v w : Value} {P : List V → Prop} (h : RngP (abs v) (abs w) P) : ∃ x y t u, v = .int x t ∧ w = .int y u ∧ RngP (.int x) (.int y) P := by
  obtain ⟨x, e1, h⟩ := onI_inv h
  obtain ⟨y, e2, h⟩ := onI_inv h
  obtain ⟨t, e1⟩ := abs_int e1
  obtain ⟨u, e2⟩ := abs_int e2
  exact ⟨x, y, t, u, e1, e2, h⟩
noncomputable def RngArgs (cx : Cx) (A : Around) (n : Nat) (fm : Fm) (a b : ME) (as : List Expr) : Prop :=
  (∃ e, as = [e] ∧ a = .cint 0 ∧ kindOK e = true ∧ JE cx A n b fm e) ∨ ∃ e e', as = [e, e'] ∧ kindOK e = true ∧ kindOK e' = true ∧ JE cx A n a fm e ∧ JE cx A n b fm e'
theorem it_rng (C : cx.OK) (TO : T.OK cx) (hA : AOK A n) {fm : Fm} {H : HP} {μ : List V} {s : Shared} (W : fm.OK cx A) (S : SR cx fm H μ s) {np p : Pos} {as : List Expr} {a b : ME}
    (hx : isGlob fm.env.scope "range" = true) (ha : RngArgs cx A n fm a b as)
    {K : List V → (HP → Prop) → HP → Prop} (h : mwpE cx n a μ H fun x H => mwpE cx n b μ H fun y H => RngP x y fun items => K items (fun _ => True) H) :
    wpAny (model cx.prog cx.w) A (eval (.Call (.Name "range" np) as [] p) fm.env) (fun xv s₁ => wpAny (model cx.prog cx.w) A (pyIter xv) (ItPost cx A s H K) E s₁) E s := by
  refine wpAny_Call_ofName (glob_name C W S.toHS hx TO.rng ?_)
  rcases ha with ⟨e, rfl, rfl, ke, i⟩ | ⟨e, e', rfl, ke, ke', i, i'⟩
  · rw [starEach_of ke]
    refine PySem.callWith_type rfl (Calls.evalArgs_plain (Calls.spliced_cons (ep_then (i E H μ s _ S h) fun v s₁ H₁ S₁ k₁ h₁ => Calls.spliced_nil ?_)))
    obtain ⟨y, e2, h2⟩ := onI_inv (v := abs v) h₁
    obtain ⟨t, rfl⟩ := abs_int e2
    exact call_range_1 (rng_end hA S₁ k₁ h2)
  · rw [starEach_of ke, starEach_of ke']
    refine PySem.callWith_type rfl (Calls.evalArgs_plain (Calls.spliced_cons (ep_then (i E H μ s _ S h) fun v s₁ H₁ S₁ k₁ h₁ => ?_)))
    refine Calls.spliced_cons (ep_then (i' E H₁ μ s₁ _ (S.step S₁ k₁) h₁) fun w s₂ H₂ S₂ k₂ h₂ => Calls.spliced_nil ?_)
    obtain ⟨x, y, t, u, rfl, rfl, h₂⟩ := rng_inv h₂
    exact call_range_2 (rng_end hA S₂ (k₁.trans k₂) h₂)

theorem it_val (C : cx.OK) (hA : AOK A n) {fm : Fm} {H : HP} {μ : List V} {s : Shared} (S : SR cx fm H μ s) {e : Expr} {m : ME} (i : JE cx A n m fm e)
    {K : List V → (HP → Prop) → HP → Prop} (h : mwpE cx n m μ H fun v H => IterP cx v H K) :
    wpAny (model cx.prog cx.w) A (eval e fm.env) (fun xv s₁ => wpAny (model cx.prog cx.w) A (pyIter xv) (ItPost cx A s H K) E s₁) E s := by
  refine ep_then (i E H μ s _ S h) fun v s₁ H₁ S₁ k₁ h₁ => wpAny_mono (iterP_ok C hA.handled S₁ h₁) (fun v s₂ x => ?_) fun _ _ e => e
  obtain ⟨it, P, ob, s₃, H₃, items, st, a1, a2, a3, a4⟩ := x
  exact ⟨it, P, ob, s₃, H₃, items, st, a1, a2, k₁.trans a3, a4⟩
end
end Mine
end

section
namespace Mine
open PySem PyProof.Rows PySem.SeqAt

section
variable {cx : Cx} {T : Tbl} {A : Around} {E : Value → Shared → Prop} {n : Nat}

noncomputable def CTests (cx : Cx) (A : Around) (n : Nat) (c : ME) (fm : Fm) (ifs : List Expr) : Prop := (ifs = [] ∧ isTrueM c = true) ∨ ∃ e, ifs = [e] ∧ JT cx A n c fm e
theorem comp_turn {fm : Fm} {μ : List V} {scope : Scope} {x : Str} {cl : List (Str × Addr)} {Ca : Addr} {elt : Expr} {ifs : List Expr} {el cond : ME}
    (ie : JE cx A n el (compFm fm scope cl Ca x) elt) (ic : CTests cx A n cond (compFm fm scope cl Ca x) ifs) (E : Value → Shared → Prop) (s : Shared) (H : HP) (v : V) (K : Option V → HP → Prop) (S : SR cx (compFm fm scope cl Ca x) H (μ ++ [v]) s)
    (h : mwpE cx n cond (μ ++ [v]) H fun c H₂ => TruthP c fun b => (b = true → mwpE cx n el (μ ++ [v]) H₂ fun v H₃ => K (some v) H₃) ∧ (b = false → K none H₂)) :
    wpAny (model cx.prog cx.w) A (forIn ifs true fun c r => if r = true then do let ok ← isTrue c (compEnvC scope cl Ca fm.env) (eval c (compEnvC scope cl Ca fm.env)); pure (ForInStep.yield ok) else pure (ForInStep.yield r))
      (fun ok s' => ∃ H', HS cx H' s' ∧ KE s H s' H' ∧ (ok = true → wpAny (model cx.prog cx.w) A (eval elt (compEnvC scope cl Ca fm.env)) (EP cx s' H' fun v H => K (some v) H) E s') ∧ (ok = false → K none H')) E s := by
  rcases ic with ⟨rfl, hc⟩ | ⟨c, rfl, ic⟩
  · refine wpAny_tests_nil ⟨H, S.toHS, Kept.refl _ s H, fun _ => ?_, fun e => by cases e⟩
    cases cond <;> first | (have := hc; subst this; exact ie E H (μ ++ [v]) s _ S (h.1 rfl)) | exact (Bool.false_ne_true hc).elim
  · refine wpAny_tests_one (wpAny_mono (ic E H (μ ++ [v]) s (fun b H₂ => (b = true → mwpE cx n el (μ ++ [v]) H₂ fun v H₃ => K (some v) H₃) ∧ (b = false → K none H₂)) S h) (fun b s₁ x => ?_) fun _ _ e => e)
    obtain ⟨H₁, S₁, k₁, h₁⟩ := x
    exact ⟨H₁, S₁, k₁, fun hb => ie E H₁ (μ ++ [v]) s₁ _ (S.step S₁ k₁) (h₁.1 hb), h₁.2⟩

noncomputable def CUse (cx : Cx) (A : Around) (E : Value → Shared → Prop) (s : Shared) (H : HP) (Q : V → HP → Prop) (use : Option (Value → Sem Unit)) (Q' : Value → Shared → Prop) : Prop :=
  ∀ (D Ca : Addr) (s' : Shared) (H' : HP), HS cx H' s' → KE s H s' H' → Q (.ref D) H' → H' Ca = none → cx.base.get? Ca = none → (∀ o, s.heap.get? Ca = some o → H Ca = none → False) → (∃ m, s'.heap.Ns Ca m) → compPost (model cx.prog cx.w) A E use Q' (.ref D) Ca (.ok .next) s'
theorem comp_any (C : cx.OK) {fm : Fm} {H : HP} {μ : List V} {s : Shared} {Q : V → HP → Prop} (W : fm.OK cx A) (S : SR cx fm H μ s) {elt iter : Expr} {ifs : List Expr} {x : Str} {px pos p0 : Pos} {scope : Scope} {el cond : ME}
    (O : ScopeOk scope fm.env.scope x) (ki : kindOK iter = true) (ie : ∀ fm' : Fm, fm'.OK cx A → fm'.env.scope = relabelS scope fm.env.scope → fm'.names = compNames scope fm.names x → JE cx A n el fm' elt ∧ CTests cx A n cond fm' ifs)
    {K : List V → (HP → Prop) → HP → Prop} (hK : ∀ items st H₁, K items st H₁ → CompP cx items st H₁ (fun x H₁ K => mwpE cx n cond (μ ++ [x]) H₁ fun c H₂ => TruthP c fun b => (b = true → mwpE cx n el (μ ++ [x]) H₂ fun v H₃ => K (some v) H₃) ∧ (b = false → K none H₂)) Q)
    (hw : wpAny (model cx.prog cx.w) A (eval iter fm.env) (fun xv s₁ => wpAny (model cx.prog cx.w) A (pyIter xv) (ItPost cx A s H K) E s₁) E s)
    {use : Option (Value → Sem Unit)} {Q' : Value → Shared → Prop} (huse : CUse cx A E s H Q use Q') :
    wpAny (model cx.prog cx.w) A (comprehension (.ListComp elt [⟨.Name x px, iter, ifs, 0⟩] scope pos) scope fm.env p0 (newList []) false (eval iter fm.env) use) Q' E s := by
  obtain ⟨cl, hcl, h1, h2⟩ := closureFor_ok W O
  refine wpAny_comprehension_free rfl (folded_of ki fm.env) hcl O.kind O.locs (wpAny_mono hw (fun xv s₁ hx => wpAny_mono hx (fun itv s₂ hy => ?_) fun _ _ e => e) fun _ _ e => e)
  obtain ⟨ita, P, ob, s₃, H₁, items, st, rfl, S₁, k₁, rfl, hf, I, hP, hk⟩ := hy
  refine comp_block (RR := compPost (model cx.prog cx.w) A E use Q') C W (S.step S₁ k₁) O h1 h2 I hf hP _ (fun Ca E s H v K cok F ht => comp_turn (ie _ cok rfl rfl).1 (ie _ cok rfl rfl).2 E s H v K F ht) (hK _ _ _ hk) ?_
  intro D Ca s' H' S' k' hQ hCa hCf hns
  exact huse D Ca s' H' S' (k₁.trans k') hQ hCa (S₁.base_none hCf) (fun o e e2 => by obtain ⟨o', e', _⟩ := k₁.keep Ca o e e2 id; rw [e'] at hCf; cases hCf) hns

theorem post_same {H H' : HP} {s s' : Shared} {Ca : Addr} {h' : Heap} (S' : HS cx H' s') (k : KE s H s' H') (hCa : H' Ca = none) (hb : cx.base.get? Ca = none) (hf : ∀ o, s.heap.get? Ca = some o → H Ca = none → False)
    (sb : Heap.SameBut Ca s'.heap h') : HS cx H' { s' with heap := h' } ∧ KE s H { s' with heap := h' } H' :=
  ⟨⟨fun a o e => (S'.hr a o e).of_eq (sb.2 a (fun q => by subst q; rw [hCa] at e; cases e)), fun b o e => (sb.2 b (fun q => by subst q; rw [hb] at e; cases e)).trans (S'.ext b o e), S'.low⟩,
    ⟨fun b o e hn q => (let ⟨o', e', so⟩ := k.keep b o e hn q; ⟨o', (sb.2 b (fun q => by subst q; exact hf o e hn)).trans e', so⟩), k.dom, k.os, k.gens⟩⟩

noncomputable def JC (cx : Cx) (A : Around) (n : Nat) (m : ME) (fm : Fm) (e : Expr) : Prop := ∀ (E : Value → Shared → Prop) (H : HP) (μ : List V) (s : Shared) (Q : V → HP → Prop) (p0 : Pos) (use : Option (Value → Sem Unit)) (Q' : Value → Shared → Prop) (elt : Expr) (gens : List Comprehension) (scope : Scope) (pos : Pos),
  e = .ListComp elt gens scope pos → SR cx fm H μ s → mwpE cx n m μ H Q → CUse cx A E s H Q use Q' → wpAny (model cx.prog cx.w) A (comprehension (.ListComp elt gens scope pos) scope fm.env p0 (newList []) (firstAsync gens) (firstIter gens fm.env) use) Q' E s
theorem jc_value {m : ME} {fm : Fm} {elt : Expr} {gens : List Comprehension} {scope : Scope} {pos : Pos} (i : JC cx A n m fm (.ListComp elt gens scope pos)) : JE cx A n m fm (.ListComp elt gens scope pos) := by
  intro E H μ s Q S h
  rw [eval_ListComp]
  refine i E H μ s Q _ _ _ elt gens scope pos rfl S h ?_
  intro D Ca s' H' S' k hQ hCa hb hf hns
  obtain ⟨m, hm⟩ := hns
  exact ⟨m, hm, fun h' sb => (let ⟨a, b⟩ := post_same S' k hCa hb hf sb; ⟨H', a, b, hQ⟩)⟩
theorem jc_comp (C : cx.OK) (hA : AOK A n) {fm : Fm} (W : fm.OK cx A) {elt iter : Expr} {ifs : List Expr} {x : Str} {px pos : Pos} {scope : Scope} {el it cond : ME}
    (O : ScopeOk scope fm.env.scope x) (ki : kindOK iter = true) (ie : ∀ fm' : Fm, fm'.OK cx A → fm'.env.scope = relabelS scope fm.env.scope → fm'.names = compNames scope fm.names x → JE cx A n el fm' elt ∧ CTests cx A n cond fm' ifs)
    (ii : JE cx A n it fm iter) : JC cx A n (.comp el it cond) fm (.ListComp elt [⟨.Name x px, iter, ifs, 0⟩] scope pos) := by
  intro E H μ s Q p0 use Q' _ _ _ _ e S h hu
  cases e
  exact comp_any C W S O ki ie (fun _ _ _ h => h) (it_val C hA S ii h) hu
theorem jc_compR (C : cx.OK) (TO : T.OK cx) (hA : AOK A n) {fm : Fm} (W : fm.OK cx A) {elt : Expr} {as ifs : List Expr} {x : Str} {px np ip pos : Pos} {scope : Scope} {el a b cond : ME}
    (O : ScopeOk scope fm.env.scope x) (hx : isGlob fm.env.scope "range" = true) (ie : ∀ fm' : Fm, fm'.OK cx A → fm'.env.scope = relabelS scope fm.env.scope → fm'.names = compNames scope fm.names x → JE cx A n el fm' elt ∧ CTests cx A n cond fm' ifs)
    (ha : RngArgs cx A n fm a b as) : JC cx A n (.compR el a b cond) fm (.ListComp elt [⟨.Name x px, .Call (.Name "range" np) as [] ip, ifs, 0⟩] scope pos) := by
  intro E H μ s Q p0 use Q' _ _ _ _ e S h hu
  cases e
  exact comp_any C W S O rfl ie (fun _ _ _ h => h) (it_rng C TO hA W S hx ha h) hu

noncomputable def isComp : Expr → Bool
  | .ListComp .. => true
  | _ => false
structure JJ (cx : Cx) (A : Around) (n : Nat) (m : ME) (fm : Fm) (e : Expr) : Prop where
  v : JE cx A n m fm e
  t : JT cx A n m fm e
  c : isComp e = true → JC cx A n m fm e
  k : kindOK e = true
theorem jj {m : ME} {fm : Fm} {e : Expr} (v : JE cx A n m fm e) (t : JT cx A n m fm e) (hc : isComp e = false) (hk : kindOK e = true) : JJ cx A n m fm e := ⟨v, t, fun q => (Bool.false_ne_true (hc.symm.trans q)).elim, hk⟩
theorem jj1 {m : ME} {fm : Fm} {e : Expr} (hc : isComp e = false) (hk : kindOK e = true) (he : ∀ env whole, isTrue e env whole = (do let v ← whole; standAt e.pos; holding [v] (truthy v))) (v : JE cx A n m fm e) : JJ cx A n m fm e := jj v (t_value v he) hc hk
theorem jjc {m : ME} {fm : Fm} {elt : Expr} {gens : List Comprehension} {scope : Scope} {pos : Pos} (i : JC cx A n m fm (.ListComp elt gens scope pos)) : JJ cx A n m fm (.ListComp elt gens scope pos) := ⟨jc_value i, t_value (jc_value i) fun _ _ => rfl, fun _ => i, rfl⟩
structure JR (cx : Cx) (A : Around) (n : Nat) (ms : MEs) (fm : Fm) (es : List Expr) : Prop where
  l : JL cx A n ms fm es
  b : ∀ op, JB cx A n op ms fm es
  u : ∀ op, JU cx A n op ms fm es
  one : ∀ m e, ms = .cons m .nil → es = [e] → JE cx A n m fm e
  ks : ∀ e ∈ es, kindOK e = true

theorem tests_of {fm : Fm} {c : ME} {ifs : List Expr} (h : (ifs.isEmpty && isTrueM c || l1 ifs fun i => chkE T c fm.env.scope fm.names i) = true) (i : ∀ e, chkE T c fm.env.scope fm.names e = true → JJ cx A n c fm e) : CTests cx A n c fm ifs := by
  rcases or2 h with h | h
  · obtain ⟨h1, h2⟩ := and2 h; exact .inl ⟨nil_of h1, h2⟩
  · obtain ⟨e, h1, h2⟩ := l1_inv h; exact .inr ⟨e, h1, (i e h2).t⟩
theorem zero_of {m : ME} (h : isZeroM m = true) : m = .cint 0 := by
  cases m <;> first | (rw [eq_of_beq (show (_ == (0 : Int)) = true from h)]) | exact (Bool.false_ne_true h).elim
theorem none_of {m : ME} (h : isNoneM m = true) : m = .cnone := by
  cases m <;> first | rfl | exact (Bool.false_ne_true h).elim
theorem rng_of {fm : Fm} {a b : ME} {as : List Expr} (h : ((l1 as fun q => isZeroM a && chkE T b fm.env.scope fm.names q) || l2 as fun p q => chkE T a fm.env.scope fm.names p && chkE T b fm.env.scope fm.names q) = true)
    (ia : ∀ e, chkE T a fm.env.scope fm.names e = true → JJ cx A n a fm e) (ib : ∀ e, chkE T b fm.env.scope fm.names e = true → JJ cx A n b fm e) : RngArgs cx A n fm a b as := by
  rcases or2 h with h | h
  · obtain ⟨e, h1, h2⟩ := l1_inv h
    obtain ⟨h2, h3⟩ := and2 h2
    exact .inl ⟨e, h1, zero_of h2, (ib e h3).k, (ib e h3).v⟩
  · obtain ⟨e, e', h1, h2⟩ := l2_inv h
    obtain ⟨h2, h3⟩ := and2 h2
    exact .inr ⟨e, e', h1, (ia e h2).k, (ib e' h3).k, (ia e h2).v, (ib e' h3).v⟩

theorem notB {b : Bool} (h : (!b) = true) : b = false := by cases b; rfl; cases h
mutual
theorem sE (C : cx.OK) (TO : T.OK cx) (hA : AOK0 A n) (hh : T.q = false → A.handled = none) : ∀ (m : ME) (fm : Fm) (e : Expr), fm.OK cx A → chkE T m fm.env.scope fm.names e = true → JJ cx A n m fm e
  | .cint i, fm, e, W, h => by
    obtain ⟨c, k, p, rfl, h1⟩ := vConst_inv h; exact jj1 rfl rfl (fun _ _ => rfl) (j_int h1)
  | .cbool b, fm, e, W, h => by
    obtain ⟨c, k, p, rfl, h1⟩ := vConst_inv h; exact jj1 rfl rfl (fun _ _ => rfl) (j_bool h1)
  | .cnone, fm, e, W, h => by
    obtain ⟨c, k, p, rfl, h1⟩ := vConst_inv h; exact jj1 rfl rfl (fun _ _ => rfl) (j_none h1)
  | .cstr x, fm, e, W, h => by
    obtain ⟨c, k, p, rfl, h1⟩ := vConst_inv h; exact jj1 rfl rfl (fun _ _ => rfl) (j_str h1)
  | .loc i, fm, e, W, h => by
    obtain ⟨x, p, rfl, h1⟩ := vName_inv h
    obtain ⟨h2, h3⟩ := and2 h1
    exact jj1 rfl rfl (fun _ _ => rfl) (j_loc W h2 (eq_of_beq h3))
  | .bin op l r, fm, e, W, h => by
    obtain ⟨a, o, b, p, rfl, h1⟩ := vBin_inv h
    obtain ⟨h2, h3⟩ := and2 h1
    obtain ⟨h3, h4⟩ := and2 h3
    rw [eq_of_beq h2]
    exact jj1 rfl rfl (fun _ _ => rfl) (j_bin C hA (sE C TO hA hh l fm a W h3).v (sE C TO hA hh r fm b W h4).v)
  | .not m, fm, e, W, h => by
    obtain ⟨o, a, p, rfl, h1⟩ := vUn_inv h
    obtain ⟨h2, h3⟩ := and2 h1
    rw [eq_of_beq h2]
    exact jj (j_not (sE C TO hA hh m fm a W h3).v) (t_not (sE C TO hA hh m fm a W h3).t) rfl rfl
  | .cmp l op r, fm, e, W, h => by
    obtain ⟨a, ops, cs, p, rfl, h1⟩ := vCmp_inv h
    obtain ⟨o, rfl, h2⟩ := l1_inv h1
    obtain ⟨b, rfl, h3⟩ := l1_inv h2
    obtain ⟨h4, h5⟩ := and2 h3
    obtain ⟨h5, h6⟩ := and2 h5
    rw [eq_of_beq h4]
    have il := sE C TO hA hh l fm a W h5
    have ir := sE C TO hA hh r fm b W h6
    exact jj (j_cmp C hA ir.k il.v ir.v) (t_cmp C hA ir.k il.v ir.v) rfl rfl
  | .bop op ms, fm, e, W, h => by
    obtain ⟨o, es, p, rfl, h1⟩ := vBool_inv h
    obtain ⟨h2, h3⟩ := and2 h1
    rw [eq_of_beq h2]
    have i := sEs C TO hA hh ms fm es W h3
    exact jj (fun E H μ s Q S h => i.b op E p H μ s Q S h) (fun E H μ s Q S h => wpAny_isTrue_BoolOp (i.u op E H μ s Q S h)) rfl rfl
  | .callf f ms, fm, e, W, h => by
    obtain ⟨h0, h⟩ := and2 h
    have hA' : AOK A n := ⟨hA, hh (notB h0)⟩
    obtain ⟨x, np, as, p, rfl, h1⟩ := nameCall_inv h
    obtain ⟨h2, h3⟩ := and2 h1
    obtain ⟨h4, h5⟩ := and2 h3
    obtain ⟨h6, h7⟩ := and2 h5
    cases as with
    | nil => cases h6
    | cons a r => cases ms with
      | nil => cases h7
      | cons m ms =>
        have i := sEs C TO hA hh (.cons m ms) fm (a :: r) W h7
        exact jj1 rfl rfl (fun _ _ => rfl) (j_callf C TO hA' W h2 (eq_of_beq h4) (i.ks a List.mem_cons_self) i.l)
  | .callb b ms, fm, e, W, h => by
    obtain ⟨h0, h⟩ := and2 h
    obtain ⟨x, np, as, p, rfl, h1⟩ := nameCall_inv h
    obtain ⟨h2, h3⟩ := and2 h1
    obtain ⟨h4, h5⟩ := and2 h3
    obtain ⟨h6, h7⟩ := and2 h5
    cases as with
    | nil => cases h6
    | cons a r => cases ms with
      | nil => cases h7
      | cons m ms =>
        have i := sEs C TO hA hh (.cons m ms) fm (a :: r) W h7
        exact jj1 rfl rfl (fun _ _ => rfl) (j_callb C TO hA W (fun e => hh (by rw [e] at h0; exact notB h0)) h2 (eq_of_beq h4) i.ks i.l)
  | .isi m t, fm, e, W, h => by
    obtain ⟨x, np, as, p, rfl, h1⟩ := nameCall_inv h
    obtain ⟨h2, h3⟩ := and2 h1
    obtain ⟨h4, h5⟩ := and2 h3
    obtain ⟨a, b, rfl, h6⟩ := l2_inv h5
    obtain ⟨h7, h8⟩ := and2 h6
    obtain ⟨y, tp, rfl, h9⟩ := vName_inv h8
    obtain ⟨h10, h11⟩ := and2 h9
    have := eq_of_beq h4; subst this
    exact jj1 rfl rfl (fun _ _ => rfl) (j_isi C TO W h2 h10 (eq_of_beq h11) (sE C TO hA hh m fm a W h7).k (sE C TO hA hh m fm a W h7).v)
  | .meth o m ms, fm, e, W, h => by
    obtain ⟨f, as, ks, p, rfl, h1⟩ := vCall_inv h
    obtain ⟨h2, h3⟩ := and2 h1
    obtain ⟨b, x, ap, rfl, h4⟩ := vAttr_inv h3
    obtain ⟨h4, h5⟩ := and2 h4
    obtain ⟨h5, h6⟩ := and2 h5
    obtain ⟨h6, h7⟩ := and2 h6
    obtain ⟨h7, h8⟩ := and2 h7
    obtain ⟨h9, h10⟩ := and2 h4
    rw [nil_of h2, eq_of_beq h5]
    exact jj1 rfl rfl (fun _ _ => rfl) (j_meth h9 h10 (of_decide_eq_true h7) h8 (sEs C TO hA hh ms fm as W h8).ks (sE C TO hA hh o fm b W h6).v (sEs C TO hA hh ms fm as W h8).one)
  | .sub o i, fm, e, W, h => by
    obtain ⟨a, b, p, rfl, h1⟩ := vSub_inv h
    obtain ⟨h2, h3⟩ := and2 h1
    exact jj1 rfl rfl (fun _ _ => rfl) (j_sub C (sE C TO hA hh i fm b W h3).k (sE C TO hA hh o fm a W h2).v (sE C TO hA hh i fm b W h3).v)
  | .dsub o i, fm, e, W, h => by
    obtain ⟨a, b, p, rfl, h1⟩ := vSub_inv h
    obtain ⟨h2, h3⟩ := and2 h1
    exact jj1 rfl rfl (fun _ _ => rfl) (j_dsub (sE C TO hA hh i fm b W h3).k (sE C TO hA hh o fm a W h2).v (sE C TO hA hh i fm b W h3).v)
  | .dnil, fm, e, W, h => by
    obtain ⟨ks, vs, p, rfl, h1⟩ := vDict_inv h
    obtain ⟨h2, h3⟩ := and2 h1
    rw [nil_of h2, nil_of h3]
    exact jj1 rfl rfl (fun _ _ => rfl) (j_dnil C)
  | .done k v, fm, e, W, h => by
    obtain ⟨ks, vs, p, rfl, h1⟩ := vDict_inv h
    obtain ⟨x, rfl, h2⟩ := l1_inv h1
    obtain ⟨h2', h3⟩ := and2 h2
    obtain ⟨y, rfl, h4⟩ := l1_inv h3
    cases x with
    | none => cases h2'
    | some x =>
      obtain ⟨c, ck, cp, rfl, h5⟩ := vConst_inv h2'
      exact jj1 rfl rfl (fun _ _ => rfl) (j_done C h5 (sE C TO hA hh v fm y W h4).v)
  | .slice o lo hi, fm, e, W, h => by
    obtain ⟨a, b, p, rfl, h1⟩ := vSub_inv h
    obtain ⟨h2, h3⟩ := and2 h1
    obtain ⟨x, y, z, p', rfl, h4⟩ := vSlice_inv h3
    obtain ⟨h5, h6⟩ := and2 h4
    obtain ⟨h7, h8⟩ := and2 h6
    cases z with
    | some z => cases h5
    | none =>
      refine jj1 rfl rfl (fun _ _ => rfl) (j_slice C (sE C TO hA hh o fm a W h2).v ?_ ?_)
      · cases x with
        | none => exact .inl ⟨rfl, none_of h7⟩
        | some x => exact .inr ⟨x, rfl, (sE C TO hA hh lo fm x W h7).v⟩
      · cases y with
        | none => exact .inl ⟨rfl, none_of h8⟩
        | some y => exact .inr ⟨y, rfl, (sE C TO hA hh hi fm y W h8).v⟩
  | .list ms, fm, e, W, h => by
    obtain ⟨es, p, rfl, h1⟩ := vList_inv h
    exact jj1 rfl rfl (fun _ _ => rfl) (j_list C (sEs C TO hA hh ms fm es W h1).l)
  | .tup ms, fm, e, W, h => by
    obtain ⟨es, k, p, rfl, h1⟩ := vTup_inv h
    exact jj1 rfl rfl (fun _ _ => rfl) (j_tup C (sEs C TO hA hh ms fm es W h1).l)
  | .comp el it c, fm, e, W, h => by
    obtain ⟨h0, h⟩ := and2 h
    have hA' : AOK A n := ⟨hA, hh (notB h0)⟩
    obtain ⟨elt, x, px, iter, ifs, scope, p, rfl, hs, h1⟩ := oneComp_inv h
    obtain ⟨h1, h2⟩ := and2 h1
    obtain ⟨h2, h3⟩ := and2 h2
    refine jjc (jc_comp C hA' W (scopeOk_of hs) (sE C TO hA hh it fm iter W h2).k (fun fm' W' e1 e2 => ?_) (sE C TO hA hh it fm iter W h2).v)
    rw [← e1, ← e2] at h1 h3
    exact ⟨(sE C TO hA hh el fm' elt W' h1).v, tests_of h3 fun e he => sE C TO hA hh c fm' e W' he⟩
  | .compR el a b c, fm, e, W, h => by
    obtain ⟨h0, h⟩ := and2 h
    have hA' : AOK A n := ⟨hA, hh (notB h0)⟩
    obtain ⟨elt, x, px, iter, ifs, scope, p, rfl, hs, h1⟩ := oneComp_inv h
    obtain ⟨a1, a2⟩ := and2 h1
    obtain ⟨a3, a4⟩ := and2 a2
    obtain ⟨y, np, as, ip, rfl, a5⟩ := nameCall_inv a3
    obtain ⟨a6, a7⟩ := and2 a5
    obtain ⟨a8, a9⟩ := and2 a7
    have := eq_of_beq a8; subst this
    refine jjc (jc_compR C TO hA' W (scopeOk_of hs) a6 (fun fm' W' e1 e2 => ?_) (rng_of a9 (fun e he => sE C TO hA hh a fm e W he) fun e he => sE C TO hA hh b fm e W he))
    rw [← e1, ← e2] at a1 a4
    exact ⟨(sE C TO hA hh el fm' elt W' a1).v, tests_of a4 fun e he => sE C TO hA hh c fm' e W' he⟩
  | .neg m, fm, e, W, h => by
    obtain ⟨o, a, p, rfl, h1⟩ := vUn_inv h
    obtain ⟨h2, h3⟩ := and2 h1
    rw [eq_of_beq h2]
    exact jj1 rfl rfl (fun _ _ => rfl) (j_neg (sE C TO hA hh m fm a W h3).v)
  | .cmp2 l o1 m o2 r, fm, e, W, h => by
    obtain ⟨a, ops, cs, p, rfl, h1⟩ := vCmp_inv h
    obtain ⟨q1, q2, rfl, h2⟩ := l2_inv h1
    obtain ⟨b, c, rfl, h3⟩ := l2_inv h2
    obtain ⟨h4, h5⟩ := and2 h3
    obtain ⟨h5, h6⟩ := and2 h5
    obtain ⟨h6, h7⟩ := and2 h6
    obtain ⟨h8, h9⟩ := and2 h4
    rw [eq_of_beq h8, eq_of_beq h9]
    have il := sE C TO hA hh l fm a W h5
    have im := sE C TO hA hh m fm b W h6
    have ir := sE C TO hA hh r fm c W h7
    exact jj (j_cmp2 C hA ir.k il.v im.v ir.v) (t_cmp2 C hA ir.k il.v im.v ir.v) rfl rfl
  | .ife c t f, fm, e, W, h => by
    obtain ⟨d, a, b, p, rfl, h1⟩ := vIfE_inv h
    obtain ⟨h2, h3⟩ := and2 h1
    obtain ⟨h3, h4⟩ := and2 h3
    exact jj (j_ife (sE C TO hA hh c fm d W h2).t (sE C TO hA hh t fm a W h3).v (sE C TO hA hh f fm b W h4).v) (t_ife (sE C TO hA hh c fm d W h2).t (sE C TO hA hh t fm a W h3).t (sE C TO hA hh f fm b W h4).t) rfl rfl
  | .gint i, fm, e, W, h => by
    obtain ⟨x, p, rfl, h1⟩ := vName_inv h
    obtain ⟨h2, h3⟩ := and2 h1
    exact jj1 rfl rfl (fun _ _ => rfl) (j_gint C TO W h2 (eq_of_beq h3))
  | .attr Cc i x, fm, e, W, h => by
    obtain ⟨o, y, p, rfl, h1⟩ := vAttr_inv h
    obtain ⟨h2, h3⟩ := and2 h1
    obtain ⟨a3, a4⟩ := and2 h3
    obtain ⟨z, np, rfl, h5⟩ := vName_inv a4
    obtain ⟨a5, a6⟩ := and2 h5
    rw [eq_of_beq h2]
    exact jj1 rfl rfl (fun _ _ => rfl) (j_attr TO W a3 a5 (eq_of_beq a6))
  | .callm Cc x f i ms, fm, e, W, h => by
    obtain ⟨h0, h⟩ := and2 h
    have hA' : AOK A n := ⟨hA, hh (notB h0)⟩
    obtain ⟨g, as, ks, p, rfl, h1⟩ := vCall_inv h
    obtain ⟨h2, h3⟩ := and2 h1
    obtain ⟨o, y, ap, rfl, h4⟩ := vAttr_inv h3
    obtain ⟨a4, a5⟩ := and2 h4
    obtain ⟨a6, a7⟩ := and2 a4
    obtain ⟨b5, b8⟩ := and2 a5
    obtain ⟨c8, c9⟩ := and2 b8
    obtain ⟨z, np, rfl, d1⟩ := vName_inv c8
    obtain ⟨d2, d3⟩ := and2 d1
    obtain ⟨e1, e2⟩ := and2 c9
    rw [nil_of h2, eq_of_beq a7]
    have i := sEs C TO hA hh ms fm as W e2
    exact jj1 rfl rfl (fun _ _ => rfl) (j_callm TO hA' W a6 b5 d2 (eq_of_beq d3) (of_decide_eq_true e1) i.ks e2 i.l)
  | .mk Cc f ms, fm, e, W, h => by
    obtain ⟨h0, h⟩ := and2 h
    have hA' : AOK A n := ⟨hA, hh (notB h0)⟩
    obtain ⟨x, np, as, p, rfl, h1⟩ := nameCall_inv h
    obtain ⟨h2, h3⟩ := and2 h1
    obtain ⟨h4, h5⟩ := and2 h3
    obtain ⟨h6, h7⟩ := and2 h5
    cases as with
    | nil => cases h6
    | cons a r => cases ms with
      | nil => cases h7
      | cons m ms =>
        have i := sEs C TO hA hh (.cons m ms) fm (a :: r) W h7
        exact jj1 rfl rfl (fun _ _ => rfl) (j_mk C TO hA' W h2 h4 i.ks i.l)
theorem sEs (C : cx.OK) (TO : T.OK cx) (hA : AOK0 A n) (hh : T.q = false → A.handled = none) : ∀ (ms : MEs) (fm : Fm) (es : List Expr), fm.OK cx A → chkEs T ms fm.env.scope fm.names es = true → JR cx A n ms fm es
  | .nil, fm, es, W, h => by
    have := nil_of h; subst this
    exact ⟨jl_nil, fun _ _ _ _ _ _ _ _ h => False.elim h, fun _ _ _ _ _ _ _ h => False.elim h, fun _ _ q => (by cases q), fun e he => by cases he⟩
  | .cons m .nil, fm, es, W, h => by
    obtain ⟨e, r, rfl, h1, h2⟩ := chkEs_cons h
    have := nil_of h2; subst this
    have i := sE C TO hA hh m fm e W h1
    exact ⟨jl_cons i.k i.v jl_nil, fun _ => jb_one i.v, fun _ => ju_one i.t, fun _ _ q q' => (by cases q; cases q'; exact i.v), fun e he => by rw [List.mem_singleton.mp he]; exact i.k⟩
  | .cons m (.cons m' ms), fm, es, W, h => by
    obtain ⟨e, r, rfl, h1, h2⟩ := chkEs_cons h
    have i := sE C TO hA hh m fm e W h1
    have ir := sEs C TO hA hh (.cons m' ms) fm r W h2
    obtain ⟨e', r', rfl, _, _⟩ := chkEs_cons h2
    refine ⟨jl_cons i.k i.v ir.l, fun op => jb_more i.v (ir.b op), fun op => ju_more i.t (ir.u op), fun _ _ q => (by cases q), fun x hx => ?_⟩
    rcases List.mem_cons.mp hx with rfl | hx
    · exact i.k
    · exact ir.ks x hx
end
end
end Mine
end

section
namespace Mine
open PySem PyProof.Rows PySem.W

section
variable {cx : Cx} {H H' : HP} {s s' : Shared} {l : List Env} {e C T : Addr} {h' : Heap} {A : Around} {E : Value → Shared → Prop} {M : Model} {env : Env}
noncomputable abbrev hid (h : Heap) (e T : Addr) (l : List Env) : Heap := hideAll h (e :: T :: l.filterMap (·.frame))
theorem fun_of (ff : FrL cx.base H' s'.heap l) : ∀ {l' : List Env}, (∀ x ∈ l', x ∈ l) → s'.heap.FunFrames (hid s'.heap e T l) l'
  | [], _ => trivial
  | x :: l', hl => by
    obtain ⟨k, L, o, es, ep, h1, _, _, h4, h5⟩ := ff x (hl x List.mem_cons_self)
    refine ⟨k, ⟨L, o, h1, hideAll_none _ (.tail _ (.tail _ (List.mem_filterMap.mpr ⟨x, hl x List.mem_cons_self, h1⟩))), h4, fun vs q => by rw [h5] at q; cases q⟩, fun_of ff fun y hy => hl y (List.mem_cons_of_mem _ hy)⟩
theorem trans_ok (S : HS cx H' s') (ff : FrL cx.base H' s'.heap l) (e1 : H' e = none) (t1 : H' T = none) (e2 : cx.base.get? e = none) (t2 : cx.base.get? T = none)
    (st : (hid s'.heap e T l).StaysIn h') (up : s'.heap.UpToSlots h') :
    HS cx H' { s' with heap := h' } ∧ (∀ b o, s'.heap.get? b = some o → b ≠ e → b ≠ T → ∃ o', h'.get? b = some o' ∧ SO o o') ∧ FrL cx.base H' h' l := by
  have frm : ∀ b, b ∈ l.filterMap (·.frame) → cx.base.get? b = none ∧ H' b = none ∧ ∃ o es ep, s'.heap.get? b = some o ∧ o.data = .dict es ep := fun b hb => by
    obtain ⟨x, hx, hf⟩ := List.mem_filterMap.mp hb
    obtain ⟨k, L, o, es, ep, h1, h2, h3, h4, h5⟩ := ff x hx
    rw [hf] at h1; cases h1
    exact ⟨h2, h3, o, es, ep, h4, h5⟩
  have ex : ∀ b o, s'.heap.get? b = some o → b ≠ e → b ≠ T → b ∉ l.filterMap (·.frame) → h'.get? b = some o := fun b o hb n1 n2 n3 =>
    st b o (hideAll_get _ hb (by simp only [List.mem_cons, not_or]; exact ⟨n1, n2, n3⟩))
  have sl : ∀ b o es ep, s'.heap.get? b = some o → o.data = .dict es ep → ∃ o', h'.get? b = some o' ∧ SO o o' := fun b o es ep hb hd => by
    obtain ⟨q, hq⟩ := up b o hb fun vs q => by rw [hd] at q; cases q
    exact ⟨_, hq, .inr ⟨⟨es, ep, hd⟩, q, rfl⟩⟩
  refine ⟨⟨fun a o ha => (S.hr a o ha).keep fun ob hb => ex a ob hb (fun q => by subst q; rw [e1] at ha; cases ha) (fun q => by subst q; rw [t1] at ha; cases ha) (fun q => by rw [(frm a q).2.1] at ha; cases ha),
    fun b o hb => ex b o (S.ext b o hb) (fun q => by subst q; rw [e2] at hb; cases hb) (fun q => by subst q; rw [t2] at hb; cases hb) (fun q => by rw [(frm b q).1] at hb; cases hb), S.low⟩, fun b o hb n1 n2 => ?_, fun x hx => ?_⟩
  · by_cases q : b ∈ l.filterMap (·.frame)
    · obtain ⟨_, _, o', es, ep, h4, h5⟩ := frm b q
      rw [hb] at h4; cases h4
      exact sl b o es ep hb h5
    · exact ⟨o, ex b o hb n1 n2 q, .refl o⟩
  · obtain ⟨k, L, o, es, ep, h1, h2, h3, h4, h5⟩ := ff x hx
    obtain ⟨o', h6, h7⟩ := sl L o es ep h4 h5
    exact ⟨k, L, o', es, ep, h1, h2, h3, h6, h7.data.trans h5⟩
theorem Kept.pass {ow : Addr → Prop} (k : Kept ow s H s' H') (hw : ∀ b o, s.heap.get? b = some o → H b = none → b ≠ e ∧ b ≠ T) (hb : ∀ b o, s'.heap.get? b = some o → b ≠ e → b ≠ T → ∃ o', h'.get? b = some o' ∧ SO o o') : Kept ow s H { s' with heap := h' } H' :=
  ⟨fun b o q n w => (let ⟨_, q1, s1⟩ := k.keep b o q n w; let ⟨n1, n2⟩ := hw b o q n; let ⟨o2, q2, s2⟩ := hb b _ q1 n1 n2; ⟨o2, q2, s1.trans s2⟩), k.dom, k.os, k.gens⟩
theorem ExcIn.ne (x : ExcIn cx.base s H H' s'.heap e C T) : ∀ b o, s.heap.get? b = some o → H b = none → b ≠ e ∧ b ≠ T := fun b o q n => ⟨fun z => by subst z; exact x.e0 o q n, fun z => by subst z; exact x.t0 o q n⟩
theorem exc_of (k : KE s H s' H') (S : HS cx H' s') (ff : FrL cx.base H' s'.heap l) (x : ExcIn cx.base s H H' s'.heap e C T) {a0 : Value} (tr : h'.TracedW (hid s'.heap e T l) e (.ref C) a0) (hl : h'.FunFrames (hid s'.heap e T l) l) : ∃ T', ExcIn cx.base s H H' h' e C T' ∧ T' ≠ e := by
  obtain ⟨oe, vs, T', oT, ts, h1, ⟨h2, h3⟩, h4, h5, h6, h7, h8, h9, h10⟩ := tr
  refine ⟨T', ?_, h7⟩
  have nofr : T' ∉ l.filterMap (·.frame) := fun q => by
    obtain ⟨_, o, q1, q2⟩ := hl.mem q
    rw [h8] at q1; cases q1; exact q2 ts h9
  have new : T' ≠ T → s'.heap.get? T' = none := fun n => by
    cases q : s'.heap.get? T' with
    | none => rfl
    | some o =>
      rw [hideAll_get _ q (by simp only [List.mem_cons, not_or]; exact ⟨h7, n, nofr⟩)] at h6; cases h6
  by_cases q : T' = T
  · subst q
    exact ⟨x.e0, x.t0, x.e1, x.t1, x.e2, x.t2, oe, vs, a0, h1, h2, h4, h3, .inr ⟨oT, ts, h5, h7, h8, h9, h10⟩⟩
  · have n := new q
    exact ⟨x.e0, fun o q1 q2 => (by obtain ⟨o', q3, _⟩ := k.keep T' o q1 q2 id; rw [n] at q3; cases q3), x.e1, S.none_of n, x.e2, S.base_none n, oe, vs, a0, h1, h2, h4, h3, .inr ⟨oT, ts, h5, h7, h8, h9, h10⟩⟩
theorem leave_ok {outer : List Env} {L : Addr} (hfr : A.frames = some (env :: outer)) (hf : env.frame = some L) (k : KE s H s' H') (S : HS cx H' s') (ff : FrL cx.base H' s'.heap (env :: outer)) (x : ExcIn cx.base s H H' s'.heap e C T) {Q : Unit → Shared → Prop}
    (hQ : ∀ h'' T', HS cx H' { s' with heap := h'' } → KE s H { s' with heap := h'' } H' → ExcIn cx.base s H H' h'' e C T' → T' ≠ e → Q () { s' with heap := h'' }) : wpAny M A (leaving env (.ref e)) Q E s' := by
  have fin : ∀ h'' a0, Heap.LeftW (hid s'.heap e T (env :: outer)) (env :: outer) e (.ref C) a0 s'.heap h'' → Q () { s' with heap := h'' } := fun h'' a0 ⟨k1, k2, k3, k4⟩ => by
    obtain ⟨S2, hb, _⟩ := trans_ok (T := T) S ff x.e1 x.t1 x.e2 x.t2 k1 k4
    obtain ⟨T', x', nT⟩ := exc_of k S ff x k3 k2
    exact hQ h'' T' S2 (k.pass x.ne hb) x' nT
  obtain ⟨oe, vs, a0, h1, h2, h3, h4, h5⟩ := x.at_
  have hen : (hid s'.heap e T (env :: outer)).get? e = none := hideAll_none _ (.head _)
  have hst : (hid s'.heap e T (env :: outer)).StaysIn s'.heap := fun b o q => of_hideAll _ q
  rcases h5 with ⟨h5, _⟩ | ⟨oT, ts, h5, h6, h7, h8, h9⟩
  · exact wpAny_leaving_firstW hfr (fun_of ff fun _ q => q) hf h1 hst hen h3 h5 h4 fun h'' hL => fin h'' a0 (by rw [h2] at hL; exact hL)
  · exact wpAny_leaving_nextW (cls := .ref C) (a0 := a0) hfr (fun_of ff fun _ q => q) hf ⟨oe, vs, T, oT, ts, h1, ⟨h2, h4⟩, h3, h5, hideAll_none _ (.tail _ (.head _)), h6, h7, h8, h9⟩ hst hen fun h'' hL => fin h'' a0 hL
theorem catch_ok {prog : Program} {w : World} {outer : List Env} {L : Addr} (hfr : A.frames = some (env :: outer)) (hf : env.frame = some L) (k : KE s H s' H') (S : HS cx H' s') (ff : FrL cx.base H' s'.heap (env :: outer)) (x : ExcIn cx.base s H H' s'.heap e C T) (hT : T ≠ e)
    {t : Expr} {b₀ : Stmt} {suite : List Stmt} {pos : Pos} {rest : List ExceptHandler} {Q : Flow → Shared → Prop} (hC : ExcCls C cx.base)
    (ht : ∀ (E : Value → Shared → Prop) (s₁ : Shared) (Q : Value → Shared → Prop), HS cx H' s₁ → Q (.ref C) s₁ → wpAny (model prog w) (A.mark (some (.ref e))) (eval t env) Q E s₁)
    (hQ : ∀ (E : Value → Shared → Prop) h₁, HS cx H' { s' with heap := h₁ } → KE s H { s' with heap := h₁ } H' → wpAny (model prog w) (A.mark (some (.ref e))) (execs (b₀ :: suite) env) Q E { s' with heap := h₁ }) :
    wpAny (model prog w) A (noteFrame (.ref e) env) (fun _ s₂ => wpAny (model prog w) A (setFlight (.ref e) none) (fun _ s₃ => wpAny (model prog w) A (handleBy (.ref e) env (.ExceptHandler (some t) none (b₀ :: suite) pos :: rest)) Q E s₃) E s₂) E s' := by
  obtain ⟨oe, vs, a0, h1, h2, h3, h4, h5⟩ := x.at_
  rcases h5 with ⟨_, h5⟩ | ⟨oT, ts, h5, h6, h7, h8, h9⟩
  · exact absurd h5 hT
  have fl : Heap.FlyingW (hid s'.heap e T (env :: outer)) (env :: outer) e (.ref C) a0 s'.heap :=
    ⟨fun b o q => of_hideAll _ q, hideAll_none _ (.head _), fun_of ff fun _ q => q, oe, vs, T, oT, ts, h1, ⟨h2, h4⟩, h3, h5, hideAll_none _ (.tail _ (.head _)), h6, h7, h8, h9⟩
  refine wpAny_looks_onW hfr hf fl fun h₄ held₄ u₄ => wpAny_landsW held₄ fun h₅ fl₅ u₅ => ?_
  have u45 := u₄.trans u₅
  obtain ⟨S5, _, _⟩ := trans_ok (T := T) S ff x.e1 x.t1 x.e2 x.t2 fl₅.1 u45
  refine handleBy_own (x := "") (mg := fun _ => some (.ref C)) (bmB := bmV) (newId := "ValueError.__new__") rfl (ht _ _ _ S5 ⟨rfl, hC.keeps S5.ext, fl₅.there, lands_againW fl₅ fun h₆ fl₆ u₆ => ?_⟩)
  obtain ⟨S6, hb, _⟩ := trans_ok (T := T) S ff x.e1 x.t1 x.e2 x.t2 fl₆.1 (u45.trans u₆)
  exact hQ _ h₆ S6 (k.pass x.ne hb)
end

end Mine
end

section
namespace Mine
open PySem PyProof.Rows PySem.SeqAt

noncomputable def wAsg (st : Stmt) (k : List Expr → Expr → Bool) : Bool := match st with
  | .Assign ts v _ => k ts v
  | _ => false
theorem wAsg_inv {st : Stmt} {k : List Expr → Expr → Bool} (h : wAsg st k = true) : ∃ ts v p, st = .Assign ts v p ∧ k ts v = true := by cases st <;> first | exact ⟨_, _, _, rfl, h⟩ | exact (Bool.false_ne_true h).elim
noncomputable def wExpr (st : Stmt) (k : Expr → Bool) : Bool := match st with
  | .Expr v _ => k v
  | _ => false
theorem wExpr_inv {st : Stmt} {k : Expr → Bool} (h : wExpr st k = true) : ∃ v p, st = .Expr v p ∧ k v = true := by cases st <;> first | exact ⟨_, _, rfl, h⟩ | exact (Bool.false_ne_true h).elim
noncomputable def wIf (st : Stmt) (k : Expr → List Stmt → List Stmt → Bool) : Bool := match st with
  | .If c t e _ => k c t e
  | _ => false
theorem wIf_inv {st : Stmt} {k : Expr → List Stmt → List Stmt → Bool} (h : wIf st k = true) : ∃ c t e p, st = .If c t e p ∧ k c t e = true := by cases st <;> first | exact ⟨_, _, _, _, rfl, h⟩ | exact (Bool.false_ne_true h).elim
noncomputable def wFor (st : Stmt) (k : Expr → Expr → List Stmt → List Stmt → Bool) : Bool := match st with
  | .For tg it b o _ => k tg it b o
  | _ => false
theorem wFor_inv {st : Stmt} {k : Expr → Expr → List Stmt → List Stmt → Bool} (h : wFor st k = true) : ∃ tg it b o p, st = .For tg it b o p ∧ k tg it b o = true := by cases st <;> first | exact ⟨_, _, _, _, _, rfl, h⟩ | exact (Bool.false_ne_true h).elim
noncomputable def wWhile (st : Stmt) (k : Expr → List Stmt → List Stmt → Bool) : Bool := match st with
  | .While c b o _ => k c b o
  | _ => false
theorem wWhile_inv {st : Stmt} {k : Expr → List Stmt → List Stmt → Bool} (h : wWhile st k = true) : ∃ c b o p, st = .While c b o p ∧ k c b o = true := by cases st <;> first | exact ⟨_, _, _, _, rfl, h⟩ | exact (Bool.false_ne_true h).elim
noncomputable def wRet (st : Stmt) (k : Option Expr → Bool) : Bool := match st with
  | .Return v _ => k v
  | _ => false
theorem wRet_inv {st : Stmt} {k : Option Expr → Bool} (h : wRet st k = true) : ∃ v p, st = .Return v p ∧ k v = true := by cases st <;> first | exact ⟨_, _, rfl, h⟩ | exact (Bool.false_ne_true h).elim

theorem so_inv {α : Type} {o : Option α} {k : α → Bool} (h : so o k false = true) : ∃ a, o = some a ∧ k a = true := by
  cases o with
  | none => cases h
  | some a => exact ⟨a, rfl, h⟩
noncomputable def wRaise0 (st : Stmt) (k : Option Expr → Option Expr → Bool) : Bool := match st with
  | .Raise a b _ => k a b
  | _ => false
theorem wRaise0_inv {st : Stmt} {k : Option Expr → Option Expr → Bool} (h : wRaise0 st k = true) : ∃ a b p, st = .Raise a b p ∧ k a b = true := by cases st <;> first | exact ⟨_, _, _, rfl, h⟩ | exact (Bool.false_ne_true h).elim
noncomputable def wRaise (st : Stmt) (k : Str → Expr → Bool) : Bool := wRaise0 st fun a b => b.isNone && so a (fun e => nameCall e fun x as => l1 as fun a => k x a) false
theorem wRaise_inv {st : Stmt} {k : Str → Expr → Bool} (h : wRaise st k = true) : ∃ x np a cp p, st = .Raise (some (.Call (.Name x np) [a] [] cp)) none p ∧ k x a = true := by
  obtain ⟨a, b, p, rfl, h⟩ := wRaise0_inv h
  obtain ⟨h1, h2⟩ := and2 h
  obtain ⟨e, rfl, h2⟩ := so_inv h2
  obtain ⟨x, np, as, cp, rfl, h3⟩ := nameCall_inv h2
  obtain ⟨a, rfl, h4⟩ := l1_inv h3
  cases b with
  | none => exact ⟨_, _, _, _, _, rfl, h4⟩
  | some _ => cases h1
noncomputable def wTry0 (st : Stmt) (k : List Stmt → List ExceptHandler → List Stmt → List Stmt → Bool) : Bool := match st with
  | .Try a b c d _ => k a b c d
  | _ => false
theorem wTry0_inv {st : Stmt} {k : List Stmt → List ExceptHandler → List Stmt → List Stmt → Bool} (h : wTry0 st k = true) : ∃ a b c d p, st = .Try a b c d p ∧ k a b c d = true := by cases st <;> first | exact ⟨_, _, _, _, _, rfl, h⟩ | exact (Bool.false_ne_true h).elim
noncomputable def wHan (h : ExceptHandler) (k : Option Expr → Option Str → List Stmt → Bool) : Bool := match h with
  | .ExceptHandler t n b _ => k t n b
theorem wHan_inv {h : ExceptHandler} {k : Option Expr → Option Str → List Stmt → Bool} (e : wHan h k = true) : ∃ t n b p, h = .ExceptHandler t n b p ∧ k t n b = true := by cases h; exact ⟨_, _, _, _, rfl, e⟩
noncomputable def wTry (st : Stmt) (k : Str → Expr → Str → Expr → Bool) : Bool := wTry0 st fun b hs o f => (o.isEmpty && f.isEmpty) && l1 b fun a => wAsg a fun ts v => l1 ts fun t => vName t fun x => l1 hs fun hd => wHan hd fun t n bd => n.isNone && so t (fun t => vName t fun c => l1 bd fun r => wRet r fun e => so e (fun e => k x v c e) false) false
theorem wTry_inv {st : Stmt} {k : Str → Expr → Str → Expr → Bool} (h : wTry st k = true) : ∃ x px v ap c cp e rp hp p, st = .Try [.Assign [.Name x px] v ap] [.ExceptHandler (some (.Name c cp)) none [.Return (some e) rp] hp] [] [] p ∧ k x v c e = true := by
  obtain ⟨b, hs, o, f, p, rfl, h⟩ := wTry0_inv h
  obtain ⟨h1, a1⟩ := and2 h
  obtain ⟨h3, h4⟩ := and2 h1
  obtain ⟨a, rfl, a2⟩ := l1_inv a1
  obtain ⟨ts, v, ap, rfl, a3⟩ := wAsg_inv a2
  obtain ⟨t, rfl, a4⟩ := l1_inv a3
  obtain ⟨x, px, rfl, a5⟩ := vName_inv a4
  obtain ⟨hd, rfl, a6⟩ := l1_inv a5
  obtain ⟨t, n, bd, hp, rfl, a7⟩ := wHan_inv a6
  obtain ⟨h5, a8⟩ := and2 a7
  obtain ⟨t, rfl, a9⟩ := so_inv a8
  obtain ⟨c, cp, rfl, b1⟩ := vName_inv a9
  obtain ⟨r, rfl, b2⟩ := l1_inv b1
  obtain ⟨e, rp, rfl, b3⟩ := wRet_inv b2
  obtain ⟨e, rfl, h2⟩ := so_inv b3
  rw [nil_of h3, nil_of h4]
  cases n with
  | none => exact ⟨_, _, _, _, _, _, _, _, _, _, rfl, h2⟩
  | some _ => cases h5

mutual
noncomputable def chkS (T : Tbl) : MS → Scope → List (Option Str) → Stmt → Bool
  | .assign i m, sc, nm, st => wAsg st fun ts v => l1 ts fun t => vName t fun x => nm[i]? == some (some x) && chkE T m sc nm v
  | .setSub o i m, sc, nm, st => wAsg st fun ts v => l1 ts fun t => vSub t fun a b => !isComp v && (chkE T m sc nm v && (chkE T o sc nm a && chkE T i sc nm b))
  | .expr m, sc, nm, st => wExpr st fun v => !isComp v && chkE T m sc nm v
  | .ite c t e, sc, nm, st => wIf st fun d a b => chkE T c sc nm d && (chkSs T t sc nm a && chkSs T e sc nm b)
  | .for_ i m b, sc, nm, st => wFor st fun tg it bd o => o.isEmpty && (chkSs T b sc nm bd && (chkE T m sc nm it && vName tg fun x => nm[i]? == some (some x)))
  | .forR i a c b, sc, nm, st => wFor st fun tg it bd o => o.isEmpty && (chkSs T b sc nm bd && ((vName tg fun x => nm[i]? == some (some x)) && nameCall it fun y as => isGlob sc y && (y == ("range" : Str) &&
      ((l1 as fun q => isZeroM a && chkE T c sc nm q) || l2 as fun p q => chkE T a sc nm p && chkE T c sc nm q))))
  | .while_ c b, sc, nm, st => wWhile st fun d bd o => o.isEmpty && (chkE T c sc nm d && chkSs T b sc nm bd)
  | .ret m, sc, nm, st => wRet st fun v => so v (fun e => chkE T m sc nm e) false
  | .setAttr C i x m, sc, nm, st => wAsg st fun ts v => l1 ts fun t => vAttr t fun o y _ => (y == x && T.ats.contains (C, x)) && (!isComp v && (chkE T m sc nm v && vName o fun z => !(z == ("__debug__" : Str)) && nm[i]? == some (some z)))
  | .raise_, _, _, _ => true
  | .retN, _, _, st => wRet st fun v => v.isNone
  | .setD o i m, sc, nm, st => wAsg st fun ts v => l1 ts fun t => vSub t fun a b => !isComp v && (chkE T m sc nm v && (chkE T o sc nm a && chkE T i sc nm b))
  | .raiseS C m, sc, nm, st => wRaise st fun x a => isGlob sc x && (T.exs.lookup x == some C && chkE T m sc nm a)
  | .tryS i C x f j as K h, sc, nm, st => wTry st fun y v c e => (nm[i]? == some (some y) && chkE T (.callm C x f j as) sc nm v) && (isGlob sc c && (T.exs.lookup c == some K && chkE { T with q := true } h sc nm e))
noncomputable def chkSs (T : Tbl) : MSs → Scope → List (Option Str) → List Stmt → Bool
  | .nil, _, _, ss => ss.isEmpty
  | .cons m ms, sc, nm, ss => match ss with
    | s :: r => chkS T m sc nm s && chkSs T ms sc nm r
    | [] => false
end

noncomputable def SP (cx : Cx) (fm : Fm) (s : Shared) (H : HP) (N : List V → HP → Prop) (R : V → HP → Prop) : Flow → Shared → Prop := fun f s' =>
  ∃ H' μ', SR cx fm H' μ' s' ∧ Kept fm.own s H s' H' ∧ (match f with | .next => N μ' H' | .ret v => R (abs v) H' | _ => False)
noncomputable def XM (cx : Cx) (fm : Fm) (R : V → HP → Prop) (E : Value → Shared → Prop) (s : Shared) (H : HP) : Prop := ∀ (e C T : Addr) (H' : HP) (μ' : List V) (s' : Shared), SR cx fm H' μ' s' → Kept fm.own s H s' H' → ExcIn cx.base s H H' s'.heap e C T → ¬ fm.own e → ¬ fm.own T → R (.exc C) H' → E (.ref e) s'
theorem XM.from {cx : Cx} {fm : Fm} {R : V → HP → Prop} {E : Value → Shared → Prop} {s s₁ : Shared} {H H₁ : HP} (X : XM cx fm R E s H) (k : Kept fm.own s H s₁ H₁) : XM cx fm R E s₁ H₁ := fun e C T H' μ' s' S' k' x n1 n2 r =>
  X e C T H' μ' s' S' (k.trans k') ⟨fun o q q2 => (let ⟨o', e1, _⟩ := k.keep e o q q2 n1; x.e0 o' e1 (k.dom e o q q2 n1)), fun o q q2 => (let ⟨o', e1, _⟩ := k.keep T o q q2 n2; x.t0 o' e1 (k.dom T o q q2 n2)), x.e1, x.t1, x.e2, x.t2, x.at_⟩ n1 n2 r
theorem XM.quiet {cx : Cx} {fm : Fm} {R : V → HP → Prop} {E : Value → Shared → Prop} {s : Shared} {H : HP} : XM cx fm (nx R) E s H := fun _ _ _ _ _ _ _ _ _ _ _ r => r.elim
noncomputable def JS (cx : Cx) (A : Around) (n : Nat) (m : MS) (fm : Fm) (st : Stmt) : Prop := ∀ (E : Value → Shared → Prop) (H : HP) (μ : List V) (s : Shared) (N : List V → HP → Prop) (R : V → HP → Prop),
  SR cx fm H μ s → XM cx fm R E s H → mwpS cx n m μ H N R → wpAny (model cx.prog cx.w) A (exec st fm.env) (SP cx fm s H N R) E s
noncomputable def JSs (cx : Cx) (A : Around) (n : Nat) (m : MSs) (fm : Fm) (ss : List Stmt) : Prop := ∀ (E : Value → Shared → Prop) (H : HP) (μ : List V) (s : Shared) (N : List V → HP → Prop) (R : V → HP → Prop),
  SR cx fm H μ s → XM cx fm R E s H → mwpSs cx n m μ H N R → wpAny (model cx.prog cx.w) A (execs ss fm.env) (SP cx fm s H N R) E s

section
variable {cx : Cx} {T : Tbl} {A : Around} {E : Value → Shared → Prop} {n : Nat} {fm : Fm}

theorem sp_from {s s₁ : Shared} {H H₁ : HP} {N : List V → HP → Prop} {R : V → HP → Prop} {M : Model} {t : Sem Flow} (k : Kept fm.own s H s₁ H₁) (h : wpAny M A t (SP cx fm s₁ H₁ N R) E s₁) : wpAny M A t (SP cx fm s H N R) E s₁ :=
  wpAny_mono h (fun _ _ ⟨H', μ', a, b, c⟩ => ⟨H', μ', a, k.trans b, c⟩) fun _ _ e => e
theorem swaps_of {v : Expr} (h : isComp v = false) (hk : kindOK v = true) (t : Option Expr) (l : Nat) (env : Env) : swapsWith v t l env = pure false := by
  cases v <;> first | rfl | exact (Bool.false_ne_true hk).elim | exact (Bool.false_ne_true h.symm).elim
theorem swaps_comp (elt : Expr) (gens : List Comprehension) (scope : Scope) (p : Pos) (x : Str) (px : Pos) (l : Nat) (env : Env) : ∃ b, swapsWith (.ListComp elt gens scope p) (some (.Name x px)) l env = pure b := ⟨_, rfl⟩

theorem s_plain (W : fm.OK cx A) {m : ME} {v : Expr} {x : Str} {i : Nat} {px p : Pos} (hi : fm.names[i]? = some (some x)) (iv : JE cx A n m fm v) (hs : swapsWith v (some (.Name x px)) p.line fm.env = pure false) : JS cx A n (.assign i m) fm (.Assign [.Name x px] v p) := by
  intro E H μ s N R S X h
  refine wpAny_Assign_Name (ep_then (iv E H μ s _ S h) fun y s₁ H₁ S₁ k₁ h₁ => store_loc W (S.step S₁ k₁) hi fun s₂ S₂ k₂ => ?_) hs
  exact ⟨H₁, _, S₂, (k₁.any _).trans k₂, h₁⟩
theorem s_swap (W : fm.OK cx A) {m : ME} {elt : Expr} {gens : List Comprehension} {scope : Scope} {vp : Pos} {x : Str} {i : Nat} {px p : Pos} (hi : fm.names[i]? = some (some x)) (ic : JC cx A n m fm (.ListComp elt gens scope vp))
    (hs : swapsWith (.ListComp elt gens scope vp) (some (.Name x px)) p.line fm.env = pure true) : JS cx A n (.assign i m) fm (.Assign [.Name x px] (.ListComp elt gens scope vp) p) := by
  intro E H μ s N R S X h
  rw [exec_Assign_Name_used _ _ _ _ hs]
  refine wpAny_bind (wpAny_standAt (wpAny_bind ?_))
  show wpAny _ A (do let _ ← comprehension (.ListComp elt gens scope vp) scope fm.env _ (newList []) (firstAsync gens) (firstIter gens fm.env) (some (assign (.Name x px) fm.env))) _ _ s
  refine wpAny_bind (wpAny_mono (ic _ H μ s _ _ _ (fun _ s' => SP cx fm s H N R .next s') elt gens scope vp rfl S h ?_) (fun _ s' hq => wpAny_pure (wpAny_pure hq)) fun _ _ e => e)
  intro D Ca s' H' S' k hQ hCa hbase hf hns
  show wpAny _ A (assign (.Name x px) fm.env (.ref D)) _ _ _
  refine wpAny_assign_Name (store_loc W (S.step S' k) hi fun s₂ S₂ k₂ => ?_)
  have hown : ¬ fm.own Ca := fun q => by rw [W.above Ca q] at hbase; exact absurd (S.fr.live Ca q) (by
    rintro ⟨o, e⟩
    cases e2 : H Ca with
    | none => exact hf o e e2
    | some oo => exact S.own Ca oo e2 q)
  obtain ⟨m, hm⟩ := hns
  have hm₂ : s₂.heap.Ns Ca m := Ns.so hm fun o e => k₂.keep Ca o e hCa hown
  have hfr : ¬ fm.fr Ca := fun ⟨e, he, hff⟩ => by
    obtain ⟨_, L, o, _, _, q1, _, q3, q4, _⟩ := S.ff e he
    rw [hff] at q1; cases q1; exact hf o q4 q3
  refine ⟨m, hm₂, fun h' sb => ?_⟩
  have S₃ : SR cx fm H' (setL μ i (.ref D)) { s₂ with heap := h' } := S₂.aside hCa hown hfr hbase sb.extBut s₂.toks
  have k₃ := (k.any fm.own).trans k₂
  exact ⟨H', _, S₃, ⟨fun b o e hn hw => (let ⟨o', e', so⟩ := k₃.keep b o e hn hw; ⟨o', sb.extBut b o' (fun q => by subst q; exact hf o e hn) e', so⟩), k₃.dom, k₃.os, k₃.gens⟩, hQ⟩
theorem s_asg (W : fm.OK cx A) {m : ME} {v : Expr} {x : Str} {i : Nat} {px p : Pos} (hi : fm.names[i]? = some (some x)) (kv : kindOK v = true) (iv : JJ cx A n m fm v) : JS cx A n (.assign i m) fm (.Assign [.Name x px] v p) := by
  cases hv : isComp v with
  | false => exact s_plain W hi iv.v (swaps_of hv kv _ _ _)
  | true =>
    have ic := iv.c hv
    cases v <;> first | exact (Bool.false_ne_true hv).elim | skip
    rename_i elt gens scope vp
    obtain ⟨b, hb⟩ := swaps_comp elt gens scope vp x px p.line fm.env
    cases b with
    | false => exact s_plain W hi iv.v hb
    | true => exact s_swap W hi ic hb
theorem s_sub {o i m : ME} {a b v : Expr} {sp p : Pos} (hc : isComp v = false) (kv : kindOK v = true) (iv : JE cx A n m fm v) (io : JE cx A n o fm a) (ii : JE cx A n i fm b) : JS cx A n (.setSub o i m) fm (.Assign [.Subscript a b sp] v p) := by
  intro E H μ s N R S X h
  refine wpAny_Assign_Subscript (ep_then (iv E H μ s _ S h) fun vv s₁ H₁ S₁ k₁ h₁ => ep_then (io E H₁ μ s₁ _ (S.step S₁ k₁) h₁) fun ov s₂ H₂ S₂ k₂ h₂ => ?_) (swaps_of hc kv _ _ _)
  have k12 := k₁.trans k₂
  refine ep_then (ii E H₂ μ s₂ _ (S.step S₂ k12) h₂) fun iv s₃ H₃ S₃ k₃ h₃ => wpAny_mono (setSub_ok S₃ h₃) (fun _ s₄ q => ?_) fun _ _ e => e
  obtain ⟨H₄, S₄, k₄, h₄⟩ := q
  have k := k12.trans (k₃.trans k₄)
  exact ⟨H₄, μ, S.step S₄ k, KE.any k _, h₄⟩
theorem s_setDJ {o i m : ME} {a b v : Expr} {sp p : Pos} (hc : isComp v = false) (kv : kindOK v = true) (iv : JE cx A n m fm v) (io : JE cx A n o fm a) (ii : JE cx A n i fm b) : JS cx A n (.setD o i m) fm (.Assign [.Subscript a b sp] v p) := by
  intro E H μ s N R S X h
  refine wpAny_Assign_Subscript (ep_then (iv E H μ s _ S h) fun vv s₁ H₁ S₁ k₁ h₁ => ep_then (io E H₁ μ s₁ _ (S.step S₁ k₁) h₁) fun ov s₂ H₂ S₂ k₂ h₂ => ?_) (swaps_of hc kv _ _ _)
  have k12 := k₁.trans k₂
  refine ep_then (ii E H₂ μ s₂ _ (S.step S₂ k12) h₂) fun iv s₃ H₃ S₃ k₃ h₃ => wpAny_mono (setD_ok S₃ h₃) (fun _ s₄ q => ?_) fun _ _ e => e
  obtain ⟨H₄, S₄, k₄, h₄⟩ := q
  have k := k12.trans (k₃.trans k₄)
  exact ⟨H₄, μ, S.step S₄ k, KE.any k _, h₄⟩
theorem s_exp (W : fm.OK cx A) {m : ME} {v : Expr} {p : Pos} (hc : isComp v = false) (kv : kindOK v = true) (iv : JE cx A n m fm v) : JS cx A n (.expr m) fm (.Expr v p) := by
  intro E H μ s N R S X h
  refine wpAny_Expr_any (ep_then (iv E H μ s _ S h) fun vv s₁ H₁ S₁ k₁ h₁ => ?_) (by unfold interactive; rw [W.kind]; rfl) (swaps_of hc kv _ _ _)
  exact ⟨H₁, μ, S.step S₁ k₁, k₁.any _, h₁⟩
theorem s_retE {m : ME} {v : Expr} {p : Pos} (iv : JE cx A n m fm v) : JS cx A n (.ret m) fm (.Return (some v) p) := by
  intro E H μ s N R S X h
  refine wpAny_Return_some (ep_then (iv E H μ s _ S h) fun vv s₁ H₁ S₁ k₁ h₁ => ?_)
  exact ⟨H₁, μ, S.step S₁ k₁, k₁.any _, h₁⟩
theorem s_retNJ {p : Pos} : JS cx A n .retN fm (.Return none p) := fun E H μ s N R S _ h => wpAny_Return_none ⟨H, μ, S, Kept.refl _ _ _, h⟩
theorem s_attrJ (TO : T.OK cx) (W : fm.OK cx A) {C : Addr} {i : Nat} {x z : Str} {m : ME} {v : Expr} {np ap p : Pos} (ht : T.ats.contains (C, x) = true) (hd : (!(z == ("__debug__" : Str))) = true) (hi : fm.names[i]? = some (some z)) (hc : isComp v = false) (kv : kindOK v = true) (iv : JE cx A n m fm v) :
    JS cx A n (.setAttr C i x m) fm (.Assign [.Attribute (.Name z np) x ap] v p) := by
  intro E H μ s N R S X h
  refine plainObj_wpAny_Assign_Attribute (ep_then (iv E H μ s _ S h) fun vv s₁ H₁ S₁ k₁ h₁ => name_ok W (S.step S₁ k₁) hd hi h₁.1 fun o ho => ?_) (swaps_of hc kv _ _ _)
  refine wpAny_mono (setAttr_ok TO.kin (TO.at_ C x ht) S₁ (by rw [ho]; exact h₁.2)) (fun _ s₂ q => ?_) fun _ _ e => e
  obtain ⟨H₂, S₂, k₂, h₂⟩ := q
  have k := k₁.trans k₂
  exact ⟨H₂, μ, S.step S₂ k, KE.any k _, h₂⟩
theorem ss_nilJ : JSs cx A n .nil fm [] := fun E H μ s N R S _ h => wpAny_execs_nil ⟨H, μ, S, Kept.refl _ _ _, h⟩
theorem ss_consJ {m : MS} {ms : MSs} {st : Stmt} {r : List Stmt} (i : JS cx A n m fm st) (ir : JSs cx A n ms fm r) : JSs cx A n (.cons m ms) fm (st :: r) := by
  intro E H μ s N R S X h
  refine wpAny_execs_cons (wpAny_mono (i E H μ s _ R S X h) (fun f s₁ q => ?_) fun _ _ e => e)
  obtain ⟨H₁, μ₁, S₁, k₁, h₁⟩ := q
  cases f with
  | next => exact sp_from k₁ (ir _ H₁ μ₁ s₁ N R S₁ (X.from k₁) h₁)
  | ret v => exact ⟨H₁, μ₁, S₁, k₁, h₁⟩
  | brk => exact h₁.elim
  | cont => exact h₁.elim
theorem s_if {c : ME} {t e : MSs} {d : Expr} {a b : List Stmt} {p : Pos} (ic : JT cx A n c fm d) (it : JSs cx A n t fm a) (ie : JSs cx A n e fm b) : JS cx A n (.ite c t e) fm (.If d a b p) := by
  intro E H μ s N R S X h
  refine wpAny_If (wpAny_mono (ic E H μ s (fun b' H => (b' = true → mwpSs cx n t μ H N R) ∧ (b' = false → mwpSs cx n e μ H N R)) S h) (fun v s₁ q => ?_) fun _ _ e => e)
  obtain ⟨H₁, S₁, k₁, h₁⟩ := q
  cases v with
  | true => exact sp_from (k₁.any _) (it E H₁ μ s₁ N R (S.step S₁ k₁) (X.from (k₁.any _)) (h₁.1 rfl))
  | false => exact sp_from (k₁.any _) (ie E H₁ μ s₁ N R (S.step S₁ k₁) (X.from (k₁.any _)) (h₁.2 rfl))
theorem s_whileJ {c : ME} {b : MSs} {d : Expr} {bd : List Stmt} {p : Pos} (ic : JT cx A n c fm d) (ib : JSs cx A n b fm bd) : JS cx A n (.while_ c b) fm (.While d bd [] p) := by
  intro E H μ s N R S X h
  obtain ⟨I, ⟨k0, hI⟩, hstep⟩ := h
  refine wpAny_While (codeAny_whileLoop (fun k s' => ∃ μ' H', I k μ' H' ∧ SR cx fm H' μ' s' ∧ Kept fm.own s H s' H') ?_ k0 ⟨μ, H, hI, S, Kept.refl _ _ _⟩)
  rintro k s' ⟨μ', H', hI', S', k'⟩
  refine wpAny_mono (ic _ H' μ' s' (fun b' H₁ => (b' = true → mwpSs cx n b μ' H₁ (fun μ' H' => ∃ H₃, LE H₃ H' ∧ ∃ m, m < k ∧ I m μ' H₃) (nx R)) ∧ (b' = false → N μ' H₁)) S' (hstep k μ' H' hI')) (fun v s₁ q => ?_) fun _ _ e => e
  obtain ⟨H₁, S₁, k₁, h₁⟩ := q
  have kk := k'.trans (k₁.any fm.own)
  cases v with
  | true =>
    refine wpAny_mono (ib _ H₁ μ' s₁ _ (nx R) (S'.step S₁ k₁) .quiet (h₁.1 rfl)) (fun f s₂ q => ?_) fun _ _ e => e
    obtain ⟨H₂, μ₂, S₂, k₂, h₂⟩ := q
    cases f with
    | next =>
      obtain ⟨H₃, le, m, hm, hI3⟩ := h₂
      exact ⟨m, hm, μ₂, H₃, hI3, S₂.le le, (kk.trans k₂).le le⟩
    | ret v => exact ⟨H₂, μ₂, S₂, kk.trans k₂, nx_abs h₂⟩
    | brk => exact h₂.elim
    | cont => exact h₂.elim
  | false => exact wpAny_execs_nil ⟨H₁, μ', S'.step S₁ k₁, kk, h₁.2 rfl⟩

theorem for_loop (hA : AOK A n) {fm : Fm} {H : HP} {μ : List V} {s : Shared} {N : List V → HP → Prop} {R : V → HP → Prop} (W : fm.OK cx A) {x : Str} {px : Pos} {i : Nat} (hi : fm.names[i]? = some (some x)) {body : List Stmt} {b : MSs} (ib : JSs cx A n b fm body)
    {s₁ : Shared} {H₁ : HP} (S₁ : SR cx fm H₁ μ s₁) (k₁ : KE s H s₁ H₁) {it : Addr} {P : Nat → Heap → Prop} {ob : Obj} {items : List V} {st : HP → Prop} (I : ∀ E, Iter cx A E it items st P) (hf : s₁.heap.get? it = none) (hP : P 0 (s₁.heap.push ob))
    (hF : ForP items st μ H₁ (fun x μ H K => mwpSs cx n b (setL μ i x) H K (nx R)) N) :
    codeAny (model cx.prog cx.w) A (.forLoop (.Name x px) (.ref it) body [] fm.env) (fun r s' => match r with | .ok f => SP cx fm s H N R f s' | .error e => cameBackBy (model cx.prog cx.w) A fm.env E e s') { s₁ with heap := s₁.heap.push ob } := by
  obtain ⟨Inv, hI0, hst, hturn, hend⟩ := hF
  have kg : ∀ b o, s₁.heap.get? b = some o → (s₁.heap.push ob).get? b = some o := fun b o e => Heap.get?_push_of_some _ e
  have hown : ¬ fm.own it := fun q => by obtain ⟨o, e⟩ := S₁.fr.live it q; rw [hf] at e; cases e
  have hbase : cx.base.get? it = none := S₁.toHS.base_none hf
  have hfr : ¬ fm.fr it := fun ⟨e, he, hff⟩ => by
    obtain ⟨_, L, o, _, _, q1, _, _, q4, _⟩ := S₁.ff e he
    rw [hff] at q1; cases q1; rw [hf] at q4; cases q4
  refine codeAny_forLoop (fun k s' => ∃ done rest μ' H', items = done ++ rest ∧ k = rest.length ∧ Inv done μ' H' ∧ SR cx fm H' μ' s' ∧ Kept fm.own s H s' H' ∧ P done.length s'.heap ∧ H' it = none) ?_ items.length
    ⟨[], items, μ, H₁, rfl, rfl, hI0, S₁.step (S₁.toHS.grow kg _) (KE.grow kg _), KE.any (k₁.trans (KE.grow kg _)) _, hP, S₁.toHS.none_of hf⟩
  rintro k s' ⟨done, rest, μ', H', hitems, rfl, hInv, S', k', hp, hit⟩
  -- an object that lives at s and is not the abstract heap's is not the iterator
  have nit : ∀ b o, s.heap.get? b = some o → H b = none → b ≠ it := fun b o e hn q => by
    subst q; obtain ⟨o', e', _⟩ := k₁.keep _ o e hn id; rw [e'] at hf; cases hf
  cases rest with
  | nil =>
    rw [List.append_nil] at hitems
    subst hitems
    refine (I _).stop s' H' _ S'.toHS (hst _ _ _ hInv) hp fun h' eb => ?_
    exact wpAny_execs_nil ⟨H', μ', S'.aside hit hown hfr hbase eb s'.toks, ⟨fun b o e hn hw => (let ⟨o', e', so⟩ := k'.keep b o e hn hw; ⟨o', eb b o' (nit b o e hn) e', so⟩), k'.dom, k'.os, k'.gens⟩, hend μ' H' hInv⟩
  | cons v rest =>
    have hv : items[done.length]? = some v := by rw [hitems]; simp
    refine (I _).next s' H' done.length v _ S'.toHS (hst _ _ _ hInv) hp hv fun h₂ tk xv hxa hp₂ sb₂ => ?_
    have S₂ := S'.aside hit hown hfr hbase sb₂.extBut tk
    have k₂ : Kept fm.own s H { s' with heap := h₂, toks := tk } H' := ⟨fun b o e hn hw => (let ⟨o', e', so⟩ := k'.keep b o e hn hw; ⟨o', sb₂.extBut b o' (nit b o e hn) e', so⟩), k'.dom, k'.os, k'.gens⟩
    refine wpAny_assign_Name (store_loc W S₂ hi fun s₃ S₃ k₃ => ?_)
    rw [hxa] at S₃
    obtain ⟨oi, hoi⟩ := (I fun _ _ => False).live _ _ hp₂
    have hp₃ : P (done.length + 1) s₃.heap := (I fun _ _ => False).frame _ _ _ hp₂ fun o e => k₃.same e hit hown ((I fun _ _ => False).nd _ _ _ hp₂ e)
    refine wpAny_mono (ib _ H' (setL μ' i v) s₃ _ (nx R) S₃ .quiet (hturn done v rest μ' H' hitems hInv)) (fun f s₄ q => ?_) fun _ _ e => e
    obtain ⟨H₄, μ₄, S₄, k₄, h₄⟩ := q
    have kk := (k₂.trans k₃).trans k₄
    cases f with
    | next =>
      obtain ⟨H₅, le, hI5⟩ := h₄
      have hoi₃ := k₃.same hoi hit hown ((I fun _ _ => False).nd _ _ _ hp₂ hoi)
      refine ⟨rest.length, Nat.lt_succ_self _, done ++ [v], rest, μ₄, H₅, by rw [hitems]; simp, rfl, hI5, S₄.le le, kk.le le, ?_, ?_⟩
      · rw [List.length_append]
        exact (I fun _ _ => False).frame _ _ _ hp₃ fun o e => k₄.same e hit hown ((I fun _ _ => False).nd _ _ _ hp₃ e)
      · cases e : H₅ it with
        | none => rfl
        | some o =>
          have := k₄.dom it oi hoi₃ hit hown
          rw [le it o e] at this; cases this
    | ret v => exact ⟨H₄, μ₄, S₄, kk, nx_abs h₄⟩
    | brk => exact h₄.elim
    | cont => exact h₄.elim

theorem s_forJ (C : cx.OK) (hA : AOK A n) (W : fm.OK cx A) {i : Nat} {m : ME} {b : MSs} {x : Str} {px p : Pos} {it : Expr} {bd : List Stmt} (hi : fm.names[i]? = some (some x)) (ki : kindOK it = true) (ii : JE cx A n m fm it) (ib : JSs cx A n b fm bd) :
    JS cx A n (.for_ i m b) fm (.For (.Name x px) it bd [] p) := by
  intro E H μ s N R S X h
  refine wpAny_For (wpAny_mono (it_val (K := fun items st H₁ => ForP items st μ H₁ (fun x μ H K => mwpSs cx n b (setL μ i x) H K (nx R)) N) C hA S ii h) (fun xv s₁ hx => wpAny_mono hx (fun itv s₂ hy => ?_) fun _ _ e => e) fun _ _ e => e) (folded_of ki fm.env)
  obtain ⟨ita, P, ob, s₃, H₁, items, st, rfl, S₁, k₁, rfl, hf, I, hP, hk⟩ := hy
  exact for_loop hA W hi ib (S.step S₁ k₁) k₁ I hf hP hk
theorem s_forRJ (C : cx.OK) (TO : T.OK cx) (hA : AOK A n) (W : fm.OK cx A) {i : Nat} {a c : ME} {b : MSs} {x : Str} {px np ip p : Pos} {as : List Expr} {bd : List Stmt} (hi : fm.names[i]? = some (some x)) (hg : isGlob fm.env.scope "range" = true) (ha : RngArgs cx A n fm a c as) (ib : JSs cx A n b fm bd) :
    JS cx A n (.forR i a c b) fm (.For (.Name x px) (.Call (.Name "range" np) as [] ip) bd [] p) := by
  intro E H μ s N R S X h
  refine wpAny_For (wpAny_mono (it_rng (K := fun items st H₁ => ForP items st μ H₁ (fun x μ H K => mwpSs cx n b (setL μ i x) H K (nx R)) N) C TO hA W S hg ha h) (fun xv s₁ hx => wpAny_mono hx (fun itv s₂ hy => ?_) fun _ _ e => e) fun _ _ e => e) (folded_of rfl fm.env)
  obtain ⟨ita, P, ob, s₃, H₁, items, st, rfl, S₁, k₁, rfl, hf, I, hP, hk⟩ := hy
  exact for_loop hA W hi ib (S.step S₁ k₁) k₁ I hf hP hk

theorem s_raiseJ (C : cx.OK) (TO : T.OK cx) (hA : AOK A n) (W : fm.OK cx A) {D : Addr} {m : ME} {x : Str} {np cp p : Pos} {a : Expr} (hx : isGlob fm.env.scope x = true) (ht : T.exs.lookup x = some D) (ka : kindOK a = true) (ia : JE cx A n m fm a) :
    JS cx A n (.raiseS D m) fm (.Raise (some (.Call (.Name x np) [a] [] cp)) none p) := by
  intro E H μ s N R S X h
  obtain ⟨hg, hC⟩ := TO.ex x D ht
  obtain ⟨bm, N', nm, q, bs, hdct, sn, sub, ab, col, dd, k0, k1, k2, k3, k5, mN, hD, hN, hq, Tl⟩ := hC.obj
  refine wpAny_Raise_call_subT (C := D) (nm := nm) (q := q) (N := N') (bs := bs) (bm := bm) (hdct := hdct) (sn := sn) (sub := sub) (ab := ab) (col := col) (dd := dd) (k0 := k0) (k1 := k1) (k2 := k2) (k3 := k3) (k5 := k5)
    PySem.F.excBase_ValueError (mN := mN) (Tl.tail.hasType rfl) hA.handled (by rw [starEach_of ka]; rfl) (hq _ (.head _)) (glob_name C W S.toHS hx hg ⟨rfl, ?_⟩)
  rw [starEach_of ka]
  refine Calls.evalArgs_plain (Calls.spliced_cons (ep_then (ia E H μ s _ S h) fun v s₁ H₁ S₁ k₁ h₁ => Calls.spliced_nil ⟨rfl, by simp [sizeLine_eq], S₁.ext _ _ hD, hN.keeps S₁.ext, Tl.tail.keeps S₁.ext, fun h' e hm => ?_⟩))
  have kg := k₁.trans (KE.grow hm.keeps s₁.toks)
  have S' := S.step (S₁.grow hm.keeps s₁.toks) kg
  obtain ⟨t, h1, _, _⟩ := hm.there
  have ne : ∀ o, s.heap.get? e = some o → H e = none → False := fun o q q2 => by
    obtain ⟨o', q3, _⟩ := k₁.keep e o q q2 id
    rw [hm.new] at q3; cases q3
  have no : ¬ fm.own e := fun q => by
    obtain ⟨o, q2⟩ := (S.step S₁ k₁).fr.live e q
    rw [hm.new] at q2; cases q2
  exact X e D e H₁ μ _ S' (KE.any kg _) ⟨ne, ne, S₁.none_of hm.new, S₁.none_of hm.new, S₁.base_none hm.new, S₁.base_none hm.new, _, _, _, h1, rfl, rfl, rfl, .inl ⟨rfl, rfl⟩⟩ no no h₁
theorem s_tryJ (C : cx.OK) (TO : T.OK cx) (hA : AOK A n) (W : fm.OK cx A) (htop : ∃ o, fm.l = fm.env :: o) {i j : Nat} {D f K : Addr} {ms : MEs} {hm : ME} {y x z c : Str} {px np ap p vp cp rp hp tp : Pos} {as : List Expr} {e : Expr}
    (hi : fm.names[i]? = some (some y)) (hpp : (ap.endLine == p.line) = true) (ht : T.mts.contains (D, x, f) = true) (hd : (!(z == ("__debug__" : Str))) = true) (hj : fm.names[j]? = some (some z)) (hl : as.length < 20) (hk : ∀ a ∈ as, kindOK a = true) (hc : chkEs T ms fm.env.scope fm.names as = true) (ia : JL cx A n ms fm as)
    (hx : isGlob fm.env.scope c = true) (hK : T.exs.lookup c = some K) (ih : ∀ A', AOK0 A' n → fm.OK cx A' → JE cx A' n hm fm e) :
    JS cx A n (.tryS i D x f j ms K hm) fm (.Try [.Assign [.Name y px] (.Call (.Attribute (.Name z np) x ap) as [] p) vp] [.ExceptHandler (some (.Name c cp)) none [.Return (some e) rp] hp] [] [] tp) := by
  intro E H μ s N R S X h
  obtain ⟨hg, hC⟩ := TO.ex c K hK
  obtain ⟨outer, ho⟩ := htop
  refine wpAny_Try_except (wpAny_execs_cons (wpAny_Assign_Name (callm_any TO W hpp ht hd hj hl hk hc ia S h.1 h.2.1 h.2.2 fun v vs s₁ H₁ hv S₁ k₁ h₁ => ?_) (swaps_of rfl rfl _ _ _)))
  refine wpAny_call (codeAny_mono (h₁ A s₁ ([v] ++ vs) hA.toACall S₁ ((S.step S₁ k₁).frs W) (by rw [← hv]; rfl)) fun r s₂ hr => ?_)
  rcases hr with ⟨u, H₂, rfl, S₂, k₂, h₂⟩ | ⟨ex, Cx', T', H₂, rfl, S₂, k₂, x₂, hT, h₂⟩
  · have h₂' : N (setL μ i (abs u)) H₂ := by cases u <;> exact h₂
    have k := k₁.trans k₂
    refine store_loc W (S.step S₂ k) hi fun s₃ S₃ k₃ => wpAny_execs_nil (wpAny_execs_nil ⟨H₂, _, S₃, (KE.any k _).trans k₃, h₂'⟩)
  · obtain ⟨rfl, h₂⟩ := h₂
    have k := k₁.trans k₂
    have S₂' := S.step S₂ k
    have ne : ∀ a o, (∀ o, s₁.heap.get? a = some o → H₁ a = none → False) → s.heap.get? a = some o → H a = none → False := fun a o q q1 q2 => by
      obtain ⟨o', q3, _⟩ := k₁.keep a o q1 q2 id
      exact q o' q3 (k₁.dom a o q1 q2 id)
    have x₃ : ExcIn cx.base s H H₂ s₂.heap ex Cx' T' := ⟨fun o => ne ex o x₂.e0, fun o => ne T' o x₂.t0, x₂.e1, x₂.t1, x₂.e2, x₂.t2, x₂.at_⟩
    obtain ⟨_, L, _, _, _, hf, _⟩ := S.ff fm.env (by rw [ho]; exact List.mem_cons_self)
    have ff := S₂'.ff
    rw [ho] at ff
    have hfr := W.frames
    rw [ho] at hfr
    have A0 : AOK0 (A.mark (some (.ref ex))) n := ⟨⟨hA.depth, hA.units, hA.frames⟩, hA.top⟩
    have W' : fm.OK cx (A.mark (some (.ref ex))) := ⟨W.frames, W.kind, W.globals, W.builtins, W.cellsNe, W.cellsInj, W.inj, W.above, W.cellAt⟩
    refine catch_ok hfr hf k S₂ ff x₃ hT hC (fun E' s' Q' S' q => glob_name C W' S' hx hg q) fun E' h₅ S₅ k₅ => ?_
    refine wpAny_execs_cons (wpAny_Return_some (ep_then (ih _ A0 W' E' H₂ μ _ _ (S.step S₅ k₅) h₂) fun vv s₆ H₆ S₆ k₆ h₆ => ?_))
    have k' := k₅.trans k₆
    exact ⟨H₆, μ, S.step S₆ k', KE.any k' _, h₆⟩
theorem Tbl.OK.qt {T : Tbl} (h : T.OK cx) : Tbl.OK cx { T with q := true } := ⟨h.fn, h.bf, h.ty, h.isi, h.rng, h.kin, h.at_, h.mt, h.mkc, h.gi, h.ex⟩
mutual
theorem sS (C : cx.OK) (TO : T.OK cx) (hA : AOK A n) (W : fm.OK cx A) (htop : ∃ o, fm.l = fm.env :: o) : ∀ (m : MS) (st : Stmt), chkS T m fm.env.scope fm.names st = true → JS cx A n m fm st
  | .assign i m, st, h => by
    obtain ⟨ts, v, p, rfl, h1⟩ := wAsg_inv h
    obtain ⟨t, rfl, h2⟩ := l1_inv h1
    obtain ⟨x, px, rfl, h3⟩ := vName_inv h2
    obtain ⟨h4, h5⟩ := and2 h3
    exact s_asg W (eq_of_beq h4) (sE C TO hA.toAOK0 (fun _ => hA.handled) m fm v W h5).k (sE C TO hA.toAOK0 (fun _ => hA.handled) m fm v W h5)
  | .setSub o i m, st, h => by
    obtain ⟨ts, v, p, rfl, h1⟩ := wAsg_inv h
    obtain ⟨t, rfl, h2⟩ := l1_inv h1
    obtain ⟨a, b, sp, rfl, h3⟩ := vSub_inv h2
    obtain ⟨h4, h5⟩ := and2 h3
    obtain ⟨h6, h7⟩ := and2 h5
    obtain ⟨h8, h9⟩ := and2 h7
    exact s_sub (notB h4) (sE C TO hA.toAOK0 (fun _ => hA.handled) m fm v W h6).k (sE C TO hA.toAOK0 (fun _ => hA.handled) m fm v W h6).v (sE C TO hA.toAOK0 (fun _ => hA.handled) o fm a W h8).v (sE C TO hA.toAOK0 (fun _ => hA.handled) i fm b W h9).v
  | .expr m, st, h => by
    obtain ⟨v, p, rfl, h1⟩ := wExpr_inv h
    obtain ⟨h2, h3⟩ := and2 h1
    exact s_exp W (notB h2) (sE C TO hA.toAOK0 (fun _ => hA.handled) m fm v W h3).k (sE C TO hA.toAOK0 (fun _ => hA.handled) m fm v W h3).v
  | .ite c t e, st, h => by
    obtain ⟨d, a, b, p, rfl, h1⟩ := wIf_inv h
    obtain ⟨h2, h3⟩ := and2 h1
    obtain ⟨h4, h5⟩ := and2 h3
    exact s_if (sE C TO hA.toAOK0 (fun _ => hA.handled) c fm d W h2).t (sSs C TO hA W htop t a h4) (sSs C TO hA W htop e b h5)
  | .for_ i m b, st, h => by
    obtain ⟨tg, it, bd, o, p, rfl, h1⟩ := wFor_inv h
    obtain ⟨h2, h3⟩ := and2 h1
    obtain ⟨h4, h5⟩ := and2 h3
    obtain ⟨h6, h7⟩ := and2 h5
    obtain ⟨x, px, rfl, h8⟩ := vName_inv h7
    rw [nil_of h2]
    exact s_forJ C hA W (eq_of_beq h8) (sE C TO hA.toAOK0 (fun _ => hA.handled) m fm it W h6).k (sE C TO hA.toAOK0 (fun _ => hA.handled) m fm it W h6).v (sSs C TO hA W htop b bd h4)
  | .forR i a c b, st, h => by
    obtain ⟨tg, it, bd, o, p, rfl, h1⟩ := wFor_inv h
    obtain ⟨h2, h3⟩ := and2 h1
    obtain ⟨h4, h5⟩ := and2 h3
    obtain ⟨h6, h7⟩ := and2 h5
    obtain ⟨x, px, rfl, h8⟩ := vName_inv h6
    obtain ⟨y, np, as, ip, rfl, h9⟩ := nameCall_inv h7
    obtain ⟨h10, h11⟩ := and2 h9
    obtain ⟨h12, h13⟩ := and2 h11
    have := eq_of_beq h12; subst this
    rw [nil_of h2]
    exact s_forRJ C TO hA W (eq_of_beq h8) h10 (rng_of h13 (fun e he => sE C TO hA.toAOK0 (fun _ => hA.handled) a fm e W he) fun e he => sE C TO hA.toAOK0 (fun _ => hA.handled) c fm e W he) (sSs C TO hA W htop b bd h4)
  | .while_ c b, st, h => by
    obtain ⟨d, bd, o, p, rfl, h1⟩ := wWhile_inv h
    obtain ⟨h2, h3⟩ := and2 h1
    obtain ⟨h4, h5⟩ := and2 h3
    rw [nil_of h2]
    exact s_whileJ (sE C TO hA.toAOK0 (fun _ => hA.handled) c fm d W h4).t (sSs C TO hA W htop b bd h5)
  | .ret m, st, h => by
    obtain ⟨v, p, rfl, h1⟩ := wRet_inv h
    cases v with
    | none => cases h1
    | some v => exact s_retE (sE C TO hA.toAOK0 (fun _ => hA.handled) m fm v W h1).v
  | .setAttr Cc i x m, st, h => by
    obtain ⟨ts, v, p, rfl, h1⟩ := wAsg_inv h
    obtain ⟨t, rfl, h2⟩ := l1_inv h1
    obtain ⟨o, y, ap, rfl, h3⟩ := vAttr_inv h2
    obtain ⟨h4, h5⟩ := and2 h3
    obtain ⟨h6, h7⟩ := and2 h4
    obtain ⟨h8, h9⟩ := and2 h5
    obtain ⟨h10, h11⟩ := and2 h9
    obtain ⟨z, np, rfl, h12⟩ := vName_inv h11
    obtain ⟨a1, a2⟩ := and2 h12
    rw [eq_of_beq h6]
    exact s_attrJ TO W h7 a1 (eq_of_beq a2) (notB h8) (sE C TO hA.toAOK0 (fun _ => hA.handled) m fm v W h10).k (sE C TO hA.toAOK0 (fun _ => hA.handled) m fm v W h10).v
  | .raise_, st, h => fun E H μ s N R S _ h => False.elim h
  | .retN, st, h => by
    obtain ⟨v, p, rfl, h1⟩ := wRet_inv h
    cases v with
    | none => exact s_retNJ
    | some v => cases h1
  | .setD o i m, st, h => by
    obtain ⟨ts, v, p, rfl, h1⟩ := wAsg_inv h
    obtain ⟨t, rfl, h2⟩ := l1_inv h1
    obtain ⟨a, b, sp, rfl, h3⟩ := vSub_inv h2
    obtain ⟨h4, h5⟩ := and2 h3
    obtain ⟨h6, h7⟩ := and2 h5
    obtain ⟨h8, h9⟩ := and2 h7
    exact s_setDJ (notB h4) (sE C TO hA.toAOK0 (fun _ => hA.handled) m fm v W h6).k (sE C TO hA.toAOK0 (fun _ => hA.handled) m fm v W h6).v (sE C TO hA.toAOK0 (fun _ => hA.handled) o fm a W h8).v (sE C TO hA.toAOK0 (fun _ => hA.handled) i fm b W h9).v
  | .raiseS D m, st, h => by
    obtain ⟨x, np, a, cp, p, rfl, h1⟩ := wRaise_inv h
    obtain ⟨h2, h3⟩ := and2 h1
    obtain ⟨h3, h4⟩ := and2 h3
    exact s_raiseJ C TO hA W h2 (eq_of_beq h3) (sE C TO hA.toAOK0 (fun _ => hA.handled) m fm a W h4).k (sE C TO hA.toAOK0 (fun _ => hA.handled) m fm a W h4).v
  | .tryS i D x f j ms K hm, st, h => by
    obtain ⟨y, px, v, vp, c, cp, e, rp, hp, tp, rfl, h1⟩ := wTry_inv h
    obtain ⟨h2', h3⟩ := and2 h1
    obtain ⟨h2, h4⟩ := and2 h2'
    obtain ⟨h5, h6'⟩ := and2 h3
    obtain ⟨h6, h7'⟩ := and2 h6'
    obtain ⟨_, h4⟩ := and2 h4
    obtain ⟨g, as, ks, p, rfl, i1⟩ := vCall_inv h4
    obtain ⟨i2, i3⟩ := and2 i1
    obtain ⟨o, y', ap, rfl, i4⟩ := vAttr_inv i3
    obtain ⟨a4, a5⟩ := and2 i4
    obtain ⟨a6, a7⟩ := and2 a4
    obtain ⟨b5, b8⟩ := and2 a5
    obtain ⟨c8, c9⟩ := and2 b8
    obtain ⟨z, np, rfl, d1⟩ := vName_inv c8
    obtain ⟨d2, d3⟩ := and2 d1
    obtain ⟨e1, e2⟩ := and2 c9
    rw [nil_of i2, eq_of_beq a7]
    have ii := sEs C TO hA.toAOK0 (fun _ => hA.handled) ms fm as W e2
    exact s_tryJ C TO hA W htop (eq_of_beq h2) a6 b5 d2 (eq_of_beq d3) (of_decide_eq_true e1) ii.ks e2 ii.l h5 (eq_of_beq h6) fun A' A0 W' => (sE C (Tbl.OK.qt TO) A0 (fun q => (Bool.false_ne_true q.symm).elim) hm fm e W' h7').v
theorem sSs (C : cx.OK) (TO : T.OK cx) (hA : AOK A n) (W : fm.OK cx A) (htop : ∃ o, fm.l = fm.env :: o) : ∀ (ms : MSs) (ss : List Stmt), chkSs T ms fm.env.scope fm.names ss = true → JSs cx A n ms fm ss
  | .nil, ss, h => by
    have := nil_of h; subst this; exact ss_nilJ
  | .cons m ms, [], h => (Bool.false_ne_true h).elim
  | .cons m ms, st :: r, h => by
    obtain ⟨h1, h2⟩ := and2 h
    exact ss_consJ (sS C TO hA W htop m st h1) (sSs C TO hA W htop ms r h2)
end
end
end Mine
end

section
namespace Mine
open PySem PyProof.Rows PySem.SeqAt

section
variable {cx : Cx} {T : Tbl} {A : Around} {E : Value → Shared → Prop} {n : Nat}

theorem cells_mem {x : Str} : ∀ (names : List (Str × NameKind)) (k : Nat) (acc : List (Str × Addr)), ((x, NameKind.cell) ∈ names ∨ ∃ c, (x, c) ∈ acc) → ∃ c, (x, c) ∈ cellsFrom k names acc
  | [], _, _, h => h.elim (fun q => nomatch q) id
  | (y, kd) :: r, k, acc, h => by
    unfold cellsFrom
    split
    · rename_i hk
      refine cells_mem r _ _ ?_
      rcases h with h | ⟨c, h⟩
      · rcases List.mem_cons.mp h with q | h
        · cases q; exact .inr ⟨k, List.mem_cons_self⟩
        · exact .inl h
      · exact .inr ⟨c, List.mem_cons_of_mem _ h⟩
    · rename_i hk
      refine cells_mem r _ _ ?_
      rcases h with h | h
      · rcases List.mem_cons.mp h with q | h
        · cases q; simp at hk
        · exact .inl h
      · exact .inr h

theorem pairwise_inj {l : List (Str × Addr)} (h : l.Pairwise fun x y => x.2 ≠ y.2) {x y : Str} {c : Addr} (hx : (x, c) ∈ l) (hy : (y, c) ∈ l) : x = y := by
  induction l with
  | nil => cases hx
  | cons p l ih =>
    rw [List.pairwise_cons] at h
    rcases List.mem_cons.mp hx with e | hx'
    · rcases List.mem_cons.mp hy with e' | hy'
      · rw [← e] at e'; cases e'; rfl
      · exact absurd (show p.2 = c from by rw [← e]) (h.1 (y, c) hy')
    · rcases List.mem_cons.mp hy with e' | hy'
      · exact absurd (show p.2 = c from by rw [← e']) (h.1 (x, c) hx')
      · exact ih h.2 hx' hy'

theorem bindL_other (kd : Str → Option NameKind) {x : Str} : ∀ (b : List (Str × Value)) (m : Str → Option Value), (∀ p ∈ b, p.1 ≠ x) → bindL kd b m x = m x
  | [], _, _ => rfl
  | (y, v) :: r, m, h => by
    unfold bindL
    rw [bindL_other kd r _ (fun p hp => h p (List.mem_cons_of_mem _ hp))]
    have hy : x ≠ y := fun e => h (y, v) List.mem_cons_self e.symm
    split
    · simp [hy]
    · rfl
theorem bindC_other (kd : Str → Option NameKind) {x : Str} : ∀ (b : List (Str × Value)) (m : Str → Option Value), (∀ p ∈ b, p.1 ≠ x) → bindC kd b m x = m x
  | [], _, _ => rfl
  | (y, v) :: r, m, h => by
    unfold bindC
    rw [bindC_other kd r _ (fun p hp => h p (List.mem_cons_of_mem _ hp))]
    have hy : x ≠ y := fun e => h (y, v) List.mem_cons_self e.symm
    split
    · rfl
    · simp [hy]

theorem bind_at (kd : Str → Option NameKind) : ∀ (ps : List Str) (vs : List Value) (m : Str → Option Value) (i : Nat) (x : Str) (v : Value), ps.Nodup → ps[i]? = some x → vs[i]? = some v →
    (kd x = some .local → bindL kd (ps.zip vs) m x = some v) ∧ (kd x ≠ some .local → bindC kd (ps.zip vs) m x = some v)
  | [], _, _, i, x, v, _, h, _ => by simp at h
  | _ :: _, [], _, i, x, v, _, _, h => by simp at h
  | p :: ps, w :: vs, m, 0, x, v, hn, h1, h2 => by
    simp at h1 h2
    subst h1; subst h2
    rw [List.nodup_cons] at hn
    have ho : ∀ q ∈ ps.zip vs, q.1 ≠ p := fun q hq e => hn.1 (e ▸ (List.of_mem_zip hq).1)
    refine ⟨fun hk => ?_, fun hk => ?_⟩
    · show bindL kd ((p, w) :: ps.zip vs) m p = some w
      unfold bindL; rw [if_pos hk, bindL_other kd _ _ ho]; simp
    · show bindC kd ((p, w) :: ps.zip vs) m p = some w
      unfold bindC; rw [if_neg hk, bindC_other kd _ _ ho]; simp
  | p :: ps, w :: vs, m, i + 1, x, v, hn, h1, h2 => by
    rw [List.nodup_cons] at hn
    rw [List.getElem?_cons_succ] at h1 h2
    have hL := fun m => (bind_at kd ps vs m i x v hn.2 h1 h2).1
    have hC := fun m => (bind_at kd ps vs m i x v hn.2 h1 h2).2
    refine ⟨fun hk => ?_, fun hk => ?_⟩
    · show bindL kd ((p, w) :: ps.zip vs) m x = some v
      unfold bindL; exact hL _ hk
    · show bindC kd ((p, w) :: ps.zip vs) m x = some v
      unfold bindC; exact hC _ hk

theorem getL_args {args : List V} : ∀ {i : Nat} {a : V} (r : List V), args[i]? = some a → getL (args ++ r) i = a := by
  induction args with
  | nil => intro i a r h; simp at h
  | cons x l ih =>
    intro i a r h
    cases i with
    | zero => simpa [getL] using h
    | succ i => exact ih r (by simpa using h)
theorem getL_unb {args : List V} (k : Nat) : ∀ {i : Nat}, args.length ≤ i → getL (args ++ List.replicate k .unb) i = .unb := by
  induction args with
  | nil =>
    intro i _
    simp only [List.nil_append]
    induction k generalizing i with
    | zero => cases i <;> rfl
    | succ k ih => cases i with
      | zero => rfl
      | succ i => exact ih (Nat.zero_le _)
  | cons x l ih =>
    intro i h
    cases i with
    | zero => simp at h
    | succ i => exact ih (by simpa using h)

structure Def (cx : Cx) (f : Addr) (ps : List Str) (body : List Stmt) (scope : Scope) : Prop where
  fd : ∃ o fd, cx.base.get? f = some o ∧ o.data = .func fd ∧ fd.body = .stmts body ∧ fd.scope = scope ∧ fd.globals = mainGlobals ∧ fd.builtins = builtinsNs ∧ fd.closure = [] ∧ cx.base.CodeRec fd.code fd.qualname ∧
    ∀ vs : List Value, vs.length = ps.length → bindArgs fd ⟨vs, []⟩ = pure (ps.zip vs)
  kind : scope.kind = .function
  co : scope.isCoroutine = false
  gen : scope.isGenerator = false

noncomputable def namesFit (scope : Scope) (nm : List Str) : Bool := nm.all fun x => scope.names.lookup x == some .local || scope.names.lookup x == some .cell

theorem none_le {H H' : HP} (le : LE H H') {a : Addr} (h : H' a = none) : H a = none := by
  cases q : H a with
  | none => rfl
  | some o => rw [le a o q] at h; cases h
theorem call_introX (C : cx.OK) (TO : T.OK cx) {f : Addr} {ps rest : List Str} {body : List Stmt} {scope : Scope} (D : Def cx f ps body scope) {ms : MSs} (hnd : (ps ++ rest).Nodup) (hfit : namesFit scope (ps ++ rest) = true)
    (hcomp : chkSs T ms scope ((ps ++ rest).map some) body = true) {args : List V} (hlen : args.length = ps.length) {H : HP} {Q : V → HP → Prop}
    (h : mwpSs cx n ms (args ++ List.replicate rest.length .unb) H (fun _ H' => ∃ H₂, LE H₂ H' ∧ Q .none H₂) (fun v H' => ∃ H₂, LE H₂ H' ∧ Q v H₂)) : CallX cx (n + 1) f args H Q := by
  intro A s vs hA S hfl hvs
  obtain ⟨o, fd, ho, hd, hb, hsc, hgl, hbi, hcl, hcode, hbind⟩ := D.fd
  have hlv : vs.length = ps.length := by rw [← hlen, ← hvs]; simp
  have hd1 := hA.depth
  have hu1 := hA.units
  refine codeAny_call_function (by unfold recursionLimit; omega) (S.ext _ _ ho) hd (by rw [hsc]; exact D.co) (by rw [hsc]; exact D.gen) hb (hcode.keeps S.ext) ?_
  rw [hbind vs hlv]
  refine wpAny_pure ?_
  rw [hcl, hsc]
  have hkinds : ∀ x ∈ ps ++ rest, scope.names.lookup x = some .local ∨ scope.names.lookup x = some .cell := fun x hx => by
    have := List.all_eq_true.mp hfit x hx
    simpa using this
  have hcells : ∀ x, scope.names.lookup x = some .cell → ∃ c, (cellsFrom (s.heap.objs.size + 1) scope.names []).lookup x = some c := fun x hx => by
    obtain ⟨c, hc⟩ := cells_mem scope.names (s.heap.objs.size + 1) [] (.inl (lookup_mem hx))
    exact lookup_of_mem hc
  refine wpAny_newFunctionEnv_cells D.kind (fun p hp => ?_) fun env he s' B => ?_
  · have hx := hkinds p.1 (List.mem_append_left _ (List.of_mem_zip hp).1)
    rcases hx with hx | hx
    · exact .inl hx
    · obtain ⟨c, hc⟩ := hcells p.1 hx
      exact .inr ⟨hx, by rw [hc]; rfl⟩
  · obtain ⟨hh, tk, hs'⟩ := B.toInCall.same
    have keep := B.toInCall.keep
    refine ⟨(C.nolimit.keeps S.ext).keeps keep, codeAny_func ?_⟩
    subst he
    generalize henv : newEnv scope s.heap.objs.size fd.globals (cellsFrom (s.heap.objs.size + 1) scope.names []) (fd.qualname ++ ".<locals>.") (some f) fd.code none fd.builtins = env at B ⊢
    have e1 : env.scope = scope := by rw [← henv]; rfl
    have e2 : env.locals = s.heap.objs.size := by rw [← henv]; rfl
    have e3 : env.cells = cellsFrom (s.heap.objs.size + 1) scope.names [] := by rw [← henv]; rfl
    have e4 : env.globals = mainGlobals := by rw [← henv]; exact hgl
    have e5 : env.builtins = builtinsNs := by rw [← henv]; exact hbi
    obtain ⟨l, hl⟩ := hA.frames
    have e6 : env.frame = some s.heap.objs.size := by rw [← henv]; rfl
    have hnew : ∀ a : Nat, s.heap.objs.size ≤ a → s.heap.get? a = none := fun a ha => by
      cases e : s.heap.get? a with
      | none => rfl
      | some o => exact absurd (Heap.lt_size e) (Nat.not_lt.mpr ha)
    have hownnew : ∀ a, (⟨env, (ps ++ rest).map some, env :: l⟩ : Fm).own a → s.heap.get? a = none := fun a q => by
      rcases q with q | ⟨x, q⟩
      · rw [q]; show s.heap.get? env.locals = none; rw [e2]; exact hnew _ (Nat.le_refl _)
      · have := B.above x a (lookup_mem q)
        rw [e2] at this
        exact hnew a (Nat.le_of_lt this)
    have W : Fm.OK cx (A.deeper env) ⟨env, (ps ++ rest).map some, env :: l⟩ := by
      refine ⟨by show A.frames.map (env :: ·) = _; rw [hl]; rfl, by rw [e1]; exact D.kind, e4, e5, fun x c hm e => ?_, fun x y c h1 h2 => ?_, fun i j x h1 h2 => ?_, fun a q => S.base_none (hownnew a q), fun x hx => ?_⟩
      · exact absurd (B.above x c (lookup_mem hm)) (by rw [e]; exact Nat.lt_irrefl _)
      · exact pairwise_inj B.apart (lookup_mem h1) (lookup_mem h2)
      · rw [List.getElem?_map, Option.map_eq_some_iff] at h1 h2
        obtain ⟨y, a1, a2⟩ := h1
        obtain ⟨z, b1, b2⟩ := h2
        cases a2; cases b2
        exact (List.getElem?_inj (List.getElem?_eq_some_iff.mp a1).1 hnd).mp (a1.trans b1.symm)
      · show ∃ c, env.cells.lookup x = some c
        rw [e3]; refine hcells x ?_
        have hx' : env.scope.names.lookup x = some .cell := hx
        rw [e1] at hx'; exact hx'
    have S' : SR cx ⟨env, (ps ++ rest).map some, env :: l⟩ H (args ++ List.replicate rest.length .unb) s' := by
      have hs0 : HS cx H s' := ⟨fun a o e => (S.hr a o e).keep (keep a), fun b o e => keep b o (S.ext b o e), S.low⟩
      refine ⟨hs0, ⟨by simp [hlen], fun a q => ?_, ⟨_, B.toInCall.ns⟩, fun i x hi => ?_⟩, fun a o e q => ?_, fun e he => ?_⟩
      · rcases q with q | ⟨x, q⟩
        · obtain ⟨o, _, _, e, _⟩ := B.toInCall.ns
          exact ⟨o, by rw [q]; exact e⟩
        · obtain ⟨o, e, _⟩ := B.cell x a q
          exact ⟨o, e⟩
      · rw [List.getElem?_map, Option.map_eq_some_iff] at hi
        obtain ⟨y, a1, a2⟩ := hi
        cases a2
        have hx := hkinds x (List.mem_of_getElem? a1)
        have hk : env.kindOf x = scope.names.lookup x := by show env.scope.names.lookup x = _; rw [e1]
        by_cases hip : i < ps.length
        · rw [List.getElem?_append_left hip] at a1
          have hiv : i < vs.length := by rw [hlv]; exact hip
          have hv : vs[i]? = some vs[i] := List.getElem?_eq_getElem hiv
          have hg : getL (args ++ List.replicate rest.length .unb) i = abs vs[i] := getL_args _ (by rw [← hvs, List.getElem?_map, hv]; rfl)
          obtain ⟨b1, b2⟩ := bind_at env.kindOf ps vs (fun _ => none) i x vs[i] (List.nodup_append.mp hnd).1 a1 hv
          rcases hx with hx | hx
          · exact ⟨some vs[i], .inl ⟨by rw [hk]; exact hx, _, B.toInCall.ns, b1 (by rw [hk]; exact hx)⟩, .inr ⟨_, rfl, hg.symm⟩⟩
          · obtain ⟨c, hc⟩ := hcells x hx
            have hc' : env.cells.lookup x = some c := by rw [e3]; exact hc
            exact ⟨some vs[i], .inr ⟨by rw [hk]; exact hx, c, hc', b2 (by rw [hk, hx]; simp) ▸ B.cell x c hc'⟩, .inr ⟨_, rfl, hg.symm⟩⟩
        · have hg : getL (args ++ List.replicate rest.length .unb) i = .unb := getL_unb _ (by rw [hlen]; exact Nat.le_of_not_lt hip)
          rcases hx with hx | hx
          · exact ⟨_, .inl ⟨by rw [hk]; exact hx, _, B.toInCall.ns, rfl⟩, .inl hg⟩
          · obtain ⟨c, hc⟩ := hcells x hx
            have hc' : env.cells.lookup x = some c := by rw [e3]; exact hc
            exact ⟨_, .inr ⟨by rw [hk]; exact hx, c, hc', B.cell x c hc'⟩, .inl hg⟩
      · obtain ⟨ob, e'⟩ := (S.hr a o e).get
        rw [hownnew a q] at e'; cases e'
      · rcases List.mem_cons.mp he with rfl | he
        · obtain ⟨o, es, ep, q1, q2, _⟩ := B.toInCall.ns
          refine ⟨by rw [e1, D.kind]; decide, _, o, es, ep, e6, S.base_none (get_size _), S.none_of (get_size _), by rw [← e2]; exact q1, q2⟩
        · obtain ⟨kd, L, o, es, ep, q1, q2, q3, q4, q5⟩ := hfl l hl e he
          exact ⟨kd, L, o, es, ep, q1, q2, q3, keep L o q4, q5⟩
    have hA' : AOK (A.deeper env) n := by
      refine ⟨⟨⟨by show A.depth + 1 + n < 850; omega, by show A.units + 3 + 16 * n < 9000; omega, ⟨env :: l, by show A.frames.map (env :: ·) = _; rw [hl]; rfl⟩⟩, env, l, by show A.frames.map (env :: ·) = _; rw [hl]; rfl, by rw [e1]; exact D.gen, by rw [e1]; exact D.co, e5, e4⟩, hA.handled⟩
    have hno : ∀ b o, s.heap.get? b = some o → ¬ (⟨env, (ps ++ rest).map some, env :: l⟩ : Fm).own b := fun b o e q => by rw [hownnew b q] at e; cases e
    have kk : ∀ s₁ H₁, Kept (⟨env, (ps ++ rest).map some, env :: l⟩ : Fm).own s' H s₁ H₁ → KE s H s₁ H₁ := fun s₁ H₁ k2 =>
      ⟨fun b o e hn _ => k2.keep b o (keep b o e) hn (hno b o e), fun a o e hn _ => k2.dom a o (keep a o e) hn (hno a o e), by rw [k2.os, hs'], by rw [k2.gens, hs']⟩
    refine wpAny_mono (sSs (fm := ⟨env, (ps ++ rest).map some, env :: l⟩) C TO hA' W ⟨l, rfl⟩ ms body (by show chkSs T ms env.scope _ body = _; rw [e1]; exact hcomp) _ H _ s' _ _ S' ?_ h) (fun fl s₁ q => ?_) fun _ _ e => e
    · intro e C' T' H₁ μ₁ s₁ S₁ k₁ x n1 n2 r
      obtain ⟨H₂, le, hq⟩ := r
      have x' : ExcIn cx.base s H H₁ s₁.heap e C' T' := ⟨fun o q => x.e0 o (keep e o q), fun o q => x.t0 o (keep T' o q), x.e1, x.t1, x.e2, x.t2, x.at_⟩
      refine leave_ok (outer := l) W.frames e6 (kk s₁ H₁ k₁) S₁.toHS S₁.ff x' fun h'' T'' S3 k3 x3 nT => .inr ⟨e, C', T'', H₂, rfl, S3.le le, k3.le le, ?_, nT, hq⟩
      exact ⟨x3.e0, x3.t0, none_le le x3.e1, none_le le x3.t1, x3.e2, x3.t2, x3.at_⟩
    obtain ⟨H₁, μ₁, S₁, k₁, h₁⟩ := q
    cases fl with
    | next =>
      obtain ⟨H₂, le, hq⟩ := h₁
      exact .inl ⟨.none, H₂, rfl, S₁.toHS.le le, (kk s₁ H₁ k₁).le le, hq⟩
    | ret v =>
      obtain ⟨H₂, le, hq⟩ := h₁
      exact .inl ⟨v, H₂, rfl, S₁.toHS.le le, (kk s₁ H₁ k₁).le le, hq⟩
    | brk => exact h₁.elim
    | cont => exact h₁.elim
theorem call_intro (C : cx.OK) (TO : T.OK cx) {f : Addr} {ps rest : List Str} {body : List Stmt} {scope : Scope} (D : Def cx f ps body scope) {ms : MSs} (hnd : (ps ++ rest).Nodup) (hfit : namesFit scope (ps ++ rest) = true)
    (hcomp : chkSs T ms scope ((ps ++ rest).map some) body = true) {args : List V} (hlen : args.length = ps.length) {H : HP} {Q : V → HP → Prop}
    (h : mwpSs cx n ms (args ++ List.replicate rest.length .unb) H (fun _ H' => ∃ H₂, LE H₂ H' ∧ nx Q .none H₂) (fun v H' => ∃ H₂, LE H₂ H' ∧ nx Q v H₂)) : CallP cx (n + 1) f args H Q :=
  (call_introX C TO D hnd hfit hcomp hlen h).quiet
end
end Mine
end

section
namespace Mine
open PySem PyProof.Rows

section
variable {cx : Cx} {n : Nat}

theorem CallP.mono {f : Addr} {args : List V} {H : HP} {Q Q' : V → HP → Prop} (h : CallP cx n f args H Q) (q : ∀ v H, Q v H → Q' v H) : CallP cx n f args H Q' :=
  fun A s vs hA S hf e => codeAny_mono (h A s vs hA S hf e) fun _ _ ⟨v, H', a, b, c, d⟩ => ⟨v, H', a, b, c, q _ _ d⟩
theorem CallX.mono {f : Addr} {args : List V} {H : HP} {Q Q' : V → HP → Prop} (h : CallX cx n f args H Q) (q : ∀ v H, Q v H → Q' v H) : CallX cx n f args H Q' :=
  fun A s vs hA S hf e => codeAny_mono (h A s vs hA S hf e) fun _ _ x => x.imp (fun ⟨v, H', a, b, c, d⟩ => ⟨v, H', a, b, c, q _ _ d⟩) fun ⟨e, C, T, H', a, b, c, d, t, f⟩ => ⟨e, C, T, H', a, b, c, d, t, q _ _ f⟩
theorem onX_mono {v : V} {k k' : V → Prop} {x x' : Addr → Prop} (h : onX v k x) (a : ∀ v, k v → k' v) (b : ∀ C, x C → x' C) : onX v k' x' := by
  cases v <;> first | exact a _ h | exact b _ h
theorem nx_mono {Q Q' : V → HP → Prop} (q : ∀ v H, Q v H → Q' v H) : ∀ v H, nx Q v H → nx Q' v H := fun v H h => by
  cases v <;> first | exact q _ _ h | exact h
theorem new_mono {H : HP} {o : O} {Q Q' : V → HP → Prop} (h : new cx H o Q) (q : ∀ v H, Q v H → Q' v H) : new cx H o Q' := fun r hr => q _ _ (h r hr)
theorem TruthP_mono {v : V} {Q Q' : Bool → Prop} (h : TruthP v Q) (q : ∀ b, Q b → Q' b) : TruthP v Q' := by
  cases v <;> first | exact q _ h | exact False.elim h
theorem binP_mono {op : Operator} {a b : V} {H : HP} {Q Q' : V → HP → Prop} (h : binP cx op a b H Q) (q : ∀ v H, Q v H → Q' v H) : binP cx op a b H Q' := by
  cases op with
  | Add => cases a with
    | int => exact onI_mono h fun _ h => q _ _ h
    | ref => exact onR_mono h fun _ h => onO_mono h fun _ h => onO_mono h fun _ h => ⟨h.1, new_mono h.2 q⟩
    | _ => exact False.elim h
  | Mult => cases a with
    | int => exact onI_mono h fun _ h => ⟨h.1, q _ _ h.2⟩
    | ref => exact onI_mono h fun _ h => onO_mono h fun _ h => ⟨h.1, h.2.1, h.2.2.1, new_mono h.2.2.2 q⟩
    | _ => exact False.elim h
  | Sub => exact onI_mono h fun _ h => onI_mono h fun _ h => q _ _ h
  | FloorDiv => exact onI_mono h fun _ h => onI_mono h fun _ h => ⟨h.1, q _ _ h.2⟩
  | Mod => exact onI_mono h fun _ h => onI_mono h fun _ h => ⟨h.1, q _ _ h.2⟩
  | Pow => exact onI_mono h fun _ h => onI_mono h fun _ h => ⟨h.1, h.2.1, q _ _ h.2.2⟩
  | _ => exact False.elim h
theorem callbP_mono {b : BF} {as : List V} {H : HP} {Q Q' : V → HP → Prop} (h : callbP cx b as H Q) (q : ∀ v H, Q v H → Q' v H) : callbP cx b as H Q' := by
  cases b with
  | len => exact on1_mono h fun _ h => onR_mono h fun _ h => onO_mono h fun _ h => ⟨h.1, q _ _ h.2⟩
  | list => exact on1_mono h fun _ h => onR_mono h fun _ h => onO_mono h fun _ h => ⟨h.1, new_mono h.2 q⟩
  | min => exact on2_mono h fun _ _ h => onI_mono h fun _ h => onI_mono h fun _ h => q _ _ h
  | sum => exact on1_mono h fun _ h => onR_mono h fun _ h => onO_mono h fun _ h => onO_mono h fun _ h => ⟨h.1, q _ _ h.2⟩
theorem methP_mono {o : V} {m : Mth} {as : List V} {H : HP} {Q Q' : V → HP → Prop} (h : methP o m as H Q) (q : ∀ v H, Q v H → Q' v H) : methP o m as H Q' := by
  cases m with
  | append => exact onR_mono h fun _ h => onHL_mono h fun _ h => on1_mono h fun _ h => ⟨h.1, q _ _ h.2⟩
  | pop => cases as with
    | nil => exact onR_mono h fun _ h => onHL_mono h fun _ h => onO_mono h fun _ h => ⟨h.1, q _ _ h.2⟩
    | cons => exact onR_mono h fun _ h => onHL_mono h fun _ h => False.elim h
theorem CompP_mono {items : List V} {st : HP → Prop} {H : HP} {turn : V → HP → (Option V → HP → Prop) → Prop} {Q Q' : V → HP → Prop} (h : CompP cx items st H turn Q) (q : ∀ v H, Q v H → Q' v H) : CompP cx items st H turn Q' := by
  obtain ⟨a, I, b, c, d, e⟩ := h
  exact ⟨a, I, b, c, d, fun acc H₁ hi => new_mono (e acc H₁ hi) q⟩

mutual
theorem mwpE_mono : ∀ (e : ME) {μ : List V} {H : HP} {Q Q' : V → HP → Prop}, mwpE cx n e μ H Q → (∀ v H, Q v H → Q' v H) → mwpE cx n e μ H Q'
  | .cint _, _, _, _, _, h, q => q _ _ h
  | .cbool _, _, _, _, _, h, q => q _ _ h
  | .cnone, _, _, _, _, h, q => q _ _ h
  | .cstr _, _, _, _, _, h, q => q _ _ h
  | .loc _, _, _, _, _, h, q => ⟨h.1, q _ _ h.2⟩
  | .bin _ l r, _, _, _, _, h, q => mwpE_mono l h fun _ _ h => mwpE_mono r h fun _ _ h => binP_mono h q
  | .not e, _, _, _, _, h, q => mwpE_mono e h fun _ _ h => TruthP_mono h fun _ h => q _ _ h
  | .cmp l _ r, _, _, _, _, h, q => mwpE_mono l h fun _ _ h => mwpE_mono r h fun _ _ h => onO_mono h fun _ h => q _ _ h
  | .bop _ es, _, _, _, _, h, q => mwpB_mono es h q
  | .callf _ as, _, _, _, _, h, q => mwpEs_mono as h fun _ _ h => h.mono q
  | .callb _ as, _, _, _, _, h, q => mwpEs_mono as h fun _ _ h => callbP_mono h q
  | .isi e _, _, _, _, _, h, q => mwpE_mono e h fun _ _ h => onO_mono h fun _ h => q _ _ h
  | .meth o _ as, _, _, _, _, h, q => mwpE_mono o h fun _ _ h => ⟨h.1, mwpEs_mono as h.2 fun _ _ h => methP_mono h q⟩
  | .sub o i, _, _, _, _, h, q => mwpE_mono o h fun _ _ h => mwpE_mono i h fun _ _ h => onR_mono h fun _ h => onI_mono h fun _ h => onO_mono h fun _ h => ⟨h.1, h.2.1, onO_mono h.2.2 fun _ h => q _ _ h⟩
  | .slice o l u, _, _, _, _, h, q => mwpE_mono o h fun _ _ h => mwpE_mono l h fun _ _ h => mwpE_mono u h fun _ _ h => onR_mono h fun _ h => onSq_mono h (fun _ h => onO_mono h fun _ h => onO_mono h fun _ h => ⟨h.1, new_mono h.2 q⟩) fun _ h => ⟨h.1, onI_mono h.2 fun _ h => ⟨h.1, h.2.1, h.2.2.1, new_mono h.2.2.2 q⟩⟩
  | .list es, _, _, _, _, h, q => mwpEs_mono es h fun _ _ h => ⟨h.1, new_mono h.2 q⟩
  | .tup es, _, _, _, _, h, q => mwpEs_mono es h fun _ _ h => ⟨h.1, new_mono h.2 q⟩
  | .comp _ it _, _, _, _, _, h, q => mwpE_mono it h fun _ _ h => onR_mono h fun _ h => onHL_mono h fun _ h => ⟨h.1, CompP_mono h.2 q⟩
  | .compR _ a b _, _, _, _, _, h, q => mwpE_mono a h fun _ _ h => mwpE_mono b h fun _ _ h => onI_mono h fun _ h => onI_mono h fun _ h => ⟨h.1, h.2.1, CompP_mono h.2.2 q⟩
  | .neg e, _, _, _, _, h, q => mwpE_mono e h fun _ _ h => onI_mono h fun _ h => q _ _ h
  | .cmp2 l _ m _ r, _, _, _, _, h, q => mwpE_mono l h fun _ _ h => mwpE_mono m h fun _ _ h => onO_mono h fun _ h => ⟨fun c => mwpE_mono r (h.1 c) fun _ _ h => onO_mono h fun _ h => q _ _ h, fun c => q _ _ (h.2 c)⟩
  | .ife c t e, _, _, _, _, h, q => mwpE_mono c h fun _ _ h => TruthP_mono h fun _ h => ⟨fun b => mwpE_mono t (h.1 b) q, fun b => mwpE_mono e (h.2 b) q⟩
  | .gint _, _, _, _, _, h, q => q _ _ h
  | .attr _ _ _, _, _, _, _, h, q => ⟨h.1, onR_mono h.2 fun _ h => onIn_mono h fun _ h => onFl_mono h fun _ h => onO_mono h fun _ h => ⟨h.1, q _ _ h.2⟩⟩
  | .callm _ _ _ _ as, _, _, _, _, h, q => ⟨h.1, h.2.1, mwpEs_mono as h.2.2 fun _ _ h => h.mono q⟩
  | .dnil, _, _, _, _, h, q => new_mono h q
  | .done _ v, _, _, _, _, h, q => fun D hD => mwpE_mono v (h D hD) fun _ _ h => ⟨h.1, q _ _ h.2⟩
  | .dsub o i, _, _, _, _, h, q => mwpE_mono o h fun _ _ h => mwpE_mono i h fun _ _ h => onR_mono h fun _ h => onI_mono h fun _ h => onD_mono h fun _ h => onO_mono h fun _ h => q _ _ h
  | .mk _ _ as, _, _, _, _, h, q => mwpEs_mono as h fun _ _ h => ⟨h.1, fun dx hd x hx => (h.2 dx hd x hx).mono fun _ _ h => ⟨h.1, q _ _ h.2⟩⟩
theorem mwpEs_mono : ∀ (es : MEs) {μ : List V} {H : HP} {Q Q' : List V → HP → Prop}, mwpEs cx n es μ H Q → (∀ v H, Q v H → Q' v H) → mwpEs cx n es μ H Q'
  | .nil, _, _, _, _, h, q => q _ _ h
  | .cons e es, _, _, _, _, h, q => mwpE_mono e h fun _ _ h => mwpEs_mono es h fun _ _ h => q _ _ h
theorem mwpB_mono {op : BoolOp} : ∀ (es : MEs) {μ : List V} {H : HP} {Q Q' : V → HP → Prop}, mwpB cx n op es μ H Q → (∀ v H, Q v H → Q' v H) → mwpB cx n op es μ H Q'
  | .nil, _, _, _, _, h, _ => False.elim h
  | .cons e .nil, _, _, _, _, h, q => mwpE_mono e h q
  | .cons e (.cons e' es), _, _, _, _, h, q => mwpE_mono e h fun _ _ h => TruthP_mono h fun _ h => ⟨fun b => mwpB_mono (.cons e' es) (h.1 b) q, fun b => q _ _ (h.2 b)⟩
end
theorem ForP_mono {items : List V} {st : HP → Prop} {μ : List V} {H : HP} {turn turn' : V → List V → HP → (List V → HP → Prop) → Prop} {N N' : List V → HP → Prop} (h : ForP items st μ H turn N)
    (ht : ∀ x μ H K, turn x μ H K → turn' x μ H K) (q : ∀ v H, N v H → N' v H) : ForP items st μ H turn' N' := by
  obtain ⟨I, b, c, d, e⟩ := h
  exact ⟨I, b, c, fun done x rest μ H hi hI => ht _ _ _ _ (d done x rest μ H hi hI), fun μ H hI => q _ _ (e μ H hI)⟩

mutual
theorem mwpS_mono : ∀ (s : MS) {μ : List V} {H : HP} {N N' : List V → HP → Prop} {R R' : V → HP → Prop}, mwpS cx n s μ H N R → (∀ v H, N v H → N' v H) → (∀ v H, R v H → R' v H) → mwpS cx n s μ H N' R'
  | .assign _ e, _, _, _, _, _, _, h, q, _ => mwpE_mono e h fun _ _ h => q _ _ h
  | .setSub o i v, _, _, _, _, _, _, h, q, _ => mwpE_mono v h fun _ _ h => mwpE_mono o h fun _ _ h => mwpE_mono i h fun _ _ h => onR_mono h fun _ h => onI_mono h fun _ h => onHL_mono h fun _ h => ⟨h.1, h.2.1, h.2.2.1, q _ _ h.2.2.2⟩
  | .expr e, _, _, _, _, _, _, h, q, _ => mwpE_mono e h fun _ _ h => q _ _ h
  | .ite c t e, _, _, _, _, _, _, h, q, r => mwpE_mono c h fun _ _ h => TruthP_mono h fun _ h => ⟨fun b => mwpSs_mono t (h.1 b) q r, fun b => mwpSs_mono e (h.2 b) q r⟩
  | .for_ _ it body, _, _, _, _, _, _, h, q, r => mwpE_mono it h fun _ _ h => onR_mono h fun _ h => onHL_mono h fun _ h => ⟨h.1, ForP_mono h.2 (fun _ _ _ _ h => mwpSs_mono body h (fun _ _ h => h) (nx_mono r)) q⟩
  | .forR _ a b body, _, _, _, _, _, _, h, q, r => mwpE_mono a h fun _ _ h => mwpE_mono b h fun _ _ h => onI_mono h fun _ h => onI_mono h fun _ h => ⟨h.1, h.2.1, ForP_mono h.2.2 (fun _ _ _ _ h => mwpSs_mono body h (fun _ _ h => h) (nx_mono r)) q⟩
  | .while_ c body, _, _, _, _, _, _, h, q, r =>
    let ⟨I, h0, h1⟩ := h
    ⟨I, h0, fun k μ H hI => mwpE_mono c (h1 k μ H hI) fun _ _ h => TruthP_mono h fun _ h => ⟨fun b => mwpSs_mono body (h.1 b) (fun _ _ h => h) (nx_mono r), fun b => q _ _ (h.2 b)⟩⟩
  | .ret e, _, _, _, _, _, _, h, _, r => mwpE_mono e h r
  | .setAttr _ _ _ e, _, _, _, _, _, _, h, q, _ => mwpE_mono e h fun _ _ h => ⟨h.1, onR_mono h.2 fun _ h => onIn_mono h fun _ h => onFl_mono h fun _ h => ⟨h.1, q _ _ h.2⟩⟩
  | .raise_, _, _, _, _, _, _, h, _, _ => False.elim h
  | .retN, _, _, _, _, _, _, h, _, r => r _ _ h
  | .setD o i v, _, _, _, _, _, _, h, q, _ => mwpE_mono v h fun _ _ h => mwpE_mono o h fun _ _ h => mwpE_mono i h fun _ _ h => onR_mono h fun _ h => onI_mono h fun _ h => onD_mono h fun _ h => ⟨h.1, q _ _ h.2⟩
  | .raiseS _ m, _, _, _, _, _, _, h, _, r => mwpE_mono m h fun _ _ h => r _ _ h
  | .tryS _ _ _ _ _ as _ e, _, _, _, _, _, _, h, q, r => ⟨h.1, h.2.1, mwpEs_mono as h.2.2 fun _ _ h => CallX.mono h fun v _ h => onX_mono h (fun _ h => q _ _ h) fun _ h => ⟨h.1, mwpE_mono e h.2 r⟩⟩
theorem mwpSs_mono : ∀ (s : MSs) {μ : List V} {H : HP} {N N' : List V → HP → Prop} {R R' : V → HP → Prop}, mwpSs cx n s μ H N R → (∀ v H, N v H → N' v H) → (∀ v H, R v H → R' v H) → mwpSs cx n s μ H N' R'
  | .nil, _, _, _, _, _, _, h, q, _ => q _ _ h
  | .cons s r, _, _, _, _, _, _, h, q, rr => mwpS_mono s h (fun _ _ h => mwpSs_mono r h q rr) rr
end

theorem S_cons {s : MS} {r : MSs} {μ : List V} {H : HP} {N : List V → HP → Prop} {R : V → HP → Prop} (h : mwpS cx n s μ H (fun μ H => mwpSs cx n r μ H N R) R) : mwpSs cx n (.cons s r) μ H N R := h
theorem S_nil {μ : List V} {H : HP} {N : List V → HP → Prop} {R : V → HP → Prop} (h : N μ H) : mwpSs cx n .nil μ H N R := h
theorem S_cut {s : MS} {r : MSs} {μ : List V} {H : HP} {N : List V → HP → Prop} {R : V → HP → Prop} (P : List V → HP → Prop) (h : mwpS cx n s μ H P R) (h2 : ∀ μ' H', P μ' H' → mwpSs cx n r μ' H' N R) : mwpSs cx n (.cons s r) μ H N R :=
  mwpS_mono s h h2 fun _ _ h => h
end
end Mine
end

namespace Mine
open PySem PyProof.Rows

section
variable {cx : Cx} {H H' : HP} {n : Nat} {a r : Addr} {o : O} {Q : V → HP → Prop}

theorem lk_same : lk cx (upd H r o) r = some o := by simp [lk, upd_same]
theorem lk_ne (h : a ≠ r) : lk cx (upd H r o) a = lk cx H a := by simp [lk, upd_ne _ h]
theorem Fresh.lk_none (hr : Fresh cx H r) : lk cx H r = none := by simp [lk, hr.1, hr.2.2]
theorem Fresh.ne (hr : Fresh cx H r) {o : O} (h : lk cx H a = some o) : a ≠ r := fun e => by subst e; rw [hr.lk_none] at h; cases h
theorem Fresh.ne' (hr : Fresh cx H r) {o : O} (h : H a = some o) : a ≠ r := fun e => by subst e; rw [hr.1] at h; cases h
theorem lk_fresh (hr : Fresh cx H r) {o' : O} (h : lk cx H a = some o') : lk cx (upd H r o) a = some o' := by rw [lk_ne (hr.ne h)]; exact h
theorem lk_of (h : H a = some o) : lk cx H a = some o := by simp [lk, h]

noncomputable def RQ (Q : V → HP → Prop) : V → HP → Prop := fun v H' => ∃ H₂, LE H₂ H' ∧ Q v H₂
noncomputable def NQ (Q : V → HP → Prop) : List V → HP → Prop := fun _ H' => ∃ H₂, LE H₂ H' ∧ Q .none H₂
theorem RQ.here {v : V} (h : Q v H) : RQ Q v H := ⟨H, LE.refl H, h⟩

noncomputable def m_told_by : MSs :=
  (.cons (.ret (.bin .FloorDiv (.loc 0) (.cint (2))))
  .nil)
noncomputable def m_law_at : MSs :=
  (.cons (.ret (.sub (.bin .Add (.slice (.loc 0) (.loc 1) (.bin .Add (.loc 1) (.cint (1)))) (.list (.cons (.cint (0)) .nil))) (.cint (0))))
  .nil)

noncomputable def m_law_is_int : MSs :=
  (.cons (.ret (.bop .And (.cons (.isi (.loc 0) "int") (.cons (.cmp (.loc 0) .IsNot (.cbool true)) (.cons (.cmp (.loc 0) .IsNot (.cbool false)) .nil)))))
  .nil)

noncomputable def m_law_number : MSs :=
  (.cons (.ite (.cmp (.bin .Mod (.loc 0) (.cint (5))) .Lt (.cint (3))) (.cons (.ret (.bin .Sub (.bin .Mod (.bin .FloorDiv (.loc 0) (.cint (5))) (.cint (41))) (.cint (20))))
    .nil) .nil)
  (.cons (.ite (.cmp (.bin .Mod (.loc 0) (.cint (5))) .Eq (.cint (3))) (.cons (.ret (.sub (.list (.cons (.bin .Sub (.bin .Pow (.cint (10)) (.cint (60))) (.cint (1))) (.cons (.bin .Sub (.cint (1)) (.bin .Pow (.cint (10)) (.cint (60)))) (.cons (.bin .Pow (.cint (10)) (.cint (30))) (.cons (.cint (0)) .nil))))) (.bin .Mod (.bin .FloorDiv (.loc 0) (.cint (5))) (.cint (4)))))
    .nil) .nil)
  (.cons (.ret (.bin .Sub (.bin .Mod (.bin .Mult (.bin .FloorDiv (.loc 0) (.cint (5))) (.bin .Pow (.cint (48271)) (.cint (12)))) (.bin .Sub (.bin .Mult (.cint (2)) (.bin .Pow (.cint (10)) (.cint (60)))) (.cint (1)))) (.bin .Sub (.bin .Pow (.cint (10)) (.cint (60))) (.cint (1)))))
  .nil)))


theorem bopAA : (BoolOp.And == BoolOp.And) = true := rfl
theorem bopAO : (BoolOp.And == BoolOp.Or) = false := rfl
theorem bopOA : (BoolOp.Or == BoolOp.And) = false := rfl
theorem bopOO : (BoolOp.Or == BoolOp.Or) = true := rfl
section
variable (a b : Int) (x y : Addr) (u v : Bool) (s t : Str) (w l h : V)

theorem bin_add : binP cx .Add (.int a) (.int b) H Q = Q (.int (a + b)) H := rfl
theorem bin_sub : binP cx .Sub (.int a) (.int b) H Q = Q (.int (a - b)) H := rfl
theorem bin_mul : binP cx .Mult (.int a) (.int b) H Q = (IntMulOk a b ∧ Q (.int (a * b)) H) := rfl
theorem bin_div : binP cx .FloorDiv (.int a) (.int b) H Q = (b ≠ 0 ∧ Q (.int (a.fdiv b)) H) := rfl
theorem bin_mod : binP cx .Mod (.int a) (.int b) H Q = (b ≠ 0 ∧ Q (.int (a.fmod b)) H) := rfl
theorem bin_pow : binP cx .Pow (.int a) (.int b) H Q = (0 ≤ b ∧ (Builtin.Int.intBits a : Int) * b ≤ 2 ^ 27 ∧ Q (.int (a ^ b.toNat)) H) := rfl
theorem bin_cat : binP cx .Add (.ref x) (.ref y) H Q = onO (lst cx H x) fun xs => onO (lst cx H y) fun ys => xs.length + ys.length ≤ 16777216 ∧ new cx H (.list (xs ++ ys)) Q := rfl
theorem bin_rep : binP cx .Mult (.ref x) (.int a) H Q = onO (lst cx H x) fun xs => -16777216 < a ∧ a < 16777216 ∧ xs.length * a.toNat ≤ 16777216 ∧ new cx H (.list (List.replicate a.toNat xs).flatten) Q := rfl
theorem cm_lt : cmpP cx .Lt (.int a) (.int b) H = some (decide (a < b)) := rfl
theorem cm_le : cmpP cx .LtE (.int a) (.int b) H = some (decide (a ≤ b)) := rfl
theorem cm_gt : cmpP cx .Gt (.int a) (.int b) H = some (decide (b < a)) := rfl
theorem cm_eq : cmpP cx .Eq (.int a) (.int b) H = some (a == b) := rfl
theorem cm_ne : cmpP cx .NotEq (.int a) (.int b) H = some (a != b) := rfl
theorem cm_eqs : cmpP cx .Eq (.str s) (.str t) H = some (s == t) := rfl
theorem cm_nes : cmpP cx .NotEq (.str s) (.str t) H = some (!(s == t)) := rfl
theorem cm_eqb : cmpP cx .Eq (.bool u) (.bool v) H = some (u == v) := rfl
theorem cm_neb : cmpP cx .NotEq (.bool u) (.bool v) H = some (!(u == v)) := rfl
theorem cm_is2 : cmpP cx .IsNot (.int a) (.bool v) H = some true := rfl
theorem cm_ni : cmpP cx .NotIn (.int a) (.ref x) H = (sq cx H x).bind fun vs => (asInts vs).map fun l => !l.contains a := rfl
theorem is_ii : isiP H (.int a) "int" = some true := rfl
theorem is_ib : isiP H (.int a) "bool" = some false := rfl
theorem is_rl : isiP H (.ref x) "list" = (match H x with | some (.list _) => some true | some (.tup _) => none | _ => none) := rfl
theorem is_rt : isiP H (.ref x) "tuple" = (match H x with | some (.list _) => none | some (.tup _) => some true | _ => none) := rfl
theorem tr_b (P : Bool → Prop) : TruthP (.bool u) P = P u := rfl
theorem rn_i (P : List V → Prop) : RngP (.int a) (.int b) P = ((-1152921504606846976 < a ∧ a < 1152921504606846976) ∧ (-1152921504606846976 < b ∧ b < 1152921504606846976) ∧ P (intsV (rangeL a b))) := rfl
theorem cb_len : callbP cx .len [.ref x] H Q = onO (sq cx H x) fun vs => vs.length ≤ 16777216 ∧ Q (.int vs.length) H := rfl
theorem cb_list : callbP cx .list [.ref x] H Q = onO (sq cx H x) fun vs => vs.length ≤ 16777216 ∧ new cx H (.list vs) Q := rfl
theorem cb_min : callbP cx .min [.int a, .int b] H Q = Q (.int (if b < a then b else a)) H := rfl
theorem on_i (P : Int → Prop) : onI (.int a) P = P a := rfl
theorem cb_sum : callbP cx .sum [.ref x] H Q = onO (lst cx H x) fun vs => onO (asInts vs) fun l => PySem.SumFits l ∧ Q (.int l.sum) H := rfl
theorem cm_in : cmpP cx .In (.int a) (.ref x) H = (sq cx H x).bind fun vs => (asInts vs).map fun l => l.contains a := rfl
theorem cm_isn : cmpP cx .Is .none .none H = some true := rfl
theorem du_i : dsubP (.ref x) (.int a) H Q = onD (H x) fun kvs => onO (getK kvs a) fun v => Q v H := rfl
theorem sd_i (P : HP → Prop) : setDP (.ref x) (.int a) w H P = onD (H x) fun kvs => kvs.length ≤ 16777216 ∧ P (upd H x (.dct (putK kvs a w))) := rfl
theorem mt_app : methP (.ref x) .append [w] H Q = onHL (H x) fun vs => vs.length ≤ 16777216 ∧ Q .none (upd H x (.list (vs ++ [w]))) := rfl
theorem mt_pop : methP (.ref x) .pop [] H Q = onHL (H x) fun vs => onO vs.getLast? fun v => vs.length ≤ 16777216 ∧ Q v (upd H x (.list vs.dropLast)) := rfl
theorem la_r : listAt (.ref x) H = onHL (H x) fun _ => True := rfl
theorem su_i : subP cx (.ref x) (.int a) H Q = onO (sq cx H x) fun vs => 0 ≤ a ∧ vs.length ≤ 16777216 ∧ onO vs[a.toNat]? fun v => Q v H := rfl
theorem sl_i : sliceP cx (.ref x) l h H Q = onSq (lk cx H x) (fun vs => onO (cutLo vs.length l) fun l => onO (cutHi vs.length h) fun h => vs.length ≤ 16777216 ∧ new cx H (.list (cut vs l h)) Q)
    fun vs => h = .none ∧ onI l fun i => 1 ≤ i ∧ i.toNat ≤ vs.length ∧ vs.length ≤ 16777216 ∧ new cx H (.tup (vs.drop i.toNat)) Q := rfl
theorem sb_i (P : HP → Prop) : setSubP (.ref x) (.int a) w H P = onHL (H x) fun vs => 0 ≤ a ∧ vs.length ≤ 16777216 ∧ a.toNat < vs.length ∧ P (upd H x (.list (vs.set a.toNat w))) := rfl
theorem it_r (P : List V → (HP → Prop) → HP → Prop) : IterP cx (.ref x) H P = onHL (lk cx H x) fun vs => vs.length ≤ 16777216 ∧ P vs (fun H' => lk cx H' x = some (.list vs)) H := rfl
end


end
end Mine
local macro_rules | `(tactic| walk_at "st") => `(tactic| ((try dsimp only [Mine.e_cint, Mine.e_cbool, Mine.e_cnone, Mine.e_cstr, Mine.e_loc, Mine.e_bin, Mine.e_not, Mine.e_cmp, Mine.e_bop, Mine.e_callf, Mine.e_callb, Mine.e_isi, Mine.e_meth, Mine.e_sub, Mine.e_slice, Mine.e_list, Mine.e_tup, Mine.e_comp, Mine.e_compR, Mine.e_neg, Mine.e_cmp2, Mine.e_ife, Mine.e_gint, Mine.e_attr, Mine.e_callm, Mine.e_mk, Mine.e_dnil, Mine.e_done, Mine.e_dsub, Mine.es_nil, Mine.es_cons, Mine.b_one, Mine.b_more, Mine.s_assign, Mine.s_setSub, Mine.s_expr, Mine.s_ite, Mine.s_for, Mine.s_forR, Mine.s_ret, Mine.s_setAttr, Mine.s_raise, Mine.s_retN, Mine.s_setD, Mine.s_raiseS, Mine.s_tryS, Mine.getL, Mine.setL, Mine.bin_add, Mine.bin_sub, Mine.bin_mul, Mine.bin_div, Mine.bin_mod, Mine.bin_pow, Mine.bin_cat, Mine.bin_rep, Mine.cm_lt, Mine.cm_le, Mine.cm_gt, Mine.cm_eq, Mine.cm_ne, Mine.cm_eqs, Mine.cm_nes, Mine.cm_eqb, Mine.cm_neb, Mine.cm_is2, Mine.cm_ni, Mine.is_ii, Mine.is_ib, Mine.is_rl, Mine.is_rt, Mine.tr_b, Mine.rn_i, Mine.cb_len, Mine.cb_list, Mine.cb_min, Mine.cb_sum, Mine.cm_in, Mine.cm_isn, Mine.du_i, Mine.sd_i, Mine.mt_app, Mine.mt_pop, Mine.la_r, Mine.su_i, Mine.sl_i, Mine.sb_i, Mine.it_r, Mine.on_i, Mine.onO, Mine.onHL, Mine.onSq, Mine.onD, Mine.sq, Mine.lst, Mine.new, List.cons_append, List.nil_append, Mine.bopAA, Mine.bopAO, Mine.bopOA, Mine.bopOO, Bool.not_true, Bool.not_false]); (try simp only [ne_eq, reduceCtorEq, not_false_eq_true, true_and, and_true, Bool.false_eq_true, Bool.true_eq_false, false_implies, true_implies, forall_const, implies_true, bne_self_eq_false, beq_self_eq_true, Bool.not_true, Bool.not_false])))
namespace Mine
open PySem PyProof.Rows
section
variable (a b : Int) (x y : Addr) (u v : Bool) (s t : Str) (w l h : V)

theorem told_ms {w : Int} (h : Q (.int (w.fdiv 2)) H) : mwpSs cx n m_told_by [.int w] H (NQ Q) (RQ Q) := by
  refine S_cons ?_
  walk_at "st"
  exact ⟨by decide, RQ.here h⟩
theorem mulOk_l {a b : Int} (h : Builtin.Int.intBits a ≤ 64) : IntMulOk a b := by
  unfold IntMulOk
  have : decide (Builtin.Int.intBits a > shortFactorBits) = false := decide_eq_false (by unfold shortFactorBits; omega)
  rw [this]; simp
theorem mulOk_r {a b : Int} (h : Builtin.Int.intBits b ≤ 64) : IntMulOk a b := by
  unfold IntMulOk
  have : decide (Builtin.Int.intBits b > shortFactorBits) = false := decide_eq_false (by unfold shortFactorBits; omega)
  rw [this]; simp
theorem ints_length (xs : List Int) : (intsV xs).length = xs.length := by simp [intsV]
theorem ints_get? (xs : List Int) (i : Nat) : (intsV xs)[i]? = xs[i]?.map V.int := by simp [intsV]
theorem ints_set (xs : List Int) (i : Nat) (v : Int) : (intsV xs).set i (.int v) = intsV (xs.set i v) := by simp [intsV, List.map_set]

theorem cutLo_nn {m : Nat} {i : Int} (h : 0 ≤ i) : cutLo m (.int i) = some (min i.toNat m) := if_pos h
theorem cutHi_nn {m : Nat} {i : Int} (h : 0 ≤ i) : cutHi m (.int i) = some (min i.toNat m) := if_pos h
theorem cut_length_le (vs : List V) (l h : Nat) : (cut vs l h).length ≤ vs.length := by simp [cut]; first | lia | omega
theorem cut_ints (xs : List Int) (l h : Nat) : cut (intsV xs) l h = intsV ((xs.take h).drop l) := by simp [cut, intsV]
theorem ints_append (xs ys : List Int) : intsV xs ++ intsV ys = intsV (xs ++ ys) := by simp [intsV]

theorem at_ms {sa : Addr} {ns : List Int} {p : Int} (hs : lk cx H sa = some (.list (intsV ns))) (hlen : ns.length ≤ 1000) (hp : 0 ≤ p)
    (hQ : ∀ v, (v ∈ ns ∨ v = 0) → Q (.int v) H) : mwpSs cx n m_law_at [.ref sa, .int p] H (NQ Q) (RQ Q) := by
  refine S_cons ?_
  walk_at "st"
  simp only [hs, ints_length, cutLo_nn hp, cutHi_nn (show 0 ≤ p + 1 from by first | with_reducible exact Int.natCast_nonneg _ | with_reducible assumption | lia | omega)]
  have hcl := cut_length_le (intsV ns) (min p.toNat ns.length) (min (p + 1).toNat ns.length)
  rw [ints_length] at hcl
  refine ⟨by first | with_reducible exact Int.natCast_nonneg _ | with_reducible assumption | lia | omega, fun r hr => ⟨by simp, fun r2 hr2 => ?_⟩⟩
  have hne : r ≠ r2 := hr2.ne lk_same
  simp only [lk_same, lk_ne hne]
  refine ⟨by simp; omega, fun r3 hr3 => ?_⟩
  refine ⟨by decide, by simp; omega, ?_⟩
  have key : ∃ v, (v ∈ ns ∨ v = 0) ∧ (cut (intsV ns) (min p.toNat ns.length) (min (p + 1).toNat ns.length) ++ [V.int 0])[(0 : Int).toNat]? = some (.int v) := by
    rw [cut_ints, show [V.int 0] = intsV [0] from rfl, ints_append]
    generalize hl : ((ns.take (min (p + 1).toNat ns.length)).drop (min p.toNat ns.length)) = l
    cases l with
    | nil => exact ⟨0, .inr rfl, rfl⟩
    | cons v l =>
      refine ⟨v, .inl ?_, rfl⟩
      have : v ∈ (ns.take (min (p + 1).toNat ns.length)).drop (min p.toNat ns.length) := by rw [hl]; exact List.mem_cons_self
      exact List.mem_of_mem_take (List.mem_of_mem_drop this)
  obtain ⟨v, hv, e⟩ := key
  rw [e]
  exact ⟨H, (LE.fresh hr.1 _).trans ((LE.fresh hr2.1 _).trans (LE.fresh hr3.1 _)), hQ v hv⟩

theorem isint_ms {v : Int} (h : Q (.bool true) H) : mwpSs cx n m_law_is_int [.int v] H (NQ Q) (RQ Q) := by
  refine S_cons ?_
  walk_at "st"
  exact RQ.here h

theorem bits_of {v : Int} {m k : Nat} (h : v.natAbs < 2 ^ k) (hk : k ≤ m) : Builtin.Int.intBits v ≤ m := Nat.le_trans (intBits_le_iff.mpr h) hk
theorem fmod_pos_bounds (a : Int) {b : Int} (hb : 0 < b) : 0 ≤ a.fmod b ∧ a.fmod b < b := ⟨Int.fmod_nonneg_of_pos a hb, Int.fmod_lt_of_pos a hb⟩

theorem number_ms {seed : Int} (hb : Builtin.Int.intBits seed ≤ 3000000) (hQ : ∀ v, Builtin.Int.intBits v ≤ 300 → Q (.int v) H) : mwpSs cx n m_law_number [.int seed] H (NQ Q) (RQ Q) := by
  refine S_cons ?_
  walk_at "st"
  refine ⟨by decide, fun h1 => S_cons ?_, fun h1 => S_nil (S_cons ?_)⟩
  · walk_at "st"
    refine ⟨by decide, by decide, RQ.here (hQ _ ?_)⟩
    have := fmod_pos_bounds (seed.fdiv 5) (b := 41) (by decide)
    exact bits_of (k := 7) (by omega) (by decide)
  · walk_at "st"
    refine ⟨by decide, fun h2 => S_cons ?_, fun h2 => S_nil (S_cons ?_)⟩
    · walk_at "st"
      refine ⟨by decide, by decide, by decide, by decide, by decide, by decide, by simp, fun r hr => ⟨by decide, by decide, ?_⟩⟩
      simp only [lk_same]
      obtain ⟨b1, b2⟩ := fmod_pos_bounds (seed.fdiv 5) (b := 4) (by decide)
      generalize (seed.fdiv 5).fmod 4 = i at b1 b2 ⊢
      refine ⟨b1, by simp, ?_⟩
      have fin : ∀ v, Builtin.Int.intBits v ≤ 300 → RQ Q (.int v) (upd H r (.list [V.int (10 ^ Int.toNat 60 - 1), V.int (1 - 10 ^ Int.toNat 60), V.int (10 ^ Int.toNat 30), V.int 0])) := fun v hv => ⟨H, LE.fresh hr.1 _, hQ v hv⟩
      obtain rfl | rfl | rfl | rfl : i = 0 ∨ i = 1 ∨ i = 2 ∨ i = 3 := by first | with_reducible exact Int.natCast_nonneg _ | with_reducible assumption | lia | omega
      · exact fin _ (by decide +kernel)
      · exact fin _ (by decide +kernel)
      · exact fin _ (by decide +kernel)
      · exact fin _ (by decide +kernel)
    · walk_at "st"
      refine ⟨by decide, by decide, by decide, ?_, by decide, by decide, ?_, ?_, by decide, by decide, RQ.here (hQ _ ?_)⟩
      · exact IntMulOk.of_le (intBits_fdiv_le hb) (show Builtin.Int.intBits (48271 ^ Int.toNat 12) ≤ 300 by decide +kernel) (by decide)
      · exact mulOk_l (by decide)
      · decide +kernel
      · have hm : (0 : Int) < 2 * 10 ^ Int.toNat 60 - 1 := by decide +kernel
        have := fmod_pos_bounds (seed.fdiv 5 * 48271 ^ Int.toNat 12) hm
        generalize (seed.fdiv 5 * 48271 ^ Int.toNat 12).fmod (2 * 10 ^ Int.toNat 60 - 1) = w at this
        have e : (10 : Int) ^ Int.toNat 60 = 1000000000000000000000000000000000000000000000000000000000000 := by decide +kernel
        rw [e] at this ⊢
        exact bits_of (k := 201) (by omega) (by decide)
end
end Mine

section
namespace Mine
open PySem PyProof.Rows

section
variable {cx : Cx} {H H' : HP} {n : Nat} {a r : Addr} {o : O} {Q : V → HP → Prop}
noncomputable def m_number_word : MSs :=
  (.cons (.ret (.bin .Mult (.cint (2)) (.loc 0)))
  .nil)
noncomputable def m_head_word : MSs :=
  (.cons (.ite (.loc 1) (.cons (.ret (.bin .Add (.bin .Mult (.cint (4)) (.loc 0)) (.cint (2))))
    .nil) .nil)
  (.cons (.ret (.bin .Mult (.cint (4)) (.loc 0)))
  .nil))
noncomputable def m_is_link : MSs :=
  (.cons (.ret (.cmp (.bin .Mod (.loc 0) (.cint (2))) .Eq (.cint (1))))
  .nil)
noncomputable def m_fields_of : MSs :=
  (.cons (.ret (.bin .FloorDiv (.loc 0) (.cint (4))))
  .nil)
noncomputable def m_is_marked : MSs :=
  (.cons (.ret (.cmp (.bin .Mod (.bin .FloorDiv (.loc 0) (.cint (2))) (.cint (2))) .Eq (.cint (1))))
  .nil)
theorem numw_ms {p : Int} (h : Q (.int (2 * p)) H) : mwpSs cx n m_number_word [.int p] H (NQ Q) (RQ Q) := by
  refine S_cons ?_
  walk_at "st"
  exact ⟨mulOk_l (by decide), RQ.here h⟩
theorem headw_ms {p : Int} {b : Bool} (h : Q (.int (4 * p + 2 * (if b then 1 else 0))) H) : mwpSs cx n m_head_word [.int p, .bool b] H (NQ Q) (RQ Q) := by
  refine S_cons ?_
  walk_at "st"
  refine ⟨fun e => S_cons ?_, fun e => S_nil (S_cons ?_)⟩
  · walk_at "st"
    subst e
    exact ⟨mulOk_l (by decide), RQ.here h⟩
  · walk_at "st"
    subst e
    refine ⟨mulOk_l (by decide), RQ.here ?_⟩
    simpa using h
theorem islink_ms {w : Int} (h : Q (.bool (w.fmod 2 == 1)) H) : mwpSs cx n m_is_link [.int w] H (NQ Q) (RQ Q) := by
  refine S_cons ?_
  walk_at "st"
  exact ⟨by decide, RQ.here h⟩
theorem fields_ms {w : Int} (h : Q (.int (w.fdiv 4)) H) : mwpSs cx n m_fields_of [.int w] H (NQ Q) (RQ Q) := by
  refine S_cons ?_
  walk_at "st"
  exact ⟨by decide, RQ.here h⟩
theorem ismarked_ms {w : Int} (h : Q (.bool ((w.fdiv 2).fmod 2 == 1)) H) : mwpSs cx n m_is_marked [.int w] H (NQ Q) (RQ Q) := by
  refine S_cons ?_
  walk_at "st"
  exact ⟨by decide, by decide, RQ.here h⟩
theorem fdiv2 (a : Int) : a.fdiv 2 = a / 2 := Int.fdiv_eq_ediv_of_nonneg _ (by decide)
theorem fdiv4 (a : Int) : a.fdiv 4 = a / 4 := Int.fdiv_eq_ediv_of_nonneg _ (by decide)
theorem fmod2 (a : Int) : a.fmod 2 = a % 2 := Int.fmod_eq_emod_of_nonneg _ (by decide)

noncomputable def AtSpec (cx : Cx) (n : Nat) (f sa : Addr) (ns : List Int) : Prop := ∀ (p : Int) (H : HP) (Q : V → HP → Prop), lk cx H sa = some (.list (intsV ns)) → 0 ≤ p → (∀ v, Builtin.Int.intBits v ≤ 1048576 → Q (.int v) H) → CallP cx n f [.ref sa, .int p] H Q
noncomputable def NumSpec (cx : Cx) (n : Nat) (f : Addr) : Prop := ∀ (s : Int) (H : HP) (Q : V → HP → Prop), Builtin.Int.intBits s ≤ 3000000 → (∀ v, Builtin.Int.intBits v ≤ 300 → Q (.int v) H) → CallP cx n f [.int s] H Q
noncomputable def WordsSpec (cx : Cx) (n : Nat) (f : Addr) : Prop := ∀ (fa da : Addr) (xs : List Int) (H : HP) (Q : V → HP → Prop), H fa = some (.list (intsV xs)) → lk cx H da = some (.list (intsV xs)) → xs.length ≤ 1000 → Q (.bool true) H → CallP cx n f [.ref fa, .ref da] H Q
noncomputable def Fn1 (cx : Cx) (n : Nat) (f : Addr) (g : Int → V) : Prop := ∀ (w : Int) (H : HP) (Q : V → HP → Prop), Q (g w) H → CallP cx n f [.int w] H Q
end
end Mine
end

section
namespace Mine

noncomputable abbrev Th := Bool × Int
noncomputable abbrev Bx := List (List Th)

noncomputable def pl (B : Bx) (k : Nat) : Nat := ((B.take k).map (fun f => 1 + f.length)).sum
theorem pl_zero (B : Bx) : pl B 0 = 0 := by simp [pl]
theorem pl_nil (k : Nat) : pl [] k = 0 := by simp [pl]
theorem pl_cons (f : List Th) (B : Bx) (k : Nat) : pl (f :: B) (k + 1) = 1 + f.length + pl B k := by simp [pl]
theorem pl_succ : ∀ {B : Bx} {k : Nat} {f : List Th}, B[k]? = some f → pl B (k + 1) = pl B k + 1 + f.length
  | [], _, _, h => by simp at h
  | g :: B, 0, f, h => by
    simp at h; subst h
    rw [pl_cons, pl_zero, pl_zero]; first | lia | omega
  | g :: B, k + 1, f, h => by
    simp at h
    rw [pl_cons, pl_cons, pl_succ h]; first | lia | omega
theorem pl_step (B : Bx) (k : Nat) : pl B k ≤ pl B (k + 1) := by
  cases h : B[k]? with
  | some f => rw [pl_succ h]; first | lia | omega
  | none =>
    have : B.length ≤ k := List.getElem?_eq_none_iff.mp h
    simp [pl, List.take_of_length_le this, List.take_of_length_le (show B.length ≤ k + 1 by first | lia | omega)]
theorem pl_mono {B : Bx} {i j : Nat} (h : i ≤ j) : pl B i ≤ pl B j := by
  induction h with
  | refl => exact Nat.le_refl _
  | step _ ih => exact Nat.le_trans ih (pl_step B _)
theorem pl_lt {B : Bx} {i j : Nat} (hi : i < B.length) (h : i < j) : pl B i < pl B j := by
  have e := pl_succ (List.getElem?_eq_getElem hi)
  have := pl_mono (B := B) (show i + 1 ≤ j from h)
  first | lia | omega
theorem pl_inj {B : Bx} {i j : Nat} (hi : i < B.length) (hj : j < B.length) (h : pl B i = pl B j) : i = j := by
  rcases Nat.lt_trichotomy i j with q | q | q
  · have := pl_lt hi q; first | lia | omega
  · exact q
  · have := pl_lt hj q; first | lia | omega
theorem pl_ne {B : Bx} {k j i : Nat} {f : List Th} (h : B[k]? = some f) (hj : j < f.length) : pl B k + 1 + j ≠ pl B i := by
  intro e
  have e2 := pl_succ h
  rcases Nat.lt_or_ge k i with q | q
  · have := pl_mono (B := B) (show k + 1 ≤ i from q); first | lia | omega
  · have := pl_mono (B := B) q; first | lia | omega

noncomputable def word (g : Nat → Nat) (t : Th) : Int := if t.1 = true then 2 * (g t.2.toNat : Int) + 1 else 2 * t.2
noncomputable def cellsOf (g : Nat → Nat) (f : List Th) : List Int := (4 * (f.length : Int)) :: f.map (word g)
noncomputable def rowOf (g : Nat → Nat) (B : Bx) : List Int := (B.map (cellsOf g)).flatten
theorem rowOf_cons (g : Nat → Nat) (f : List Th) (B : Bx) : rowOf g (f :: B) = cellsOf g f ++ rowOf g B := by simp [rowOf]
theorem cellsOf_length (g : Nat → Nat) (f : List Th) : (cellsOf g f).length = 1 + f.length := by simp [cellsOf]; first | lia | omega
theorem rowOf_length (g : Nat → Nat) : ∀ B : Bx, (rowOf g B).length = pl B B.length
  | [] => by simp [rowOf, pl]
  | f :: B => by rw [rowOf_cons, List.length_append, cellsOf_length, rowOf_length g B, List.length_cons, pl_cons]
theorem rowOf_append (g : Nat → Nat) (B C : Bx) : rowOf g (B ++ C) = rowOf g B ++ rowOf g C := by simp [rowOf]
theorem rowOf_at (g : Nat → Nat) (zs : List Int) : ∀ {B : Bx} {k : Nat} {f : List Th} (j : Nat), B[k]? = some f → j < 1 + f.length → (rowOf g B ++ zs)[pl B k + j]? = (cellsOf g f)[j]?
  | [], _, _, _, h, _ => by simp at h
  | e :: B, 0, f, j, h, hj => by
    simp at h; subst h
    rw [pl_zero, rowOf_cons, List.append_assoc, Nat.zero_add, List.getElem?_append_left (by rw [cellsOf_length]; exact hj)]
  | e :: B, k + 1, f, j, h, hj => by
    simp at h
    rw [pl_cons, rowOf_cons, List.append_assoc, List.getElem?_append_right (by rw [cellsOf_length]; omega), cellsOf_length]
    rw [show 1 + e.length + pl B k + j - (1 + e.length) = pl B k + j from by first | lia | omega]
    exact rowOf_at g zs j h hj
theorem rowOf_head (g : Nat → Nat) (zs : List Int) {B : Bx} {k : Nat} {f : List Th} (h : B[k]? = some f) : (rowOf g B ++ zs)[pl B k]? = some (4 * (f.length : Int)) := by
  have := rowOf_at g zs 0 h (by first | lia | omega)
  simpa [cellsOf] using this
theorem rowOf_field (g : Nat → Nat) (zs : List Int) {B : Bx} {k j : Nat} {f : List Th} {t : Th} (h : B[k]? = some f) (hj : f[j]? = some t) : (rowOf g B ++ zs)[pl B k + 1 + j]? = some (word g t) := by
  have hl : j < f.length := (List.getElem?_eq_some_iff.mp hj).1
  have := rowOf_at g zs (1 + j) h (by first | lia | omega)
  rw [show pl B k + 1 + j = pl B k + (1 + j) from by first | lia | omega, this, Nat.add_comm 1 j]
  simp [cellsOf, hj]

structure Shp (B : Bx) (xs : List Int) : Prop where
  len : xs.length ≤ 1000
  hd : ∀ {k : Nat} {f : List Th}, B[k]? = some f → xs[pl B k]? = some (4 * (f.length : Int))
  fld : ∀ {k j : Nat} {f : List Th} {t : Th}, B[k]? = some f → f[j]? = some t → xs[pl B k + 1 + j]? = some (word (pl B) t)
structure WFB (B : Bx) : Prop where
  pos : 0 < B.length
  tgt : ∀ f ∈ B, ∀ t ∈ f, t.1 = true → ∃ j : Nat, t.2 = (j : Int) ∧ j < B.length
theorem shp_rowOf {B : Bx} {zs : List Int} (h : (rowOf (pl B) B ++ zs).length ≤ 1000) : Shp B (rowOf (pl B) B ++ zs) :=
  ⟨h, fun h => rowOf_head _ _ h, fun h hj => rowOf_field _ _ h hj⟩

inductive Reach (B : Bx) : Nat → Prop
  | zero : Reach B 0
  | step {k j : Nat} {f : List Th} : Reach B k → B[k]? = some f → (true, (j : Int)) ∈ f → Reach B j
theorem Reach.lt {B : Bx} (w : WFB B) {k : Nat} (h : Reach B k) : k < B.length := by
  cases h with
  | zero => exact w.pos
  | step _ hf ht =>
    obtain ⟨j, e, hj⟩ := w.tgt _ (List.mem_of_getElem? hf) _ ht rfl
    have : _ = j := Int.ofNat.inj e
    first | lia | omega

theorem nodup_bound : ∀ (n : Nat) {l : List Nat}, l.Nodup → (∀ k ∈ l, k < n) → l.length ≤ n
  | 0, l, _, h => by
    cases l with
    | nil => simp
    | cons a l => exact absurd (h a List.mem_cons_self) (by first | lia | omega)
  | n + 1, l, hn, h => by
    by_cases q : n ∈ l
    · have h1 := nodup_bound n (l := l.erase n) (hn.erase n) (fun k hk => by
        have h2 := h k (List.mem_of_mem_erase hk)
        have h3 : k ≠ n := fun e => by subst e; exact (List.Nodup.not_mem_erase hn) hk
        omega)
      rw [List.length_erase_of_mem q] at h1
      first | lia | omega
    · have := nodup_bound n hn (fun k hk => by
        have h2 := h k hk
        have h3 : k ≠ n := fun e => by subst e; exact q hk
        omega)
      first | lia | omega

noncomputable def bump (xs : List Int) (cs : List Nat) : List Int := xs.mapIdx fun i x => if i ∈ cs then x + 2 else x
theorem bump_length (xs : List Int) (cs : List Nat) : (bump xs cs).length = xs.length := by simp [bump]
theorem bump_get (xs : List Int) (cs : List Nat) (i : Nat) : (bump xs cs)[i]? = xs[i]?.map fun x => if i ∈ cs then x + 2 else x := by simp [bump]
theorem bump_nil (xs : List Int) : bump xs [] = xs := by
  apply List.ext_getElem?; intro i; rw [bump_get]; simp
theorem bump_congr (xs : List Int) {cs ds : List Nat} (h : ∀ i, i ∈ cs ↔ i ∈ ds) : bump xs cs = bump xs ds := by
  apply List.ext_getElem?; intro i; rw [bump_get, bump_get]; simp [h]
theorem bump_set {xs : List Int} {cs : List Nat} {c : Nat} {x : Int} (hx : xs[c]? = some x) : (bump xs cs).set c (x + 2) = bump xs (c :: cs) := by
  apply List.ext_getElem?; intro i
  rw [List.getElem?_set, bump_get, bump_get, bump_length]
  by_cases h : c = i
  · subst h
    have : c < xs.length := (List.getElem?_eq_some_iff.mp hx).1
    simp [this, (List.getElem?_eq_some_iff.mp hx).2]
  · have : ¬ i = c := fun e => h e.symm
    simp [h, this]

theorem getD_of {B : Bx} {k : Nat} {fl : List Th} (h : B[k]? = some fl) : B.getD k [] = fl := by simp [List.getD, h]
theorem tgt_of {B : Bx} (w : WFB B) {i f : Nat} {fi : List Th} {v : Int} (h : B[i]? = some fi) (hf : fi[f]? = some (true, v)) : ∃ j : Nat, v = (j : Int) ∧ j < B.length :=
  w.tgt _ (List.mem_of_getElem? h) _ (List.mem_of_getElem? hf) rfl
end Mine
end

section
namespace Mine

noncomputable def kl (p : Nat → Bool) (n : Nat) : List Nat := (List.range n).filter p
theorem kl_succ (p : Nat → Bool) (n : Nat) : kl p (n + 1) = kl p n ++ if p n then [n] else [] := by
  simp [kl, List.range_succ, List.filter_append, List.filter_cons]
theorem kl_mem {p : Nat → Bool} {n x : Nat} : x ∈ kl p n ↔ x < n ∧ p x = true := by simp [kl]
theorem kl_sorted (p : Nat → Bool) (n : Nat) : (kl p n).Pairwise (· < ·) := List.Pairwise.filter _ List.pairwise_lt_range

end Mine
end

section
namespace Mine
open PySem PyProof.Rows

structure Ext (cx : Cx) (H H' : HP) : Prop where
  le : LE H H'
  z : ∀ a l, cx.Z a = some l → H a = none → H' a = none
section
variable {cx : Cx} {H H' H'' : HP} {n : Nat} {a r : Addr} {o : O} {Q : V → HP → Prop}
theorem Ext.refl (cx : Cx) (H : HP) : Ext cx H H := ⟨LE.refl H, fun _ _ _ h => h⟩
theorem Ext.trans (x : Ext cx H H') (y : Ext cx H' H'') : Ext cx H H'' := ⟨x.le.trans y.le, fun a l h1 h2 => y.z a l h1 (x.z a l h1 h2)⟩
theorem Ext.lk (x : Ext cx H H') (h : lk cx H a = some o) : Mine.lk cx H' a = some o := by
  unfold Mine.lk at h ⊢
  cases e : H a with
  | some o' => rw [e] at h; rw [x.le a o' e]; exact h
  | none =>
    rw [e] at h
    cases e2 : cx.Z a with
    | none => rw [e2] at h; cases h
    | some l => rw [e2] at h; rw [x.z a l e2 e]; exact h
theorem Ext.upd (x : Ext cx H H') (h1 : H r = none) (h2 : cx.Z r = none) (o : O) : Ext cx H (upd H' r o) := by
  refine ⟨fun b o' e => ?_, fun b l e1 e2 => ?_⟩
  · have : b ≠ r := fun q => by subst q; rw [h1] at e; cases e
    rw [upd_ne _ this]; exact x.le b o' e
  · have : b ≠ r := fun q => by subst q; rw [h2] at e1; cases e1
    rw [upd_ne _ this]; exact x.z b l e1 e2
theorem Ext.new (hr : Fresh cx H r) (o : O) : Ext cx H (Mine.upd H r o) := (Ext.refl cx H).upd hr.1 hr.2.2 o
theorem Ext.new' (x : Ext cx H H') (hr : Fresh cx H' r) (o : O) : Ext cx H (Mine.upd H' r o) := x.trans (Ext.new hr o)
theorem Ext.fresh (x : Ext cx H H') (hr : Fresh cx H' r) : Fresh cx H r := by
  refine ⟨?_, hr.2⟩
  cases e : H r with
  | none => rfl
  | some o => have := x.le r o e; rw [hr.1] at this; cases this

noncomputable def All2 {α β : Type} (R : α → β → Prop) (xs : List α) (ys : List β) : Prop := xs.length = ys.length ∧ ∀ (i : Nat) (x : α) (y : β), xs[i]? = some x → ys[i]? = some y → R x y
theorem All2.nil {α β : Type} {R : α → β → Prop} : All2 R [] [] := ⟨rfl, fun i x y h => by simp at h⟩
theorem All2.snoc {α β : Type} {R : α → β → Prop} {xs : List α} {ys : List β} (h : All2 R xs ys) {x : α} {y : β} (hr : R x y) : All2 R (xs ++ [x]) (ys ++ [y]) := by
  refine ⟨by simp [h.1], fun i u v hu hv => ?_⟩
  by_cases q : i < xs.length
  · rw [List.getElem?_append_left q] at hu
    rw [List.getElem?_append_left (by rw [← h.1]; exact q)] at hv
    exact h.2 i u v hu hv
  · rw [List.getElem?_append_right (by omega)] at hu
    rw [List.getElem?_append_right (by rw [← h.1]; omega), ← h.1] at hv
    cases e : i - xs.length with
    | zero => rw [e] at hu hv; simp at hu hv; subst hu; subst hv; exact hr
    | succ m => rw [e] at hu; simp at hu
theorem All2.imp {α β : Type} {R S : α → β → Prop} {xs : List α} {ys : List β} (h : All2 R xs ys) (f : ∀ x y, R x y → S x y) : All2 S xs ys := ⟨h.1, fun i x y a b => f x y (h.2 i x y a b)⟩
theorem All2.get {α β : Type} {R : α → β → Prop} {xs : List α} {ys : List β} (h : All2 R xs ys) {i : Nat} {x : α} (hx : xs[i]? = some x) : ∃ y, ys[i]? = some y ∧ R x y := by
  have hl := (List.getElem?_eq_some_iff.mp hx).1
  have hl' : i < ys.length := by rw [← h.1]; exact hl
  have hy : ys[i]? = some ys[i] := List.getElem?_eq_getElem hl'
  exact ⟨_, hy, h.2 i x _ hx hy⟩
theorem All2.get' {α β : Type} {R : α → β → Prop} {xs : List α} {ys : List β} (h : All2 R xs ys) {i : Nat} {y : β} (hy : ys[i]? = some y) : ∃ x, xs[i]? = some x ∧ R x y := by
  have hl := (List.getElem?_eq_some_iff.mp hy).1
  have hl' : i < xs.length := by rw [h.1]; exact hl
  have hx : xs[i]? = some xs[i] := List.getElem?_eq_getElem hl'
  exact ⟨_, hx, h.2 i _ y hx hy⟩

noncomputable def natsV (l : List Nat) : List V := intsV (l.map fun k : Nat => (k : Int))
theorem natsV_length (l : List Nat) : (natsV l).length = l.length := by simp [natsV, intsV]
theorem natsV_get? (l : List Nat) (i : Nat) : (natsV l)[i]? = l[i]?.map fun k : Nat => V.int (k : Int) := by simp [natsV, intsV]; rfl
theorem natsV_snoc (l : List Nat) (k : Nat) : natsV l ++ [.int (k : Int)] = natsV (l ++ [k]) := by simp [natsV, intsV]

noncomputable def thV (t : Th) : List V := [.str (Str.ofString (if t.1 = true then "box" else "number")), .int t.2]
noncomputable def ThAt (cx : Cx) (H : HP) (v : V) (t : Th) : Prop := ∃ b, v = .ref b ∧ lk cx H b = some (.tup (thV t))
noncomputable def FldAt (cx : Cx) (H : HP) (v : V) (f : List Th) : Prop := ∃ a vs, v = .ref a ∧ lk cx H a = some (.list vs) ∧ All2 (ThAt cx H) vs f
noncomputable def BoxAt (cx : Cx) (H : HP) (v : V) (B : Bx) : Prop := ∃ a vs, v = .ref a ∧ lk cx H a = some (.list vs) ∧ All2 (FldAt cx H) vs B
theorem ThAt.ext (x : Ext cx H H') {v : V} {t : Th} : ThAt cx H v t → ThAt cx H' v t := fun ⟨b, h1, h2⟩ => ⟨b, h1, x.lk h2⟩
theorem FldAt.ext (x : Ext cx H H') {v : V} {f : List Th} : FldAt cx H v f → FldAt cx H' v f := fun ⟨b, vs, h1, h2, h3⟩ => ⟨b, vs, h1, x.lk h2, h3.imp fun _ _ => ThAt.ext x⟩
theorem BoxAt.ext (x : Ext cx H H') {v : V} {f : Bx} : BoxAt cx H v f → BoxAt cx H' v f := fun ⟨b, vs, h1, h2, h3⟩ => ⟨b, vs, h1, x.lk h2, h3.imp fun _ _ => FldAt.ext x⟩
end
theorem len_le_pl (B : Bx) : ∀ {k}, k ≤ B.length → k ≤ pl B k
  | 0, _ => Nat.zero_le _
  | k + 1, h => by
    have := len_le_pl B (show k ≤ B.length by first | with_reducible exact Int.natCast_nonneg _ | with_reducible assumption | lia | omega)
    have := pl_lt (B := B) (i := k) (j := k + 1) (by first | with_reducible exact Int.natCast_nonneg _ | with_reducible assumption | lia | omega) (by first | with_reducible exact Int.natCast_nonneg _ | with_reducible assumption | lia | omega)
    first | lia | omega
theorem fld_le_pl {B : Bx} {k : Nat} {f : List Th} (h : B[k]? = some f) : f.length < pl B B.length := by
  have hk := (List.getElem?_eq_some_iff.mp h).1
  have h1 := pl_succ h
  have := pl_mono (B := B) (show k + 1 ≤ B.length from hk)
  first | lia | omega

section
variable {cx : Cx} {H H' : HP} {n : Nat} {a r : Addr} {o : O} {Q : V → HP → Prop}
noncomputable def m_heads (f_fields_of : Addr) : MSs :=
  (.cons (.assign 2 (.list .nil))
  (.cons (.assign 3 (.cint (0)))
  (.cons (.while_ (.cmp (.loc 3) .Lt (.loc 1)) (.cons (.expr (.meth (.loc 2) .append (.cons (.loc 3) .nil)))
    (.cons (.assign 3 (.bin .Add (.bin .Add (.loc 3) (.cint (1))) (.callf f_fields_of (.cons (.sub (.loc 0) (.loc 3)) .nil))))
    .nil)))
  (.cons (.ret (.loc 2))
  .nil))))
noncomputable def m_with_mark (f_head_word f_fields_of : Addr) : MSs :=
  (.cons (.assign 2 (.callb .list (.cons (.loc 0) .nil)))
  (.cons (.setSub (.loc 2) (.loc 1) (.callf f_head_word (.cons (.callf f_fields_of (.cons (.sub (.loc 0) (.loc 1)) .nil)) (.cons (.cbool true) .nil))))
  (.cons (.ret (.loc 2))
  .nil)))
noncomputable def m_marked (f_with_mark f_fields_of f_is_link f_is_marked f_told_by : Addr) : MSs :=
  (.cons (.assign 2 (.callf f_with_mark (.cons (.loc 0) (.cons (.cint (0)) .nil))))
  (.cons (.assign 3 (.list (.cons (.cint (0)) .nil)))
  (.cons (.while_ (.cmp (.callb .len (.cons (.loc 3) .nil)) .Gt (.cint (0))) (.cons (.assign 4 (.meth (.loc 3) .pop .nil))
    (.cons (.for_ 5 (.slice (.loc 2) (.bin .Add (.loc 4) (.cint (1))) (.bin .Add (.bin .Add (.loc 4) (.cint (1))) (.callf f_fields_of (.cons (.sub (.loc 2) (.loc 4)) .nil)))) (.cons (.ite (.bop .And (.cons (.callf f_is_link (.cons (.loc 5) .nil)) (.cons (.not (.callf f_is_marked (.cons (.sub (.loc 2) (.callf f_told_by (.cons (.loc 5) .nil))) .nil))) .nil))) (.cons (.assign 2 (.callf f_with_mark (.cons (.loc 2) (.cons (.callf f_told_by (.cons (.loc 5) .nil)) .nil))))
        (.cons (.expr (.meth (.loc 3) .append (.cons (.callf f_told_by (.cons (.loc 5) .nil)) .nil)))
        .nil)) .nil)
      .nil))
    .nil)))
  (.cons (.ret (.loc 2))
  .nil))))

theorem withmark_ms {f_head_word f_fields_of row : Addr} {xs : List Int} {p : Nat} {w : Int} (h1 : ∀ (p : Int) (b : Bool) (H : HP) (Q : V → HP → Prop), Q (.int (4 * p + 2 * (if b then 1 else 0))) H → CallP cx n f_head_word [.int p, .bool b] H Q) (h2 : Fn1 cx n f_fields_of fun w => .int (w.fdiv 4))
    (hrow : lk cx H row = some (.list (intsV xs))) (hlen : xs.length ≤ 1000) (hp : xs[p]? = some w)
    (hQ : ∀ r, Fresh cx H r → Q (.ref r) (upd H r (.list (intsV (xs.set p (4 * (w.fdiv 4) + 2)))))) :
    mwpSs cx n (m_with_mark f_head_word f_fields_of) [.ref row, .int p, .unb] H (NQ Q) (RQ Q) := by
  have hpl : p < xs.length := (List.getElem?_eq_some_iff.mp hp).1
  refine S_cons ?_
  walk_at "st"
  simp only [hrow, ints_length]
  refine ⟨by first | with_reducible exact Int.natCast_nonneg _ | with_reducible assumption | lia | omega, fun r hr => S_cons ?_⟩
  walk_at "st"
  simp only [lk_fresh hr hrow, ints_length, ints_get?, Int.toNat_natCast, hp, Option.map_some]
  refine ⟨by first | with_reducible exact Int.natCast_nonneg _ | with_reducible assumption | lia | omega, by first | with_reducible exact Int.natCast_nonneg _ | with_reducible assumption | lia | omega, h2 _ _ _ ?_⟩
  dsimp only
  refine h1 _ _ _ _ ?_
  simp only [upd_same, ints_length, Int.toNat_natCast, ints_set, upd_upd]
  refine ⟨by first | with_reducible exact Int.natCast_nonneg _ | with_reducible assumption | lia | omega, by first | with_reducible exact Int.natCast_nonneg _ | with_reducible assumption | lia | omega, hpl, S_cons ?_⟩
  walk_at "st"
  exact RQ.here (by simpa using hQ r hr)
noncomputable def WithMarkSpec (cx : Cx) (n : Nat) (f : Addr) : Prop := ∀ (row : Addr) (xs : List Int) (p : Nat) (w : Int) (H : HP) (Q : V → HP → Prop), lk cx H row = some (.list (intsV xs)) → xs.length ≤ 1000 → xs[p]? = some w →
  (∀ r, Fresh cx H r → Q (.ref r) (upd H r (.list (intsV (xs.set p (4 * (w.fdiv 4) + 2)))))) → CallP cx n f [.ref row, .int p] H Q

theorem heads_ms {f_fields_of row : Addr} {xs : List Int} {B : Bx} (h2 : Fn1 cx n f_fields_of fun w => .int (w.fdiv 4))
    (hrow : lk cx H row = some (.list (intsV xs))) (s : Shp B xs) (hB : pl B B.length ≤ 1000)
    (hQ : ∀ r H', Ext cx H H' → Fresh cx H r → H' r = some (.list (natsV ((List.range B.length).map (pl B)))) → Q (.ref r) H') :
    mwpSs cx n (m_heads f_fields_of) [.ref row, .int (pl B B.length), .unb, .unb] H (NQ Q) (RQ Q) := by
  refine S_cons ?_
  walk_at "st"
  refine ⟨by simp, fun r hr => S_cons ?_⟩
  walk_at "st"
  refine S_cut (fun μ H' => μ = [.ref row, .int (pl B B.length), .ref r, .int (pl B B.length)] ∧ Ext cx H H' ∧ H' r = some (.list (natsV ((List.range B.length).map (pl B))))) ?_ ?_
  · rw [s_while]
    refine ⟨fun m μ H' => ∃ k, k + m = B.length ∧ μ = [.ref row, .int (pl B B.length), .ref r, .int (pl B k)] ∧ Ext cx H H' ∧ H' r = some (.list (natsV ((List.range k).map (pl B)))), ⟨B.length, 0, by first | with_reducible exact Int.natCast_nonneg _ | with_reducible assumption | lia | omega, by rw [pl_zero]; rfl, Ext.new hr _, by rw [upd_same]; rfl⟩, ?_⟩
    rintro m μ H' ⟨k, hm, rfl, hE, hr'⟩
    walk_at "st"
    cases m with
    | zero =>
      have : k = B.length := by omega
      subst this
      refine ⟨fun q => ?_, fun _ => ⟨rfl, hE, hr'⟩⟩
      rw [decide_eq_true_iff] at q; first | lia | omega
    | succ m =>
      have hk : B[k]? = some B[k] := List.getElem?_eq_getElem (by omega)
      have hkl := len_le_pl B (show B.length ≤ B.length by first | with_reducible exact Int.natCast_nonneg _ | with_reducible assumption | lia | omega)
      refine ⟨fun _ => S_cons ?_, fun q => ?_⟩
      · walk_at "st"
        simp only [hr', natsV_length, List.length_map, List.length_range]
        refine ⟨trivial, by first | with_reducible exact Int.natCast_nonneg _ | with_reducible assumption | lia | omega, S_cons ?_⟩
        have hE2 := hE.upd hr.1 hr.2.2 (.list (natsV ((List.range k).map (pl B)) ++ [.int (pl B k)]))
        walk_at "st"
        have := s.len
        simp only [hE2.lk hrow, ints_length, ints_get?, Int.toNat_natCast, s.hd hk, Option.map_some]
        refine ⟨by first | with_reducible exact Int.natCast_nonneg _ | with_reducible assumption | lia | omega, by first | with_reducible exact Int.natCast_nonneg _ | with_reducible assumption | lia | omega, h2 _ _ _ ?_⟩
        walk_at "st"
        refine S_nil ⟨_, LE.refl _, m, by first | with_reducible exact Int.natCast_nonneg _ | with_reducible assumption | lia | omega, k + 1, by first | with_reducible exact Int.natCast_nonneg _ | with_reducible assumption | lia | omega, ?_, hE2, ?_⟩
        · rw [pl_succ hk, fdiv4, show ((pl B k : Int) + 1 + 4 * (B[k].length : Int) / 4) = ((pl B k + 1 + B[k].length : Nat) : Int) from by first | with_reducible exact Int.natCast_nonneg _ | with_reducible assumption | lia | omega]
        · rw [upd_same, natsV_snoc, List.range_succ, List.map_append]; rfl
      · have := pl_lt (B := B) (i := k) (j := B.length) (by first | with_reducible exact Int.natCast_nonneg _ | with_reducible assumption | lia | omega) (by first | with_reducible exact Int.natCast_nonneg _ | with_reducible assumption | lia | omega)
        rw [decide_eq_false_iff_not] at q; first | lia | omega
  rintro μ' H' ⟨rfl, hE, hr'⟩
  refine S_cons ?_
  walk_at "st"
  exact RQ.here (hQ r H' hE hr hr')
noncomputable def HeadsSpec (cx : Cx) (n : Nat) (f : Addr) : Prop := ∀ (row : Addr) (xs : List Int) (B : Bx) (H : HP) (Q : V → HP → Prop), lk cx H row = some (.list (intsV xs)) → Shp B xs → pl B B.length ≤ 1000 →
  (∀ r H', Ext cx H H' → Fresh cx H r → H' r = some (.list (natsV ((List.range B.length).map (pl B)))) → Q (.ref r) H') → CallP cx n f [.ref row, .int (pl B B.length)] H Q
end
end Mine
end

section
namespace Mine
open PySem PyProof.Rows

structure MK (B : Bx) (M W : List Nat) (ex : Nat → Prop) : Prop where
  nd : M.Nodup
  rc : ∀ k ∈ M, Reach B k
  z : 0 ∈ M
  sub : ∀ k ∈ W, k ∈ M
  cl : ∀ k ∈ M, k ∉ W → ¬ ex k → ∀ f, B[k]? = some f → ∀ j : Nat, (true, (j : Int)) ∈ f → j ∈ M
section
variable {B : Bx} {M W : List Nat} {ex : Nat → Prop} {k j : Nat}
theorem MK.start : MK B [0] [0] (fun _ => False) := ⟨by simp, fun k hk => by rw [List.mem_singleton.mp hk]; exact Reach.zero, by simp, fun k hk => hk, fun k hk hn => absurd hk hn⟩
theorem MK.pop (h : MK B M (W ++ [k]) fun _ => False) : MK B M W (fun i => i = k) ∧ k ∈ M := by
  refine ⟨⟨h.nd, h.rc, h.z, fun i hi => h.sub i (List.mem_append_left _ hi), fun i hi hn he => h.cl i hi ?_ (fun q => q)⟩, h.sub k (by simp)⟩
  intro hm
  rcases List.mem_append.mp hm with q | q
  · exact hn q
  · exact he (List.mem_singleton.mp q)
theorem MK.add (h : MK B M W ex) (hr : Reach B j) (hj : j ∉ M) : MK B (j :: M) (W ++ [j]) ex := by
  refine ⟨List.nodup_cons.mpr ⟨hj, h.nd⟩, ?_, List.mem_cons_of_mem _ h.z, ?_, ?_⟩
  · intro i hi
    rcases List.mem_cons.mp hi with rfl | hi
    · exact hr
    · exact h.rc i hi
  · intro i hi
    rcases List.mem_append.mp hi with q | q
    · exact List.mem_cons_of_mem _ (h.sub i q)
    · rw [List.mem_singleton.mp q]; exact List.mem_cons_self
  · intro i hi hn he f hf t ht
    rcases List.mem_cons.mp hi with rfl | hi
    · exact absurd (List.mem_append_right _ List.mem_cons_self) hn
    · exact List.mem_cons_of_mem _ (h.cl i hi (fun q => hn (List.mem_append_left _ q)) he f hf t ht)
theorem MK.fin (h : MK B M W fun i => i = k) (hk : ∀ f, B[k]? = some f → ∀ j : Nat, (true, (j : Int)) ∈ f → j ∈ M) : MK B M W fun _ => False := by
  refine ⟨h.nd, h.rc, h.z, h.sub, fun i hi hn _ f hf t ht => ?_⟩
  by_cases q : i = k
  · subst q; exact hk f hf t ht
  · exact h.cl i hi hn q f hf t ht
theorem MK.done (h : MK B M [] fun _ => False) (k : Nat) : k ∈ M ↔ Reach B k := by
  refine ⟨h.rc k, fun hr => ?_⟩
  induction hr with
  | zero => exact h.z
  | step _ hf ht ih => exact h.cl _ ih (by simp) (fun q => q) _ hf _ ht
theorem MK.len (w : WFB B) (h : MK B M W ex) : M.length ≤ B.length := nodup_bound _ h.nd fun k hk => (h.rc k hk).lt w
end
theorem slice_eq {ys l : List Int} {a : Nat} (h : ∀ j, j < l.length → ys[a + j]? = l[j]?) (hl : l.length = 0 ∨ a + l.length ≤ ys.length) : (ys.take (min (a + l.length) ys.length)).drop (min a ys.length) = l := by
  apply List.ext_getElem?; intro i
  rw [List.getElem?_drop, List.getElem?_take]
  by_cases q : i < l.length
  · rw [if_pos (by first | with_reducible exact Int.natCast_nonneg _ | with_reducible assumption | lia | omega), show min a ys.length = a from by first | with_reducible exact Int.natCast_nonneg _ | with_reducible assumption | lia | omega]; exact h i q
  · rw [List.getElem?_eq_none (show l.length ≤ i by first | with_reducible exact Int.natCast_nonneg _ | with_reducible assumption | lia | omega)]
    rcases hl with hl | hl
    · rw [if_neg (by first | with_reducible exact Int.natCast_nonneg _ | with_reducible assumption | lia | omega)]
    · rw [if_neg (by first | with_reducible exact Int.natCast_nonneg _ | with_reducible assumption | lia | omega)]
theorem bump_head {B : Bx} {xs : List Int} {M : List Nat} {k : Nat} {f : List Th} (s : Shp B xs) (hM : ∀ k ∈ M, k < B.length) (h : B[k]? = some f) : (bump xs (M.map (pl B)))[pl B k]? = some (4 * (f.length : Int) + if k ∈ M then 2 else 0) := by
  have hkl := (List.getElem?_eq_some_iff.mp h).1
  rw [bump_get, s.hd h, Option.map_some]
  have : pl B k ∈ M.map (pl B) ↔ k ∈ M := by
    rw [List.mem_map]
    refine ⟨fun ⟨i, hi, e⟩ => ?_, fun q => ⟨k, q, rfl⟩⟩
    rw [← pl_inj (hM i hi) hkl e]; exact hi
  by_cases q : k ∈ M
  · rw [if_pos (this.mpr q), if_pos q]
  · rw [if_neg (fun q' => q (this.mp q')), if_neg q]; simp
theorem bump_fld {B : Bx} {xs : List Int} {M : List Nat} {k j : Nat} {f : List Th} {t : Th} (s : Shp B xs) (h : B[k]? = some f) (hj : f[j]? = some t) : (bump xs (M.map (pl B)))[pl B k + 1 + j]? = some (word (pl B) t) := by
  rw [bump_get, s.fld h hj, Option.map_some, if_neg]
  intro hm
  obtain ⟨i, _, e⟩ := List.mem_map.mp hm
  exact pl_ne h (List.getElem?_eq_some_iff.mp hj).1 e.symm
theorem bump_mark {B : Bx} {xs : List Int} {M : List Nat} {k : Nat} {f : List Th} (s : Shp B xs) (h : B[k]? = some f) : (bump xs (M.map (pl B))).set (pl B k) (4 * ((4 * (f.length : Int)).fdiv 4) + 2) = bump xs ((k :: M).map (pl B)) := by
  rw [fdiv4, show (4 * (f.length : Int)) / 4 = f.length from by first | with_reducible exact Int.natCast_nonneg _ | with_reducible assumption | lia | omega, bump_set (s.hd h)]; rfl

section
variable {cx : Cx} {H H' : HP} {n : Nat} {a r : Addr} {o : O} {Q : V → HP → Prop}
structure MS1 (cx : Cx) (B : Bx) (xs : List Int) (H0 : HP) (wa fa : Addr) (M W : List Nat) (H : HP) : Prop where
  ext : Ext cx H0 H
  fr : Fresh cx H0 fa
  fd : H fa = some (.list (intsV (bump xs (M.map (pl B)))))
  wt : H wa = some (.list (natsV (W.map (pl B))))
  ne : fa ≠ wa
noncomputable abbrev MI1 (cx : Cx) (B : Bx) (xs : List Int) (H : HP) (row wa : Addr) (used : Int) (m : Nat) (μ : List V) (H' : HP) : Prop :=
  ∃ fa M W z4 z5, μ = [.ref row, .int used, .ref fa, .ref wa, z4, z5] ∧ MS1 cx B xs H wa fa M W H' ∧ MK B M W (fun _ => False) ∧ m = 2 * (B.length - M.length) + W.length ∧ m ≤ 2 * B.length
noncomputable abbrev MI2 (cx : Cx) (B : Bx) (xs : List Int) (H : HP) (row wa sl : Addr) (used : Int) (m k : Nat) (f : List Th) (done μ : List V) (H' : HP) : Prop :=
  ∃ fa M' W' z5, μ = [.ref row, .int used, .ref fa, .ref wa, .int (pl B k), z5] ∧ MS1 cx B xs H wa fa M' W' H' ∧ H' sl = some (.list (intsV (f.map (word (pl B))))) ∧ MK B M' W' (fun i => i = k) ∧ 2 * (B.length - M'.length) + W'.length < m ∧ k ∈ M' ∧
    (∀ i (j : Nat), i < done.length → f[i]? = some (true, (j : Int)) → j ∈ M')
noncomputable abbrev MI3 (cx : Cx) (B : Bx) (xs : List Int) (H : HP) (row wa : Addr) (used : Int) (μ : List V) (H' : HP) : Prop :=
  ∃ fa M z4 z5, μ = [.ref row, .int used, .ref fa, .ref wa, z4, z5] ∧ MS1 cx B xs H wa fa M [] H' ∧ MK B M [] fun _ => False
theorem marked_ms {f_with_mark f_fields_of f_is_link f_is_marked f_told_by row : Addr} {xs : List Int} {B : Bx} {used : Int} (hwm : WithMarkSpec cx n f_with_mark) (h2 : Fn1 cx n f_fields_of fun w => .int (w.fdiv 4)) (h3 : Fn1 cx n f_is_link fun w => .bool (w.fmod 2 == 1)) (h4 : Fn1 cx n f_is_marked fun w => .bool ((w.fdiv 2).fmod 2 == 1)) (h5 : Fn1 cx n f_told_by fun w => .int (w.fdiv 2))
    (hrow : lk cx H row = some (.list (intsV xs))) (s : Shp B xs) (w : WFB B) (hB : B.length ≤ 1000)
    (hQ : ∀ (r : Addr) (H' : HP) (M : List Nat), Ext cx H H' → Fresh cx H r → H' r = some (.list (intsV (bump xs (M.map (pl B))))) → (∀ k, k ∈ M ↔ Reach B k) → Q (.ref r) H') :
    mwpSs cx n (m_marked f_with_mark f_fields_of f_is_link f_is_marked f_told_by) [.ref row, .int used, .unb, .unb, .unb, .unb] H (NQ Q) (RQ Q) := by
  have hlen := s.len
  have hpos := w.pos
  have h00 : B[0]? = some B[0] := List.getElem?_eq_getElem w.pos
  refine S_cons ?_
  try (walk_at "st")
  have hp0 := s.hd h00
  rw [pl_zero] at hp0
  refine hwm _ xs 0 _ _ _ hrow hlen hp0 fun fa hfa => ?_
  have hb0 := bump_mark (M := []) s h00
  rw [List.map_nil, bump_nil, pl_zero] at hb0
  rw [hb0]
  refine S_cons ?_
  try (walk_at "st")
  refine ⟨by simp, fun wa hwa => ?_⟩
  have hfw : fa ≠ wa := hwa.ne lk_same
  have hwaH : Fresh cx H wa := (Ext.new hfa _).fresh hwa
  have I0 : MS1 cx B xs H wa fa [0] [0] (upd (upd H fa (.list (intsV (bump xs ([0].map (pl B)))))) wa (.list [.int 0])) :=
    ⟨(Ext.new hfa _).new' hwa _, hfa, by rw [upd_ne _ hfw, upd_same], by rw [upd_same]; simp [natsV, intsV, pl_zero], hfw⟩
  refine S_cut (MI3 cx B xs H row wa used) ?_ ?_
  · rw [s_while]
    refine ⟨MI1 cx B xs H row wa used, ⟨_, fa, [0], [0], _, _, rfl, I0, MK.start, rfl, by have := w.pos; simp; omega⟩, ?_⟩
    rintro m μ H1 ⟨fa, M, W, z4, z5, rfl, I, K, hm, hm2⟩
    try (walk_at "st")
    simp only [lk_of I.wt, natsV_length, List.length_map]
    refine ⟨by first | with_reducible exact Int.natCast_nonneg _ | with_reducible assumption | lia | omega, ?_⟩
    try (walk_at "st")
    rcases List.eq_nil_or_concat W with rfl | ⟨W, k, rfl⟩
    · refine ⟨fun q => ?_, fun _ => ⟨fa, M, z4, z5, rfl, I, K⟩⟩
      simp at q
    rw [List.concat_eq_append] at *
    refine ⟨fun _ => S_cons ?_, fun q => False.elim (by rw [decide_eq_false_iff_not, List.length_append, List.length_singleton] at q; omega)⟩
    obtain ⟨K1, hkM⟩ := K.pop
    have hkr := K.rc k hkM
    have hkl := hkr.lt w
    have hk : B[k]? = some B[k] := List.getElem?_eq_getElem hkl
    have hMl : ∀ i ∈ M, i < B.length := fun i hi => (K.rc i hi).lt w
    try (walk_at "st")
    have hlast : (natsV ((W ++ [k]).map (pl B))).getLast? = some (.int (pl B k)) := by simp [natsV, intsV]
    have hdrop : (natsV ((W ++ [k]).map (pl B))).dropLast = natsV (W.map (pl B)) := by simp [natsV, intsV]
    simp only [I.wt, natsV_length, List.length_map, List.length_append, List.length_cons, List.length_nil, hlast, hdrop]
    refine ⟨trivial, by simp at hm; omega, S_cons ?_⟩
    have hwt2 : (upd H1 wa (.list (natsV (W.map (pl B))))) wa = some (.list (natsV (W.map (pl B)))) := upd_same _ _ _
    have hfd2 : (upd H1 wa (.list (natsV (W.map (pl B))))) fa = some (.list (intsV (bump xs (M.map (pl B))))) := by rw [upd_ne _ I.ne]; exact I.fd
    have I2 : MS1 cx B xs H wa fa M W (upd H1 wa (.list (natsV (W.map (pl B))))) := ⟨I.ext.upd hwaH.1 hwaH.2.2 _, I.fr, hfd2, hwt2, I.ne⟩
    clear hwt2 hfd2 hlast hdrop
    generalize upd H1 wa (.list (natsV (W.map (pl B)))) = H2 at I2
    try (walk_at "st")
    have hbl : (bump xs (M.map (pl B))).length = xs.length := bump_length _ _
    simp only [lk_of I2.fd, ints_length, ints_get?, Int.toNat_natCast, bump_head s hMl hk, if_pos hkM, Option.map_some, hbl]
    refine ⟨by first | with_reducible exact Int.natCast_nonneg _ | with_reducible assumption | lia | omega, by first | with_reducible exact Int.natCast_nonneg _ | with_reducible assumption | lia | omega, h2 _ _ _ ?_⟩
    have hfd : (4 * (B[k].length : Int) + 2).fdiv 4 = (B[k].length : Int) := by rw [fdiv4]; first | lia | omega
    dsimp only
    rw [hfd]
    try (walk_at "st")
    simp only [lk_of I2.fd, ints_length, hbl]
    rw [show ((pl B k : Int) + 1 + (B[k].length : Int)) = ((pl B k + 1 + B[k].length : Nat) : Int) from by first | with_reducible exact Int.natCast_nonneg _ | with_reducible assumption | lia | omega, show ((pl B k : Int) + 1) = ((pl B k + 1 : Nat) : Int) from by first | with_reducible exact Int.natCast_nonneg _ | with_reducible assumption | lia | omega, cutLo_nn (by first | with_reducible exact Int.natCast_nonneg _ | with_reducible assumption | lia | omega), cutHi_nn (by first | with_reducible exact Int.natCast_nonneg _ | with_reducible assumption | lia | omega)]
    simp only [Int.toNat_natCast, cut_ints]
    have hsl : ((bump xs (M.map (pl B))).take (min (pl B k + 1 + B[k].length) xs.length)).drop (min (pl B k + 1) xs.length) = B[k].map (word (pl B)) := by
      have := slice_eq (ys := bump xs (M.map (pl B))) (l := B[k].map (word (pl B))) (a := pl B k + 1) ?_ ?_
      · rw [List.length_map, hbl] at this; exact this
      · intro j hj
        rw [List.length_map] at hj
        have ht : B[k][j]? = some B[k][j] := List.getElem?_eq_getElem hj
        rw [bump_fld s hk ht, List.getElem?_map, ht]; rfl
      · rw [List.length_map, hbl]
        cases hz : B[k].length with
        | zero => exact .inl rfl
        | succ m =>
          have ht : B[k][m]? = some B[k][m] := List.getElem?_eq_getElem (by omega)
          have := (List.getElem?_eq_some_iff.mp (s.fld hk ht)).1
          exact .inr (by first | with_reducible exact Int.natCast_nonneg _ | with_reducible assumption | lia | omega)
    rw [hsl]
    refine ⟨by first | with_reducible exact Int.natCast_nonneg _ | with_reducible assumption | lia | omega, fun sl hsl' => ?_⟩
    have hsw : sl ≠ wa := fun e => hsl'.ne (lk_of I2.wt) e.symm
    have hsf : fa ≠ sl := hsl'.ne (lk_of I2.fd)
    simp only [lk_same, ints_length, List.length_map]
    have hfl : B[k].length ≤ 1000 := by
      have := fld_le_pl hk
      cases hz : B[k].length with
      | zero => omega
      | succ m =>
        have ht : B[k][m]? = some B[k][m] := List.getElem?_eq_getElem (by omega)
        have := (List.getElem?_eq_some_iff.mp (s.fld hk ht)).1
        first | lia | omega
    refine ⟨by first | with_reducible exact Int.natCast_nonneg _ | with_reducible assumption | lia | omega, MI2 cx B xs H row wa sl used m k B[k], ?_, ?_, ?_, ?_⟩
    · refine ⟨fa, M, W, _, rfl, ⟨I2.ext.new' hsl' _, I2.fr, by rw [upd_ne _ hsf]; exact I2.fd, by rw [upd_ne _ (Ne.symm hsw)]; exact I2.wt, I2.ne⟩, upd_same _ _ _, K1, by simp at hm; omega, hkM, fun i j hi => absurd hi (by simp)⟩
    · rintro done μ H' ⟨_, _, _, _, _, _, h, _⟩; exact lk_of h
    · rintro done x rest μ H3 hitems ⟨fa', M', W', z5', rfl, I3, hsl3, K3, hm3, hkM', hall⟩
      have hx : (intsV (B[k].map (word (pl B))))[done.length]? = some x := by rw [hitems]; simp
      rw [ints_get?, List.getElem?_map] at hx
      cases ht : B[k][done.length]? with
      | none => rw [ht] at hx; cases hx
      | some t =>
      rw [ht] at hx
      simp only [Option.map_some, Option.some.injEq] at hx
      subst hx
      have hMl' : ∀ i ∈ M', i < B.length := fun i hi => (K3.rc i hi).lt w
      refine S_cons ?_
      try (walk_at "st")
      refine h3 _ _ _ ?_
      try (walk_at "st")
      rw [fmod2]
      obtain ⟨b, v⟩ := t
      cases b with
      | false =>
        have e : (word (pl B) (false, v) % 2 == 1) = false := by simp [word]
        rw [e]
        refine ⟨fun q => (by cases q), fun _ => ?_⟩
        refine ⟨fun q => (by cases q), fun _ => S_nil (S_nil ⟨_, LE.refl _, fa', M', W', _, rfl, I3, hsl3, K3, hm3, hkM', fun i j hi hij => ?_⟩)⟩
        rw [List.length_append] at hi
        by_cases q : i = done.length
        · subst q; rw [ht] at hij; cases hij
        · exact hall i j (by simp at hi; omega) hij
      | true =>
        obtain ⟨j, rfl, hj⟩ := tgt_of w hk ht
        have hjB : B[j]? = some B[j] := List.getElem?_eq_getElem hj
        have ew : word (pl B) (true, (j : Int)) = 2 * (pl B j : Int) + 1 := by simp [word]
        have e : (word (pl B) (true, (j : Int)) % 2 == 1) = true := by rw [ew, beq_iff_eq]; first | lia | omega
        have e2 : (word (pl B) (true, (j : Int))).fdiv 2 = (pl B j : Int) := by rw [ew, fdiv2]; first | lia | omega
        rw [e]
        refine ⟨fun _ => ?_, fun q => by cases q⟩
        refine h5 _ _ _ ?_
        dsimp only
        rw [e2]
        walk_at "st"
        have hbl' : (bump xs (M'.map (pl B))).length = xs.length := bump_length _ _
        simp only [lk_of I3.fd, ints_length, ints_get?, Int.toNat_natCast, bump_head s hMl' hjB, Option.map_some, hbl']
        refine ⟨by first | with_reducible exact Int.natCast_nonneg _ | with_reducible assumption | lia | omega, by first | with_reducible exact Int.natCast_nonneg _ | with_reducible assumption | lia | omega, h4 _ _ _ ?_⟩
        try (walk_at "st")
        have hkeep : j ∈ M' → ∀ i (j' : Nat), i < (done ++ [V.int (word (pl B) (true, (j : Int)))]).length → B[k][i]? = some (true, (j' : Int)) → j' ∈ M' := by
          intro hjM i j' hi hij
          rw [List.length_append] at hi
          by_cases q : i = done.length
          · subst q; rw [ht] at hij
            have : j = j' := by injection hij with q; injection q with _ q; exact Int.ofNat.inj q
            exact this ▸ hjM
          · exact hall i j' (by simp at hi; omega) hij
        by_cases hjM : j ∈ M'
        · rw [if_pos hjM]
          have e4 : ((4 * (B[j].length : Int) + 2).fdiv 2).fmod 2 == 1 := by rw [fdiv2, fmod2, beq_iff_eq]; first | lia | omega
          rw [e4]
          refine ⟨fun q => (by cases q), fun _ => S_nil (S_nil ⟨_, LE.refl _, fa', M', W', _, rfl, I3, hsl3, K3, hm3, hkM', hkeep hjM⟩)⟩
        · rw [if_neg hjM]
          have e4 : (((4 * (B[j].length : Int) + 0).fdiv 2).fmod 2 == 1) = false := by rw [fdiv2, fmod2, beq_eq_false_iff_ne]; first | lia | omega
          rw [e4]
          refine ⟨fun _ => S_cons ?_, fun q => by cases q⟩
          try (walk_at "st")
          refine h5 _ _ _ ?_
          dsimp only
          rw [e2]
          have hgj := bump_head s hMl' hjB
          rw [if_neg hjM, Int.add_zero] at hgj
          refine hwm _ _ _ _ _ _ (lk_of I3.fd) (by first | with_reducible exact Int.natCast_nonneg _ | with_reducible assumption | lia | omega) hgj fun fb hfb => ?_
          rw [bump_mark s hjB]
          have hfbw : fb ≠ wa := fun e => hfb.ne (lk_of I3.wt) e.symm
          have hfbs : fb ≠ sl := fun e => hfb.ne (lk_of hsl3) e.symm
          refine S_cons ?_
          try (walk_at "st")
          simp only [upd_ne _ (Ne.symm hfbw), I3.wt]
          refine ⟨trivial, h5 _ _ _ ?_⟩
          dsimp only
          rw [e2]
          simp only [upd_ne _ (Ne.symm hfbw), I3.wt, natsV_length, List.length_map]
          have hMlen := (K3.add (Reach.step hkr hk (List.mem_of_getElem? ht)) hjM).len w
          rw [List.length_cons] at hMlen
          refine ⟨by first | with_reducible exact Int.natCast_nonneg _ | with_reducible assumption | lia | omega, S_nil (S_nil ⟨_, LE.refl _, fb, j :: M', W' ++ [j], _, rfl, ⟨?_, I3.ext.fresh hfb, ?_, ?_, hfbw⟩, ?_, K3.add (Reach.step hkr hk (List.mem_of_getElem? ht)) hjM, ?_, List.mem_cons_of_mem _ hkM', ?_⟩)⟩
          · exact (I3.ext.new' hfb _).upd hwaH.1 hwaH.2.2 _
          · rw [upd_ne _ hfbw, upd_same]
          · rw [upd_same, natsV_snoc, List.map_append]; rfl
          · rw [upd_ne _ hsw, upd_ne _ (Ne.symm hfbs)]; exact hsl3
          · simp only [List.length_cons, List.length_append, List.length_nil]; first | lia | omega
          · intro i j' hi hij
            rw [List.length_append] at hi
            by_cases q : i = done.length
            · subst q; rw [ht] at hij
              have : j = j' := by injection hij with q; injection q with _ q; exact Int.ofNat.inj q
              exact this ▸ List.mem_cons_self
            · exact List.mem_cons_of_mem _ (hall i j' (by simp at hi; omega) hij)
    · rintro μ H' ⟨fa', M', W', z5', rfl, I3, hsl3, K3, hm3, hkM', hall⟩
      refine S_nil ⟨_, LE.refl _, _, hm3, fa', M', W', _, _, rfl, I3, K3.fin ?_, rfl, by first | with_reducible exact Int.natCast_nonneg _ | with_reducible assumption | lia | omega⟩
      intro f hf j hjf
      rw [hk] at hf; cases hf
      obtain ⟨i, hi⟩ := List.getElem?_of_mem hjf
      refine hall i j ?_ hi
      have := (List.getElem?_eq_some_iff.mp hi).1
      simpa [intsV] using this
  rintro μ' H' ⟨fa, M, z4, z5, rfl, I, K⟩
  refine S_cons ?_
  try (walk_at "st")
  exact RQ.here (hQ fa H' M I.ext I.fr I.fd K.done)
noncomputable def MarkedSpec (cx : Cx) (n : Nat) (f : Addr) : Prop := ∀ (row : Addr) (xs : List Int) (B : Bx) (used : Int) (H : HP) (Q : V → HP → Prop), lk cx H row = some (.list (intsV xs)) → Shp B xs → WFB B → B.length ≤ 1000 →
  (∀ (r : Addr) (H' : HP) (M : List Nat), Ext cx H H' → Fresh cx H r → H' r = some (.list (intsV (bump xs (M.map (pl B))))) → (∀ k, k ∈ M ↔ Reach B k) → Q (.ref r) H') → CallP cx n f [.ref row, .int used] H Q
end
end Mine
end

section
namespace Mine
open PySem PyProof.Rows
section
variable {cx : Cx} {H H' : HP} {n : Nat} {a r : Addr} {o : O} {Q : V → HP → Prop}
noncomputable def m_law_words_are (f_law_is_int : Addr) : MSs :=
  (.cons (.ite (.bop .Or (.cons (.not (.isi (.loc 0) "list")) (.cons (.cmp (.callb .len (.cons (.loc 0) .nil)) .NotEq (.callb .len (.cons (.loc 1) .nil))) .nil))) (.cons (.ret (.cbool false))
    .nil) .nil)
  (.cons (.ret (.cmp (.callb .len (.cons (.compR (.loc 2) (.cint (0)) (.callb .len (.cons (.loc 1) .nil)) (.bop .Or (.cons (.not (.callf f_law_is_int (.cons (.sub (.loc 0) (.loc 2)) .nil))) (.cons (.cmp (.sub (.loc 0) (.loc 2)) .NotEq (.sub (.loc 1) (.loc 2))) .nil)))) .nil)) .Eq (.cint (0))))
  .nil))
theorem words_ms {f_law_is_int fa da : Addr} {xs : List Int} (hi : ∀ v H Q, Q (.bool true) H → CallP cx n f_law_is_int [.int v] H Q) (hf : H fa = some (.list (intsV xs))) (hd : lk cx H da = some (.list (intsV xs))) (hlen : xs.length ≤ 1000)
    (hQ : Q (.bool true) H) : mwpSs cx n (m_law_words_are f_law_is_int) [.ref fa, .ref da] H (NQ Q) (RQ Q) := by
  have hf' : lk cx H fa = some (.list (intsV xs)) := lk_of hf
  refine S_cons ?_
  walk_at "st"
  simp only [hf, hf', hd, ints_length]
  walk_at "st"
  refine ⟨by first | lia | omega, by first | lia | omega, S_nil (S_cons ?_)⟩
  walk_at "st"
  simp only [hd, ints_length]
  refine ⟨by first | lia | omega, by first | lia | omega, by first | lia | omega, ?_⟩
  refine ⟨by simp [intsV, rangeL]; omega, fun _ acc H₁ => acc = [] ∧ H₁ = H, ⟨rfl, rfl⟩, fun _ _ _ _ => trivial, ?_, ?_⟩
  · rintro done x rest acc H₁ hitems ⟨rfl, rfl⟩
    obtain ⟨i, rfl, hi2⟩ : ∃ i : Nat, x = .int i ∧ i < xs.length := by
      have hx : (intsV (rangeL 0 xs.length))[done.length]? = some x := by rw [hitems]; simp
      obtain ⟨rfl, h⟩ := rangeL_get hx
      exact ⟨done.length, by simp, by first | lia | omega⟩
    walk_at "st"
    simp only [hf', hd, ints_length, ints_get?, Int.toNat_natCast, List.getElem?_eq_getElem hi2, Option.map_some]
    refine ⟨by first | lia | omega, by first | lia | omega, hi _ _ _ ?_⟩
    walk_at "st"
    simp only [hf', hd, ints_length, ints_get?, Int.toNat_natCast, List.getElem?_eq_getElem hi2, Option.map_some]
    walk_at "st"
    exact ⟨by first | lia | omega, by first | lia | omega, by first | lia | omega, by first | lia | omega, H₁, LE.refl _, by simp⟩
  · rintro acc H₁ ⟨rfl, rfl⟩ r hr
    walk_at "st"
    simp only [lk_same]
    exact ⟨by simp, H₁, LE.fresh hr.1 _, hQ⟩

end
end Mine
end

section
namespace Mine
noncomputable def rowN (N : Nat) (B : Bx) : List Int := rowOf (pl B) B ++ List.replicate (N - pl B B.length) 0
theorem rowN_length {N : Nat} {B : Bx} (h : pl B B.length ≤ N) : (rowN N B).length = N := by
  rw [rowN, List.length_append, rowOf_length, List.length_replicate]; first | lia | omega
theorem shp_N {N : Nat} {B : Bx} (h : pl B B.length ≤ N) (h4 : N ≤ 400) : Shp B (rowN N B) := shp_rowOf (by
  have := rowN_length h
  unfold rowN at this
  rw [this]; first | lia | omega)
noncomputable def plt (B : Bx) (t : Th) : Th := if t.1 = true then (true, (pl B t.2.toNat : Int)) else t
noncomputable def wordP (t : Th) : Int := if t.1 = true then 2 * t.2 + 1 else 2 * t.2
theorem word_plt (B : Bx) (t : Th) : wordP (plt B t) = word (pl B) t := by
  unfold wordP plt word
  by_cases h : t.1 = true
  · simp [h]
  · simp [h]
theorem plt_1 (B : Bx) (t : Th) : (plt B t).1 = t.1 := by
  unfold plt; split <;> simp_all
noncomputable def OkT (B : Bx) (t : Th) : Prop := t.1 = true → ∃ j : Nat, t.2 = (j : Int) ∧ j < B.length
theorem rowOf_congr {g g' : Nat → Nat} {B : Bx} (h : ∀ f ∈ B, ∀ t ∈ f, word g t = word g' t) : rowOf g B = rowOf g' B := by
  unfold rowOf
  congr 1
  apply List.map_congr_left
  intro f hf
  unfold cellsOf
  congr 1
  exact List.map_congr_left fun t ht => h f hf t ht
theorem pl_app (B : Bx) (f : List Th) {k : Nat} (h : k ≤ B.length) : pl (B ++ [f]) k = pl B k := by
  unfold pl
  rw [List.take_append_of_le_length h]
theorem pl_app_len (B : Bx) (f : List Th) : pl (B ++ [f]) (B ++ [f]).length = pl B B.length + 1 + f.length := by
  have : (B ++ [f])[B.length]? = some f := by simp
  rw [List.length_append, List.length_singleton, pl_succ this, pl_app B f (Nat.le_refl _)]
theorem word_app {B : Bx} {f : List Th} {t : Th} (h : OkT B t) : word (pl (B ++ [f])) t = word (pl B) t := by
  unfold word
  by_cases q : t.1 = true
  · obtain ⟨j, e, hj⟩ := h q
    rw [if_pos q, if_pos q, e, Int.toNat_natCast, pl_app B f (by first | lia | omega)]
  · rw [if_neg q, if_neg q]
theorem wfb_app {B : Bx} {f : List Th} (w : WFB B) (h : ∀ t ∈ f, OkT B t) : WFB (B ++ [f]) := by
  refine ⟨by simp, fun g hg t ht e => ?_⟩
  rw [List.length_append, List.length_singleton]
  rcases List.mem_append.mp hg with q | q
  · obtain ⟨j, a, b⟩ := w.tgt g q t ht e
    exact ⟨j, a, by first | lia | omega⟩
  · rw [List.mem_singleton] at q; subst q
    obtain ⟨j, a, b⟩ := h t ht e
    exact ⟨j, a, by first | lia | omega⟩
theorem rowN_app {N : Nat} {B : Bx} {f : List Th} (w : WFB B) (hle : pl B B.length + 1 + f.length ≤ N) (h : ∀ t ∈ f, OkT B t) :
    (rowN N B).take (pl B B.length) ++ ((4 * (f.length : Int)) :: f.map (word (pl B))) ++ (rowN N B).drop (pl B B.length + 1 + f.length) = rowN N (B ++ [f]) := by
  have hr : (rowOf (pl B) B).length = pl B B.length := rowOf_length _ _
  have h1 : rowOf (pl (B ++ [f])) (B ++ [f]) = rowOf (pl B) B ++ ((4 * (f.length : Int)) :: f.map (word (pl B))) := by
    rw [rowOf_append, rowOf_congr (g' := pl B) (B := B) fun g hg t ht => word_app (w.tgt g hg t ht), rowOf_congr (g' := pl B) (B := [f]) fun g hg t ht => by
      rw [List.mem_singleton] at hg; subst hg; exact word_app (h t ht)]
    simp [rowOf, cellsOf]
  rw [rowN, rowN, pl_app_len, h1, List.take_append_of_le_length (by rw [hr]; exact Nat.le_refl _), List.take_of_length_le (by rw [hr]; exact Nat.le_refl _), List.drop_append, hr, List.drop_of_length_le (by rw [hr]; first | lia | omega), List.nil_append, List.drop_replicate]
  congr 2
  first | lia | omega
theorem pl_set {B : Bx} {k : Nat} {g f : List Th} (h : B[k]? = some f) (hl : g.length = f.length) (i : Nat) : pl (B.set k g) i = pl B i := by
  unfold pl
  rw [List.take_set, List.map_set, show 1 + g.length = 1 + f.length by rw [hl]]
  congr 1
  apply List.ext_getElem?
  intro m
  rw [List.getElem?_set]
  by_cases q : k = m
  · subst q
    simp only [if_pos, List.length_map, List.length_take, List.getElem?_map]
    by_cases q2 : k < min i B.length
    · rw [if_pos q2, List.getElem?_take_of_lt (by first | lia | omega), h]; rfl
    · rw [if_neg q2]
      have : (B.take i)[k]? = none := by rw [List.getElem?_eq_none_iff, List.length_take]; first | lia | omega
      rw [this]; rfl
  · rw [if_neg q]
theorem pl_set_len {B : Bx} {k : Nat} {g f : List Th} (h : B[k]? = some f) (hl : g.length = f.length) : pl (B.set k g) (B.set k g).length = pl B B.length := by
  rw [pl_set h hl, List.length_set]
theorem wfb_set {B : Bx} {k j : Nat} {f : List Th} {t : Th} (w : WFB B) (hk : B[k]? = some f) (h : OkT B t) : WFB (B.set k (f.set j t)) := by
  refine ⟨by rw [List.length_set]; exact w.pos, fun g hg u hu e => ?_⟩
  rw [List.length_set]
  rcases List.mem_or_eq_of_mem_set hg with q | q
  · exact w.tgt g q u hu e
  · subst q
    rcases List.mem_or_eq_of_mem_set hu with q | q
    · exact w.tgt f (List.mem_of_getElem? hk) u q e
    · subst q; exact h e
theorem rowOf_set (g : Nat → Nat) (t : Th) : ∀ {B : Bx} {k j : Nat} {f : List Th}, B[k]? = some f → j < f.length → rowOf g (B.set k (f.set j t)) = (rowOf g B).set (pl B k + 1 + j) (word g t)
  | [], _, _, _, h, _ => by simp at h
  | e :: B, 0, j, f, h, hj => by
    simp at h; subst h
    rw [List.set_cons_zero, rowOf_cons, rowOf_cons, pl_zero, show 0 + 1 + j = j + 1 from by first | lia | omega, List.set_append_left _ _ (by rw [cellsOf_length]; first | lia | omega)]
    congr 1
    simp [cellsOf, List.map_set]
  | e :: B, k + 1, j, f, h, hj => by
    simp at h
    rw [List.set_cons_succ, rowOf_cons, rowOf_cons, pl_cons, rowOf_set g t h hj, List.set_append_right _ _ (by rw [cellsOf_length]; first | lia | omega), cellsOf_length]
    congr 2
    first | lia | omega
theorem rowN_set {N : Nat} {B : Bx} {k j : Nat} {f : List Th} {t : Th} (hk : B[k]? = some f) (hj : j < f.length) : (rowN N B).set (pl B k + 1 + j) (word (pl B) t) = rowN N (B.set k (f.set j t)) := by
  have hp : pl (B.set k (f.set j t)) = pl B := by funext i; exact pl_set hk (by simp) i
  have h1 := pl_succ hk
  have h2 := pl_mono (B := B) (show k + 1 ≤ B.length from (List.getElem?_eq_some_iff.mp hk).1)
  rw [rowN, rowN, hp, rowOf_set _ _ hk hj, List.length_set, List.set_append_left _ _ (by rw [rowOf_length]; first | lia | omega)]
theorem pl_room (d : Nat) : pl [List.replicate d (false, 0)] 1 = d + 1 := by simp [pl]; first | lia | omega
theorem wfb_room (d : Nat) : WFB [List.replicate d (false, 0)] := by
  refine ⟨by simp, fun f hf t ht e => ?_⟩
  rw [List.mem_singleton] at hf; subst hf
  have := List.eq_of_mem_replicate ht
  subst this; cases e
theorem rowN_room {N d : Nat} (h : d + 1 ≤ N) : (4 * (d : Int)) :: List.replicate (N - 1) 0 = rowN N [List.replicate d (false, 0)] := by
  rw [rowN, List.length_singleton, pl_room]
  simp only [rowOf, List.map_cons, List.map_nil, List.flatten_cons, List.flatten_nil, List.append_nil, cellsOf, List.length_replicate, List.map_replicate, List.cons_append]
  rw [show word (pl [List.replicate d (false, 0)]) (false, 0) = 0 from by simp [word], List.replicate_append_replicate]
  congr 2
  first | lia | omega
end Mine
end

section
namespace Mine
open PySem PyProof.Rows

noncomputable def roomF (ra : Addr) (u : Nat) : List (Str × V) := [(Str.ofString "row", .ref ra), (Str.ofString "filled", .int u)]
structure RoomAt (C : Addr) (N : Nat) (rm dx ra : Addr) (B : Bx) (H : HP) : Prop where
  i : H rm = some (.inst C dx)
  d : H dx = some (.flds (roomF ra (pl B B.length)))
  r : H ra = some (.list (intsV (rowN N B)))
  n4 : N ≤ 400
  le : pl B B.length ≤ N
  w : WFB B
theorem lu_row (ra : Addr) (u : Nat) : (roomF ra u).lookup (Str.ofString "row") = some (.ref ra) := rfl
theorem lu_fil (ra : Addr) (u : Nat) : (roomF ra u).lookup (Str.ofString "filled") = some (.int u) := rfl
section
variable {cx : Cx} {C rm dx ra : Addr} {N : Nat} {B : Bx} {H H' : HP} {n : Nat} {a r : Addr} {o : O} {Q : V → HP → Prop}
theorem RoomAt.ext (R : RoomAt C N rm dx ra B H) (x : LE H H') : RoomAt C N rm dx ra B H' := ⟨x _ _ R.i, x _ _ R.d, x _ _ R.r, R.n4, R.le, R.w⟩
theorem RoomAt.row (R : RoomAt C N rm dx ra B H) : attrP C (.ref rm) (Str.ofString "row") H Q = Q (.ref ra) H := by
  simp only [attrP, onR, R.i, onIn, R.d, onFl, lu_row, onO, ne_eq, reduceCtorEq, not_false_eq_true, true_and]
theorem RoomAt.fil (R : RoomAt C N rm dx ra B H) : attrP C (.ref rm) (Str.ofString "filled") H Q = Q (.int (pl B B.length)) H := by
  simp only [attrP, onR, R.i, onIn, R.d, onFl, lu_fil, onO, ne_eq, reduceCtorEq, not_false_eq_true, true_and]
theorem RoomAt.no (R : RoomAt C N rm dx ra B H) {x : Str} (hx : ∀ ra u, (roomF ra u).lookup x = none) : instP C (.ref rm) x H := by
  simp only [instP, onR, R.i, onIn, R.d, onFl, hx, and_self]
theorem lk_tup {vs : List V} (h : lk cx H a = some (.tup vs)) : H a = some (.tup vs) := by
  unfold lk at h
  split at h
  · rename_i e; rw [e]; exact h
  · cases e : cx.Z a <;> rw [e] at h <;> cases h
theorem thV_len (t : Th) : (thV t).length = 2 := rfl
noncomputable def ths (t : Th) : Str := Str.ofString (if t.1 = true then "box" else "number")
theorem thV_0 (t : Th) : (thV t)[Int.toNat 0]? = some (.str (ths t)) := rfl
theorem thV_1 (t : Th) : (thV t)[Int.toNat 1]? = some (.int t.2) := rfl
theorem ths_b (t : Th) : (ths t == Str.ofString "box") = t.1 := by
  obtain ⟨b, v⟩ := t
  cases b <;> rfl
theorem ths_n (t : Th) : (ths t == Str.ofString "number") = !t.1 := by
  obtain ⟨b, v⟩ := t
  cases b <;> rfl
noncomputable def m_is_whole : MSs :=
  (.cons (.ret (.bop .And (.cons (.isi (.loc 0) "int") (.cons (.not (.isi (.loc 0) "bool")) .nil))))
  .nil)
noncomputable def m_need_things (f_is_whole : Addr) : MSs :=
  (.cons (.for_ 1 (.loc 0) (.cons (.ite (.bop .Or (.cons (.not (.isi (.loc 1) "tuple")) (.cons (.cmp (.callb .len (.cons (.loc 1) .nil)) .NotEq (.cint (2))) .nil))) (.cons .raise_
      .nil) .nil)
    (.cons (.ite (.bop .Or (.cons (.bop .And (.cons (.cmp (.sub (.loc 1) (.cint (0))) .NotEq (.cstr (Str.ofString "number"))) (.cons (.cmp (.sub (.loc 1) (.cint (0))) .NotEq (.cstr (Str.ofString "box"))) .nil))) (.cons (.not (.callf f_is_whole (.cons (.sub (.loc 1) (.cint (1))) .nil))) .nil))) (.cons .raise_
      .nil) .nil)
    .nil)))
  .nil)
noncomputable def m_word_of (f_number_word f_link_word : Addr) : MSs :=
  (.cons (.ite (.cmp (.sub (.loc 0) (.cint (0))) .Eq (.cstr (Str.ofString "number"))) (.cons (.ret (.callf f_number_word (.cons (.sub (.loc 0) (.cint (1))) .nil)))
    .nil) .nil)
  (.cons (.ret (.callf f_link_word (.cons (.sub (.loc 0) (.cint (1))) .nil)))
  .nil))
noncomputable def m_Room_places (f_heads c_Room : Addr) : MSs :=
  (.cons (.ret (.callf f_heads (.cons (.attr c_Room 0 (Str.ofString "row")) (.cons (.attr c_Room 0 (Str.ofString "filled")) .nil))))
  .nil)
noncomputable def m_Room_need_boxes (c_Room f_Room_places : Addr) : MSs :=
  (.cons (.assign 2 (.callm c_Room (Str.ofString "places") f_Room_places 0 .nil))
  (.cons (.for_ 3 (.loc 1) (.cons (.ite (.bop .And (.cons (.cmp (.sub (.loc 3) (.cint (0))) .Eq (.cstr (Str.ofString "box"))) (.cons (.cmp (.sub (.loc 3) (.cint (1))) .NotIn (.loc 2)) .nil))) (.cons .raise_
      .nil) .nil)
    .nil))
  .nil))
noncomputable def m_Room_need_box (f_is_whole c_Room f_Room_places : Addr) : MSs :=
  (.cons (.ite (.bop .Or (.cons (.not (.callf f_is_whole (.cons (.loc 1) .nil))) (.cons (.cmp (.loc 1) .NotIn (.callm c_Room (Str.ofString "places") f_Room_places 0 .nil)) .nil))) (.cons .raise_
    .nil) .nil)
  .nil)
theorem whole_ms {i : Int} (h : Q (.bool true) H) : mwpSs cx n m_is_whole [.int i] H (NQ Q) (RQ Q) := by
  refine S_cons ?_
  walk_at "st"
  exact RQ.here h
noncomputable def WholeSp (cx : Cx) (n : Nat) (f : Addr) : Prop := ∀ (i : Int) (H : HP) (Q : V → HP → Prop), Q (.bool true) H → CallP cx n f [.int i] H Q

theorem wordof_ms {f_number_word f_link_word b : Addr} {t : Th} (h1 : Fn1 cx n f_number_word fun p => .int (2 * p)) (h2 : Fn1 cx n f_link_word fun p => .int (2 * p + 1)) (hb : lk cx H b = some (.tup (thV t))) (h : Q (.int (wordP t)) H) :
    mwpSs cx n (m_word_of f_number_word f_link_word) [.ref b] H (NQ Q) (RQ Q) := by
  refine S_cons ?_
  walk_at "st"
  simp only [hb, thV_len, thV_0]
  walk_at "st"
  rw [ths_n]
  unfold wordP at h
  refine ⟨by decide, by decide, fun q => S_cons ?_, fun q => S_nil (S_cons ?_)⟩
  · walk_at "st"
    simp only [hb, thV_len, thV_1]
    refine ⟨by decide, by decide, h1 _ _ _ (RQ.here ?_)⟩
    rw [if_neg (by simpa using q)] at h
    exact h
  · walk_at "st"
    simp only [hb, thV_len, thV_1]
    refine ⟨by decide, by decide, h2 _ _ _ (RQ.here ?_)⟩
    rw [if_pos (by simpa using q)] at h
    exact h
noncomputable def WordOfSpec (cx : Cx) (n : Nat) (f : Addr) : Prop := ∀ (b : Addr) (t : Th) (H : HP) (Q : V → HP → Prop), lk cx H b = some (.tup (thV t)) → Q (.int (wordP t)) H → CallP cx n f [.ref b] H Q

theorem needT_ms {f_is_whole la : Addr} {vs : List V} {ts : List Th} (hw : WholeSp cx n f_is_whole) (hl : lk cx H la = some (.list vs)) (hts : All2 (ThAt cx H) vs ts) (hle : vs.length ≤ 1000) (h : Q .none H) :
    mwpSs cx n (m_need_things f_is_whole) [.ref la, .unb] H (NQ Q) (RQ Q) := by
  refine S_cons ?_
  walk_at "st"
  simp only [hl]
  refine ⟨by first | lia | omega, fun _ μ H' => (∃ z, μ = [.ref la, z]) ∧ H' = H, ⟨⟨_, rfl⟩, rfl⟩, ?_, ?_, ?_⟩
  · rintro _ _ _ ⟨_, rfl⟩; exact hl
  · rintro done x rest μ H' e ⟨⟨z, rfl⟩, rfl⟩
    obtain ⟨t, _, b, rfl, hb⟩ := hts.get (i := done.length) (x := x) (by rw [e]; simp)
    refine S_cons ?_
    walk_at "st"
    simp only [lk_tup hb, hb, thV_len, show (((2 : Nat) : Int) != 2) = false from rfl]
    walk_at "st"
    refine ⟨by decide, S_nil (S_cons ?_)⟩
    walk_at "st"
    simp only [hb, thV_len, thV_0, thV_1]
    walk_at "st"
    rw [ths_n, ths_b]
    cases e1 : t.1
    · walk_at "st"
      refine ⟨by decide, by decide, by decide, by decide, hw _ _ _ ?_⟩
      walk_at "st"
      exact S_nil (S_nil ⟨_, LE.refl _, ⟨_, rfl⟩, rfl⟩)
    · walk_at "st"
      refine ⟨by decide, by decide, by decide, by decide, by decide, by decide, hw _ _ _ ?_⟩
      walk_at "st"
      exact S_nil (S_nil ⟨_, LE.refl _, ⟨_, rfl⟩, rfl⟩)
  · rintro μ H' ⟨_, rfl⟩
    exact S_nil ⟨_, LE.refl _, h⟩
noncomputable def NeedTSpec (cx : Cx) (n : Nat) (f : Addr) : Prop := ∀ (la : Addr) (vs : List V) (ts : List Th) (H : HP) (Q : V → HP → Prop), lk cx H la = some (.list vs) → All2 (ThAt cx H) vs ts → vs.length ≤ 1000 → Q .none H → CallP cx n f [.ref la] H Q

theorem places_ms {f_heads : Addr} (hh : HeadsSpec cx n f_heads) (R : RoomAt C N rm dx ra B H)
    (hQ : ∀ r H', Ext cx H H' → Fresh cx H r → H' r = some (.list (natsV ((List.range B.length).map (pl B)))) → Q (.ref r) H') :
    mwpSs cx n (m_Room_places f_heads C) [.ref rm] H (NQ Q) (RQ Q) := by
  have hle := R.le
  have hn4 := R.n4
  refine S_cons ?_
  walk_at "st"
  simp only [R.row, R.fil]
  exact hh _ (rowN N B) B _ _ (lk_of R.r) (shp_N R.le R.n4) (by first | lia | omega) fun r H' x1 x2 x3 => RQ.here (hQ r H' x1 x2 x3)
noncomputable def PlSpec (cx : Cx) (C : Addr) (n : Nat) (f : Addr) : Prop := ∀ (N : Nat) (rm dx ra : Addr) (B : Bx) (H : HP) (Q : V → HP → Prop), RoomAt C N rm dx ra B H →
  (∀ r H', Ext cx H H' → Fresh cx H r → H' r = some (.list (natsV ((List.range B.length).map (pl B)))) → Q (.ref r) H') → CallP cx n f [.ref rm] H Q
theorem has_pl {B : Bx} {k : Nat} (h : k < B.length) : (((List.range B.length).map (pl B)).map fun k : Nat => (k : Int)).contains (pl B k : Int) = true := by
  rw [List.contains_iff_mem]
  exact List.mem_map.mpr ⟨_, List.mem_map.mpr ⟨k, List.mem_range.mpr h, rfl⟩, rfl⟩

theorem needB_ms {f_Room_places la : Addr} {vs : List V} {ts : List Th} (hp : PlSpec cx C n f_Room_places) (R : RoomAt C N rm dx ra B H) (hl : lk cx H la = some (.list vs)) (hts : All2 (ThAt cx H) vs (ts.map (plt B))) (hok : ∀ t ∈ ts, OkT B t) (hle : vs.length ≤ 1000) (h : Q .none H) :
    mwpSs cx n (m_Room_need_boxes C f_Room_places) [.ref rm, .ref la, .unb, .unb] H (NQ Q) (RQ Q) := by
  refine S_cons ?_
  walk_at "st"
  refine ⟨R.no fun _ _ => rfl, hp _ _ _ _ _ _ _ R fun r H1 x1 _ hr => S_cons ?_⟩
  walk_at "st"
  simp only [x1.lk hl]
  refine ⟨by first | lia | omega, fun _ μ H' => (∃ z, μ = [.ref rm, .ref la, .ref r, z]) ∧ H' = H1, ⟨⟨_, rfl⟩, rfl⟩, ?_, ?_, ?_⟩
  · rintro _ _ _ ⟨_, rfl⟩; exact x1.lk hl
  · rintro done x rest μ H' e ⟨⟨z, rfl⟩, rfl⟩
    obtain ⟨t', ht', b, rfl, hb⟩ := hts.get (i := done.length) (x := x) (by rw [e]; simp)
    rw [List.getElem?_map] at ht'
    cases ht : ts[done.length]? with
    | none => rw [ht] at ht'; cases ht'
    | some t =>
    rw [ht] at ht'; cases ht'
    have hb1 := x1.lk hb
    refine S_cons ?_
    walk_at "st"
    simp only [hb1, thV_len, thV_0, thV_1]
    walk_at "st"
    rw [ths_b, plt_1]
    cases e1 : t.1
    · walk_at "st"
      refine ⟨by decide, by decide, S_nil (S_nil ⟨_, LE.refl _, ⟨_, rfl⟩, rfl⟩)⟩
    · obtain ⟨j, e2, hj⟩ := hok t (List.mem_of_getElem? ht) e1
      walk_at "st"
      have e3 : (plt B t).2 = (pl B j : Int) := by simp [plt, e1, e2]
      simp only [lk_of hr, natsV, asInts_ints, Option.bind_some, Option.map_some, e3, has_pl hj]
      walk_at "st"
      exact ⟨by decide, by decide, by decide, by decide, S_nil (S_nil ⟨_, LE.refl _, ⟨_, rfl⟩, rfl⟩)⟩
  · rintro μ H' ⟨_, rfl⟩
    exact S_nil ⟨_, x1.le, h⟩
noncomputable def NeedBSpec (cx : Cx) (C : Addr) (n : Nat) (f : Addr) : Prop := ∀ (N : Nat) (rm dx ra la : Addr) (B : Bx) (vs : List V) (ts : List Th) (H : HP) (Q : V → HP → Prop), RoomAt C N rm dx ra B H → lk cx H la = some (.list vs) → All2 (ThAt cx H) vs (ts.map (plt B)) → (∀ t ∈ ts, OkT B t) → vs.length ≤ 1000 →
  Q .none H → CallP cx n f [.ref rm, .ref la] H Q

theorem needX_ms {f_is_whole f_Room_places : Addr} {k : Nat} (hw : WholeSp cx n f_is_whole) (hp : PlSpec cx C n f_Room_places) (R : RoomAt C N rm dx ra B H) (hk : k < B.length) (h : Q .none H) :
    mwpSs cx n (m_Room_need_box f_is_whole C f_Room_places) [.ref rm, .int (pl B k)] H (NQ Q) (RQ Q) := by
  refine S_cons ?_
  walk_at "st"
  refine hw _ _ _ ?_
  walk_at "st"
  refine ⟨R.no fun _ _ => rfl, hp _ _ _ _ _ _ _ R fun r H1 x1 _ hr => ?_⟩
  walk_at "st"
  simp only [lk_of hr, natsV, asInts_ints, Option.bind_some, Option.map_some, has_pl hk]
  walk_at "st"
  exact S_nil (S_nil ⟨_, x1.le, h⟩)
noncomputable def NeedXSpec (cx : Cx) (C : Addr) (n : Nat) (f : Addr) : Prop := ∀ (N : Nat) (rm dx ra : Addr) (B : Bx) (k : Nat) (H : HP) (Q : V → HP → Prop), RoomAt C N rm dx ra B H → k < B.length → Q .none H → CallP cx n f [.ref rm, .int (pl B k)] H Q
end
end Mine
end

section
namespace Mine
open PySem PyProof.Rows
section
variable {cx : Cx} {C rm dx ra : Addr} {N : Nat} {B : Bx} {xs : List Int} {H H' H1 : HP} {n : Nat} {a r : Addr} {o o' : O} {Q : V → HP → Prop}
theorem hw_marked (l : Nat) (b : Bool) : (((4 * (l : Int) + if b then 2 else 0).fdiv 2).fmod 2 == 1) = b := by
  rw [fdiv2, fmod2]
  cases b
  · simp; first | lia | omega
  · simp; first | lia | omega
noncomputable def KZ (cx : Cx) (H H' : HP) : Prop := ∀ a l, cx.Z a = some l → H a = none → H' a = none
theorem KZ.refl (cx : Cx) (H : HP) : KZ cx H H := fun _ _ _ h => h
theorem KZ.trans (x : KZ cx H H') (y : KZ cx H' H1) : KZ cx H H1 := fun a l h1 h2 => y a l h1 (x a l h1 h2)
theorem KZ.upd (x : KZ cx H H') (h : H' r = some o) : KZ cx H (Mine.upd H' r o') := fun a l h1 h2 => by
  have e := x a l h1 h2
  rw [upd_ne _ (fun q => by subst q; rw [h] at e; cases e)]; exact e
theorem KZ.lk {zs : List V} (x : KZ cx H H') (h : H a = none) (hz : cx.Z a = some zs) : H' a = none ∧ Mine.lk cx H' a = some (.list zs) := by
  have := x a zs hz h
  exact ⟨this, by simp [Mine.lk, this, hz]⟩
theorem ThAt.set {vs ws : List V} {v : V} {t : Th} (hr : H r = some (.list vs)) : ThAt cx H v t → ThAt cx (upd H r (.list ws)) v t := fun ⟨b, e, hb⟩ => ⟨b, e, by
  rw [lk_ne (fun q => by subst q; rw [lk_of hr] at hb; cases hb)]; exact hb⟩
theorem word_link (g : Nat → Nat) (t : Th) : ((word g t).fmod 2 == 1) = t.1 := by
  obtain ⟨b, v⟩ := t
  rw [fmod2]
  cases b
  · simp [word]
  · simp only [word, if_pos, beq_iff_eq]; first | lia | omega
theorem word_told (B : Bx) (t : Th) : (word (pl B) t).fdiv 2 = (plt B t).2 := by
  obtain ⟨b, v⟩ := t
  rw [fdiv2]
  cases b
  · simp [word, plt]
  · simp only [word, plt, if_pos]; first | lia | omega
theorem shp_slice {k : Nat} {f : List Th} (s : Shp B xs) (hk : B[k]? = some f) : (xs.take (min (pl B k + 1 + f.length) xs.length)).drop (min (pl B k + 1) xs.length) = f.map (word (pl B)) := by
  have := slice_eq (ys := xs) (l := f.map (word (pl B))) (a := pl B k + 1) ?_ ?_
  · rw [List.length_map] at this; exact this
  · intro j hj
    rw [List.length_map] at hj
    have ht : f[j]? = some f[j] := List.getElem?_eq_getElem hj
    rw [s.fld hk ht, List.getElem?_map, ht]; rfl
  · rw [List.length_map]
    cases hz : f.length with
    | zero => exact .inl rfl
    | succ m =>
      have ht : f[m]? = some f[m] := List.getElem?_eq_getElem (by omega)
      have := (List.getElem?_eq_some_iff.mp (s.fld hk ht)).1
      exact .inr (by first | lia | omega)
noncomputable def m_Room_told (c_Room f_Room_need_box f_fields_of f_is_link f_told_by : Addr) : MSs :=
  (.cons (.expr (.callm c_Room (Str.ofString "need_box") f_Room_need_box 0 (.cons (.loc 1) .nil)))
  (.cons (.assign 2 (.list .nil))
  (.cons (.for_ 3 (.slice (.attr c_Room 0 (Str.ofString "row")) (.bin .Add (.loc 1) (.cint (1))) (.bin .Add (.bin .Add (.loc 1) (.cint (1))) (.callf f_fields_of (.cons (.sub (.attr c_Room 0 (Str.ofString "row")) (.loc 1)) .nil)))) (.cons (.ite (.callf f_is_link (.cons (.loc 3) .nil)) (.cons (.expr (.meth (.loc 2) .append (.cons (.tup (.cons (.cstr (Str.ofString "box")) (.cons (.callf f_told_by (.cons (.loc 3) .nil)) .nil))) .nil)))
      .nil) (.cons (.expr (.meth (.loc 2) .append (.cons (.tup (.cons (.cstr (Str.ofString "number")) (.cons (.callf f_told_by (.cons (.loc 3) .nil)) .nil))) .nil)))
      .nil))
    .nil))
  (.cons (.ret (.loc 2))
  .nil))))
noncomputable def m_Room_made (f_need_things c_Room f_Room_need_boxes c_NoRoom f_head_word f_word_of : Addr) : MSs :=
  (.cons (.expr (.callf f_need_things (.cons (.loc 1) .nil)))
  (.cons (.expr (.callm c_Room (Str.ofString "need_boxes") f_Room_need_boxes 0 (.cons (.loc 1) .nil)))
  (.cons (.assign 2 (.attr c_Room 0 (Str.ofString "filled")))
  (.cons (.assign 3 (.bin .Add (.bin .Add (.loc 2) (.cint (1))) (.callb .len (.cons (.loc 1) .nil))))
  (.cons (.ite (.cmp (.loc 3) .Gt (.callb .len (.cons (.attr c_Room 0 (Str.ofString "row")) .nil))) (.cons (.raiseS c_NoRoom (.cstr (Str.ofString "too few cells are left")))
    .nil) .nil)
  (.cons (.assign 4 (.bin .Add (.list (.cons (.callf f_head_word (.cons (.callb .len (.cons (.loc 1) .nil)) (.cons (.cbool false) .nil))) .nil)) (.comp (.callf f_word_of (.cons (.loc 5) .nil)) (.loc 1) (.cbool true))))
  (.cons (.setAttr c_Room 0 (Str.ofString "row") (.bin .Add (.bin .Add (.slice (.attr c_Room 0 (Str.ofString "row")) .cnone (.loc 2)) (.loc 4)) (.slice (.attr c_Room 0 (Str.ofString "row")) (.loc 3) .cnone)))
  (.cons (.setAttr c_Room 0 (Str.ofString "filled") (.loc 3))
  (.cons (.ret (.loc 2))
  .nil)))))))))
noncomputable def m_Room_put (c_Room f_Room_need_box f_is_whole f_fields_of f_need_things f_Room_need_boxes f_word_of : Addr) : MSs :=
  (.cons (.expr (.callm c_Room (Str.ofString "need_box") f_Room_need_box 0 (.cons (.loc 1) .nil)))
  (.cons (.ite (.bop .Or (.cons (.not (.callf f_is_whole (.cons (.loc 2) .nil))) (.cons (.not (.cmp2 (.cint (0)) .LtE (.loc 2) .Lt (.callf f_fields_of (.cons (.sub (.attr c_Room 0 (Str.ofString "row")) (.loc 1)) .nil)))) .nil))) (.cons .raise_
    .nil) .nil)
  (.cons (.expr (.callf f_need_things (.cons (.list (.cons (.loc 3) .nil)) .nil)))
  (.cons (.expr (.callm c_Room (Str.ofString "need_boxes") f_Room_need_boxes 0 (.cons (.list (.cons (.loc 3) .nil)) .nil)))
  (.cons (.setSub (.attr c_Room 0 (Str.ofString "row")) (.bin .Add (.bin .Add (.loc 1) (.cint (1))) (.loc 2)) (.callf f_word_of (.cons (.loc 3) .nil)))
  .nil)))))
noncomputable def m_Room_come_to (f_marked c_Room f_is_marked f_Room_places : Addr) : MSs :=
  (.cons (.assign 1 (.callf f_marked (.cons (.attr c_Room 0 (Str.ofString "row")) (.cons (.attr c_Room 0 (Str.ofString "filled")) .nil))))
  (.cons (.ret (.comp (.loc 2) (.callm c_Room (Str.ofString "places") f_Room_places 0 .nil) (.callf f_is_marked (.cons (.sub (.loc 1) (.loc 2)) .nil))))
  .nil))
noncomputable def m_Room_used (c_Room : Addr) : MSs :=
  (.cons (.ret (.attr c_Room 0 (Str.ofString "filled")))
  .nil)
noncomputable def m_Room_cells (c_Room : Addr) : MSs :=
  (.cons (.ret (.callb .list (.cons (.attr c_Room 0 (Str.ofString "row")) .nil)))
  .nil)
noncomputable def m_Room_init (f_is_whole c_Room f_head_word : Addr) : MSs :=
  (.cons (.ite (.bop .Or (.cons (.not (.callf f_is_whole (.cons (.loc 1) .nil))) (.cons (.not (.callf f_is_whole (.cons (.loc 2) .nil))) .nil))) (.cons .raise_
    .nil) .nil)
  (.cons (.ite (.bop .Or (.cons (.not (.cmp2 (.cint (1)) .LtE (.loc 1) .LtE (.gint (400)))) (.cons (.not (.cmp2 (.cint (0)) .LtE (.loc 2) .LtE (.gint (20)))) (.cons (.cmp (.bin .Add (.loc 2) (.cint (1))) .Gt (.loc 1)) .nil)))) (.cons .raise_
    .nil) .nil)
  (.cons (.setAttr c_Room 0 (Str.ofString "row") (.bin .Add (.list (.cons (.callf f_head_word (.cons (.loc 2) (.cons (.cbool false) .nil))) .nil)) (.bin .Mult (.list (.cons (.cint (0)) .nil)) (.bin .Sub (.loc 1) (.cint (1))))))
  (.cons (.setAttr c_Room 0 (Str.ofString "filled") (.bin .Add (.loc 2) (.cint (1))))
  .nil))))
theorem told9_ms {f_Room_need_box f_fields_of f_is_link f_told_by : Addr} {k : Nat} {f : List Th} (hx : NeedXSpec cx C n f_Room_need_box) (h2 : Fn1 cx n f_fields_of fun w => .int (w.fdiv 4)) (h3 : Fn1 cx n f_is_link fun w => .bool (w.fmod 2 == 1)) (h5 : Fn1 cx n f_told_by fun w => .int (w.fdiv 2))
    (R : RoomAt C N rm dx ra B H) (hk : B[k]? = some f)
    (hQ : ∀ r vs H', Ext cx H H' → Fresh cx H r → H' r = some (.list vs) → All2 (ThAt cx H') vs (f.map (plt B)) → Q (.ref r) H') :
    mwpSs cx n (m_Room_told C f_Room_need_box f_fields_of f_is_link f_told_by) [.ref rm, .int (pl B k), .unb, .unb] H (NQ Q) (RQ Q) := by
  have hkl := (List.getElem?_eq_some_iff.mp hk).1
  have hlen := rowN_length R.le
  have hn4 := R.n4
  have hsh := shp_N R.le R.n4
  have hfl := fld_le_pl hk
  have hle := R.le
  refine S_cons ?_
  walk_at "st"
  refine ⟨R.no fun _ _ => rfl, hx _ _ _ _ _ _ _ _ R hkl (S_cons ?_)⟩
  walk_at "st"
  refine ⟨by simp, fun r hr => S_cons ?_⟩
  have R1 := R.ext (Ext.new hr (.list [])).le
  walk_at "st"
  simp only [R1.row]
  walk_at "st"
  simp only [lk_of R1.r, ints_length, ints_get?, Int.toNat_natCast, hsh.hd hk, Option.map_some]
  refine ⟨by first | lia | omega, by first | lia | omega, h2 _ _ _ ?_⟩
  dsimp only
  rw [fdiv4, show 4 * (f.length : Int) / 4 = (f.length : Int) from by first | lia | omega]
  walk_at "st"
  simp only [lk_of R1.r, ints_length]
  rw [show ((pl B k : Int) + 1 + (f.length : Int)) = ((pl B k + 1 + f.length : Nat) : Int) from by first | lia | omega, show ((pl B k : Int) + 1) = ((pl B k + 1 : Nat) : Int) from by first | lia | omega, cutLo_nn (by first | lia | omega), cutHi_nn (by first | lia | omega)]
  simp only [Int.toNat_natCast, cut_ints]
  rw [shp_slice hsh hk]
  refine ⟨by first | lia | omega, fun sl hsl => ?_⟩
  have hsr : r ≠ sl := hsl.ne lk_same
  simp only [lk_same, ints_length, List.length_map]
  refine ⟨by first | lia | omega, fun done μ H' => ∃ z vs, μ = [.ref rm, .int (pl B k), .ref r, z] ∧ Ext cx H H' ∧ H' r = some (.list vs) ∧ H' sl = some (.list (intsV (f.map (word (pl B))))) ∧ All2 (ThAt cx H') vs ((f.take done.length).map (plt B)), ?_, ?_, ?_, ?_⟩
  · exact ⟨_, [], rfl, (Ext.new hr _).new' hsl _, by rw [upd_ne _ hsr, upd_same], upd_same _ _ _, All2.nil⟩
  · rintro done μ H' ⟨_, _, _, _, _, h, _⟩; exact lk_of h
  · rintro done x rest μ H3 hitems ⟨z, vs, rfl, x3, hr3, hsl3, ha⟩
    have hx : (intsV (f.map (word (pl B))))[done.length]? = some x := by rw [hitems]; simp
    rw [ints_get?, List.getElem?_map] at hx
    cases ht : f[done.length]? with
    | none => rw [ht] at hx; cases hx
    | some t =>
    rw [ht] at hx
    simp only [Option.map_some, Option.some.injEq] at hx
    subst hx
    have htl := (List.getElem?_eq_some_iff.mp ht).1
    have hvl := ha.1
    rw [List.length_map, List.length_take] at hvl
    have fin : ∀ tb, Fresh cx H3 tb → ∀ c : String, c = (if t.1 = true then "box" else "number") → ∃ H₃, LE H₃ (upd (upd H3 tb (.tup [.str (Str.ofString c), .int (plt B t).2])) r (.list (vs ++ [.ref tb]))) ∧
        ∃ z vs, ([.ref rm, .int (pl B k), .ref r, .int (word (pl B) t)] : List V) = [.ref rm, .int (pl B k), .ref r, z] ∧ Ext cx H H₃ ∧ H₃ r = some (.list vs) ∧ H₃ sl = some (.list (intsV (f.map (word (pl B))))) ∧ All2 (ThAt cx H₃) vs ((f.take (done ++ [V.int (word (pl B) t)]).length).map (plt B)) := by
      intro tb htb c hc
      have n1 : r ≠ tb := htb.ne' hr3
      have n2 : sl ≠ tb := htb.ne' hsl3
      refine ⟨_, LE.refl _, _, _, rfl, (x3.new' htb _).upd hr.1 hr.2.2 _, upd_same _ _ _, ?_, ?_⟩
      · rw [upd_ne _ (Ne.symm hsr), upd_ne _ n2]; exact hsl3
      · rw [List.length_append, List.length_singleton, List.take_succ, ht, List.map_append]
        have hu : (upd H3 tb (.tup [.str (Str.ofString c), .int (plt B t).2])) r = some (.list vs) := by rw [upd_ne _ n1]; exact hr3
        refine All2.snoc (ha.imp fun _ _ q => ThAt.set hu (q.ext (Ext.new htb _))) (ThAt.set hu ⟨tb, rfl, ?_⟩)
        rw [lk_same, hc, thV, plt_1]
    refine S_cons ?_
    walk_at "st"
    refine h3 _ _ _ ?_
    rw [tr_b, word_link]
    refine ⟨fun q => S_cons ?_, fun q => S_cons ?_⟩
    · walk_at "st"
      simp only [hr3]
      refine ⟨trivial, h5 _ _ _ ?_⟩
      dsimp only
      rw [word_told]
      refine ⟨by simp, fun tb htb => ?_⟩
      have n1 : r ≠ tb := htb.ne' hr3
      simp only [upd_ne _ n1, hr3]
      exact ⟨by first | lia | omega, S_nil (S_nil (fin tb htb _ (by rw [if_pos q])))⟩
    · walk_at "st"
      simp only [hr3]
      refine ⟨trivial, h5 _ _ _ ?_⟩
      dsimp only
      rw [word_told]
      refine ⟨by simp, fun tb htb => ?_⟩
      have n1 : r ≠ tb := htb.ne' hr3
      simp only [upd_ne _ n1, hr3]
      exact ⟨by first | lia | omega, S_nil (S_nil (fin tb htb _ (by rw [if_neg (by simp [q])])))⟩
  · rintro μ H3 ⟨z, vs, rfl, x3, hr3, hsl3, ha⟩
    refine S_cons ?_
    walk_at "st"
    rw [ints_length, List.length_map, List.take_length] at ha
    exact RQ.here (hQ r vs H3 x3 hr hr3 ha)
noncomputable def ToldSpec (cx : Cx) (C : Addr) (n : Nat) (f : Addr) : Prop := ∀ (N : Nat) (rm dx ra : Addr) (B : Bx) (k : Nat) (fl : List Th) (H : HP) (Q : V → HP → Prop), RoomAt C N rm dx ra B H → B[k]? = some fl →
  (∀ r vs H', Ext cx H H' → Fresh cx H r → H' r = some (.list vs) → All2 (ThAt cx H') vs (fl.map (plt B)) → Q (.ref r) H') → CallP cx n f [.ref rm, .int (pl B k)] H Q

theorem used_ms (R : RoomAt C N rm dx ra B H) (h : Q (.int (pl B B.length)) H) : mwpSs cx n (m_Room_used C) [.ref rm] H (NQ Q) (RQ Q) := by
  refine S_cons ?_
  walk_at "st"
  simp only [R.fil]
  exact RQ.here h
noncomputable def UsedSpec (cx : Cx) (C : Addr) (n : Nat) (f : Addr) : Prop := ∀ (N : Nat) (rm dx ra : Addr) (B : Bx) (H : HP) (Q : V → HP → Prop), RoomAt C N rm dx ra B H → Q (.int (pl B B.length)) H → CallP cx n f [.ref rm] H Q
theorem cells_ms (R : RoomAt C N rm dx ra B H) (hQ : ∀ r H', Ext cx H H' → Fresh cx H r → H' r = some (.list (intsV (rowN N B))) → Q (.ref r) H') : mwpSs cx n (m_Room_cells C) [.ref rm] H (NQ Q) (RQ Q) := by
  have hlen := rowN_length R.le
  have hn4 := R.n4
  have hsh := shp_N R.le R.n4
  refine S_cons ?_
  walk_at "st"
  simp only [R.row]
  walk_at "st"
  simp only [lk_of R.r, ints_length]
  exact ⟨by first | lia | omega, fun r hr => RQ.here (hQ r _ (Ext.new hr _) hr (upd_same _ _ _))⟩
noncomputable def CellsSpec (cx : Cx) (C : Addr) (n : Nat) (f : Addr) : Prop := ∀ (N : Nat) (rm dx ra : Addr) (B : Bx) (H : HP) (Q : V → HP → Prop), RoomAt C N rm dx ra B H → (∀ r H', Ext cx H H' → Fresh cx H r → H' r = some (.list (intsV (rowN N B))) → Q (.ref r) H') → CallP cx n f [.ref rm] H Q

theorem come_ms {f_marked f_is_marked f_Room_places : Addr} (hm : MarkedSpec cx n f_marked) (h4 : Fn1 cx n f_is_marked fun w => .bool ((w.fdiv 2).fmod 2 == 1)) (hp : PlSpec cx C n f_Room_places) (R : RoomAt C N rm dx ra B H)
    (hQ : ∀ r H' p, Ext cx H H' → Fresh cx H r → (∀ k, p k = true ↔ Reach B k) → H' r = some (.list (natsV ((kl p B.length).map (pl B)))) → Q (.ref r) H') :
    mwpSs cx n (m_Room_come_to f_marked C f_is_marked f_Room_places) [.ref rm, .unb] H (NQ Q) (RQ Q) := by
  have hlen := rowN_length R.le
  have hn4 := R.n4
  have hsh := shp_N R.le R.n4
  have hle := R.le
  have hBl := len_le_pl B (Nat.le_refl _)
  refine S_cons ?_
  walk_at "st"
  simp only [R.row, R.fil]
  refine hm _ (rowN N B) B _ _ _ (lk_of R.r) hsh R.w (by first | lia | omega) fun mr H1 M x1 _ hmr hM => S_cons ?_
  walk_at "st"
  refine ⟨(R.ext x1.le).no fun _ _ => rfl, hp _ _ _ _ _ _ _ (R.ext x1.le) fun pr H2 x2 _ hpr => ?_⟩
  walk_at "st"
  simp only [lk_of hpr, natsV_length, List.length_map, List.length_range]
  refine ⟨by first | lia | omega, by simp [natsV_length]; first | lia | omega, fun done acc H' => acc = natsV ((kl (fun k => decide (k ∈ M)) done.length).map (pl B)) ∧ H' = H2, ⟨rfl, rfl⟩, ?_, ?_, ?_⟩
  · rintro _ _ _ ⟨_, rfl⟩; exact lk_of hpr
  · rintro done x rest acc H' e ⟨rfl, rfl⟩
    have hx : (natsV ((List.range B.length).map (pl B)))[done.length]? = some x := by rw [e]; simp
    rw [natsV_get?, List.getElem?_map] at hx
    have hd : done.length < B.length := by
      have := congrArg List.length e
      simp [natsV_length] at this; omega
    rw [List.getElem?_range hd] at hx
    simp only [Option.map_some, Option.some.injEq] at hx
    subst hx
    have hk : B[done.length]? = some B[done.length] := List.getElem?_eq_getElem hd
    walk_at "st"
    simp only [lk_of (x2.le _ _ hmr), ints_length, bump_length, ints_get?, Int.toNat_natCast, bump_head hsh (fun i hi => ((hM i).mp hi).lt R.w) hk, Option.map_some]
    refine ⟨by first | lia | omega, by first | lia | omega, h4 _ _ _ ?_⟩
    rw [tr_b]
    have hb : (((4 * (B[done.length].length : Int) + if done.length ∈ M then 2 else 0).fdiv 2).fmod 2 == 1) = decide (done.length ∈ M) := by
      have := hw_marked B[done.length].length (decide (done.length ∈ M))
      simpa using this
    rw [hb]
    refine ⟨fun q => ⟨_, LE.refl _, ?_, rfl⟩, fun q => ⟨_, LE.refl _, ?_, rfl⟩⟩
    · rw [List.length_append, List.length_singleton, kl_succ, if_pos q, List.map_append]
      exact natsV_snoc _ _
    · rw [List.length_append, List.length_singleton, kl_succ, if_neg (by simpa using q), List.append_nil]
      exact List.append_nil _
  · rintro acc H' ⟨rfl, rfl⟩
    rw [natsV_length, List.length_map, List.length_range]
    intro r hr
    exact RQ.here (hQ r _ (fun k => decide (k ∈ M)) ((x1.trans x2).new' hr _) ((x1.trans x2).fresh hr) (fun k => by rw [decide_eq_true_iff]; exact hM k) (upd_same _ _ _))
noncomputable def ComeSpec (cx : Cx) (C : Addr) (n : Nat) (f : Addr) : Prop := ∀ (N : Nat) (rm dx ra : Addr) (B : Bx) (H : HP) (Q : V → HP → Prop), RoomAt C N rm dx ra B H →
  (∀ r H' p, Ext cx H H' → Fresh cx H r → (∀ k, p k = true ↔ Reach B k) → H' r = some (.list (natsV ((kl p B.length).map (pl B)))) → Q (.ref r) H') → CallP cx n f [.ref rm] H Q
end
end Mine
end

section
namespace Mine
open PySem PyProof.Rows
section
variable {cx : Cx} {C rm dx ra K : Addr} {N : Nat} {B : Bx} {H H' H1 : HP} {n : Nat} {a r : Addr} {o o' : O} {Q : V → HP → Prop}
theorem rep_zero (m : Nat) : (List.replicate m [V.int 0]).flatten = intsV (List.replicate m 0) := by
  induction m with
  | zero => rfl
  | succ m ih => rw [List.replicate_succ, List.flatten_cons, ih]; rfl
noncomputable def But (d : Addr) (H H' : HP) : Prop := ∀ a o, a ≠ d → H a = some o → H' a = some o
theorem RoomAt.setRow {r : Addr} {v : V} (R : RoomAt C N rm dx ra B H) {P : HP → Prop} (h : P (upd H dx (.flds [(Str.ofString "row", v), (Str.ofString "filled", .int (pl B B.length))]))) : setAttrP C (.ref rm) (Str.ofString "row") v H P := by
  simp only [setAttrP, onR, R.i, onIn, R.d, onFl, true_and]
  exact ⟨by simp [roomF], h⟩
theorem setFil {v w v' : V} {P : HP → Prop} (hi : H rm = some (.inst C dx)) (hd : H dx = some (.flds [(Str.ofString "row", v), (Str.ofString "filled", w)])) (h : P (upd H dx (.flds [(Str.ofString "row", v), (Str.ofString "filled", v')]))) : setAttrP C (.ref rm) (Str.ofString "filled") v' H P := by
  simp only [setAttrP, onR, hi, onIn, hd, onFl, true_and]
  exact ⟨by simp, h⟩
theorem RoomAt.nrd (R : RoomAt C N rm dx ra B H) : rm ≠ dx := fun e => by have := R.i; rw [e, R.d] at this; cases this
theorem RoomAt.nra (R : RoomAt C N rm dx ra B H) : rm ≠ ra := fun e => by have := R.i; rw [e, R.r] at this; cases this
theorem RoomAt.nda (R : RoomAt C N rm dx ra B H) : dx ≠ ra := fun e => by have := R.d; rw [e, R.r] at this; cases this

theorem put_ms {f_Room_need_box f_is_whole f_fields_of f_need_things f_Room_need_boxes f_word_of b : Addr} {k j : Nat} {f : List Th} {t : Th} (hx : NeedXSpec cx C n f_Room_need_box) (hw : WholeSp cx n f_is_whole) (h2 : Fn1 cx n f_fields_of fun w => .int (w.fdiv 4)) (hnt : NeedTSpec cx n f_need_things) (hnb : NeedBSpec cx C n f_Room_need_boxes) (hwo : WordOfSpec cx n f_word_of)
    (R : RoomAt C N rm dx ra B H) (hk : B[k]? = some f) (hj : j < f.length) (hb : lk cx H b = some (.tup (thV (plt B t)))) (hok : OkT B t)
    (hQ : ∀ H', RoomAt C N rm dx ra (B.set k (f.set j t)) H' → But ra H H' → KZ cx H H' → Q .none H') :
    mwpSs cx n (m_Room_put C f_Room_need_box f_is_whole f_fields_of f_need_things f_Room_need_boxes f_word_of) [.ref rm, .int (pl B k), .int j, .ref b] H (NQ Q) (RQ Q) := by
  have hkl := (List.getElem?_eq_some_iff.mp hk).1
  have hlen := rowN_length R.le
  have hn4 := R.n4
  have hsh := shp_N R.le R.n4
  refine S_cons ?_
  walk_at "st"
  refine ⟨R.no fun _ _ => rfl, hx _ _ _ _ _ _ _ _ R hkl (S_cons ?_)⟩
  walk_at "st"
  refine hw _ _ _ ?_
  walk_at "st"
  refine ⟨fun _ => ?_, fun q => absurd q (by rw [decide_eq_false_iff_not]; first | lia | omega)⟩
  simp only [R.row]
  walk_at "st"
  simp only [lk_of R.r, ints_length, ints_get?, Int.toNat_natCast, hsh.hd hk, Option.map_some]
  refine ⟨by first | lia | omega, by first | lia | omega, h2 _ _ _ ?_⟩
  dsimp only
  rw [fdiv4, show 4 * (f.length : Int) / 4 = (f.length : Int) from by first | lia | omega]
  walk_at "st"
  rw [show decide ((j : Int) < (f.length : Int)) = true from decide_eq_true (by first | lia | omega)]
  walk_at "st"
  refine S_nil (S_cons ?_)
  walk_at "st"
  have one : ∀ {H1 : HP}, Ext cx H H1 → All2 (ThAt cx H1) [.ref b] [plt B t] := fun x => All2.nil.snoc ⟨b, rfl, x.lk hb⟩
  refine ⟨by simp, fun r1 hr1 => ?_⟩
  have x1 := Ext.new hr1 (.list [V.ref b])
  refine hnt _ _ _ _ _ lk_same (one x1) (by simp) (S_cons ?_)
  walk_at "st"
  refine ⟨(R.ext x1.le).no fun _ _ => rfl, by simp, fun r2 hr2 => ?_⟩
  have x2 := x1.new' hr2 (.list [V.ref b])
  refine hnb _ _ _ _ _ _ _ [t] _ _ (R.ext x2.le) lk_same (one x2) (fun u hu => by rw [List.mem_singleton] at hu; rw [hu]; exact hok) (by simp) (S_cons ?_)
  generalize upd (upd H r1 (.list [V.ref b])) r2 (.list [V.ref b]) = H2 at x2
  have R2 := R.ext x2.le
  walk_at "st"
  refine hwo _ _ _ _ (x2.lk hb) ?_
  simp only [R2.row]
  walk_at "st"
  have hfl : f[j]? = some f[j] := List.getElem?_eq_getElem hj
  have hxl := (List.getElem?_eq_some_iff.mp (hsh.fld hk hfl)).1
  rw [show (pl B k : Int) + 1 + (j : Int) = ((pl B k + 1 + j : Nat) : Int) from by first | lia | omega]
  simp only [R2.r, ints_length, Int.toNat_natCast, ints_set, word_plt]
  refine ⟨by first | lia | omega, by first | lia | omega, hxl, S_nil ⟨_, LE.refl _, hQ _ ⟨?_, ?_, ?_, R.n4, ?_, wfb_set R.w hk hok⟩ (fun a o ha e => by rw [upd_ne _ ha]; exact x2.le _ _ e) (KZ.upd x2.z R2.r)⟩⟩
  · rw [upd_ne _ R2.nra]; exact R2.i
  · rw [upd_ne _ R2.nda, pl_set_len hk (by simp)]; exact R2.d
  · rw [upd_same, rowN_set hk hj]
  · rw [pl_set_len hk (by simp)]; exact R.le
noncomputable def PutSpec (cx : Cx) (C : Addr) (n : Nat) (g : Addr) : Prop := ∀ (N : Nat) (rm dx ra b : Addr) (B : Bx) (k j : Nat) (f : List Th) (t : Th) (H : HP) (Q : V → HP → Prop), RoomAt C N rm dx ra B H → B[k]? = some f → j < f.length → lk cx H b = some (.tup (thV (plt B t))) → OkT B t →
  (∀ H', RoomAt C N rm dx ra (B.set k (f.set j t)) H' → But ra H H' → KZ cx H H' → Q .none H') → CallP cx n g [.ref rm, .int (pl B k), .int j, .ref b] H Q

theorem made_ms {f_need_things f_Room_need_boxes f_head_word f_word_of la : Addr} {vs : List V} {ts : List Th} (hnt : NeedTSpec cx n f_need_things) (hnb : NeedBSpec cx C n f_Room_need_boxes) (h1 : ∀ (p : Int) (b : Bool) (H : HP) (Q : V → HP → Prop), Q (.int (4 * p + 2 * (if b then 1 else 0))) H → CallP cx n f_head_word [.int p, .bool b] H Q) (hwo : WordOfSpec cx n f_word_of)
    (R : RoomAt C N rm dx ra B H) (hl : lk cx H la = some (.list vs)) (hts : All2 (ThAt cx H) vs (ts.map (plt B))) (hok : ∀ t ∈ ts, OkT B t) (hts4 : ts.length ≤ 1000)
    (hX : N < pl B B.length + 1 + ts.length → Q (.exc K) H)
    (hQ : pl B B.length + 1 + ts.length ≤ N → ∀ ra' H', RoomAt C N rm dx ra' (B ++ [ts]) H' → Fresh cx H ra' → But dx H H' → KZ cx H H' → Q (.int (pl B B.length)) H') :
    mwpSs cx n (m_Room_made f_need_things C f_Room_need_boxes K f_head_word f_word_of) [.ref rm, .ref la, .unb, .unb, .unb] H (NQ Q) (RQ Q) := by
  have h1' : ∀ (p : Int) (H : HP) (Q : V → HP → Prop), Q (.int (4 * p)) H → CallP cx n f_head_word [.int p, .bool false] H Q := fun p H Q h => h1 p false H Q (by simpa using h)
  have hlen := rowN_length R.le
  have hn4 := R.n4
  have hsh := shp_N R.le R.n4
  have hvl := hts.1
  rw [List.length_map] at hvl
  refine S_cons ?_
  walk_at "st"
  refine hnt _ _ _ _ _ hl hts (by first | lia | omega) (S_cons ?_)
  walk_at "st"
  refine ⟨R.no fun _ _ => rfl, hnb _ _ _ _ _ _ _ _ _ _ R hl hts hok (by first | lia | omega) (S_cons ?_)⟩
  walk_at "st"
  simp only [R.fil]
  refine S_cons ?_
  walk_at "st"
  simp only [hl, hvl]
  rw [show (pl B B.length : Int) + 1 + (ts.length : Int) = ((pl B B.length + 1 + ts.length : Nat) : Int) from by first | lia | omega]
  refine ⟨by first | lia | omega, S_cons ?_⟩
  walk_at "st"
  simp only [R.row]
  walk_at "st"
  simp only [lk_of R.r, ints_length, hlen]
  refine ⟨by first | lia | omega, fun q => S_cons ?_, fun q => S_nil (S_cons ?_)⟩
  · walk_at "st"
    rw [decide_eq_true_iff] at q
    exact RQ.here (hX (by first | lia | omega))
  rw [decide_eq_false_iff_not] at q
  have hle : pl B B.length + 1 + ts.length ≤ N := by first | lia | omega
  walk_at "st"
  simp only [hl, hvl]
  refine ⟨by first | lia | omega, h1' _ _ _ ⟨by simp, fun r1 hr1 => ?_⟩⟩
  have x1 := Ext.new hr1 (.list [V.int (4 * (ts.length : Int))])
  simp only [x1.lk hl]
  refine ⟨by first | lia | omega, by first | lia | omega, fun done acc H' => acc = intsV ((ts.take done.length).map (word (pl B))) ∧ H' = upd H r1 (.list [V.int (4 * (ts.length : Int))]), ⟨rfl, rfl⟩, ?_, ?_, ?_⟩
  · rintro _ _ _ ⟨_, rfl⟩; exact x1.lk hl
  · rintro done x rest acc H' e ⟨rfl, rfl⟩
    obtain ⟨t', ht', b, rfl, hb⟩ := hts.get (i := done.length) (x := x) (by rw [e]; simp)
    rw [List.getElem?_map] at ht'
    cases ht : ts[done.length]? with
    | none => rw [ht] at ht'; cases ht'
    | some t =>
    rw [ht] at ht'; cases ht'
    walk_at "st"
    refine hwo _ _ _ _ (x1.lk hb) ⟨_, LE.refl _, ?_, rfl⟩
    rw [word_plt, List.length_append, List.length_singleton, List.take_succ, ht, List.map_append]
    simp [intsV]
  rintro acc H' ⟨rfl, rfl⟩ r2 hr2
  rw [hvl, List.take_length] at *
  have n12 : r1 ≠ r2 := hr2.ne lk_same
  walk_at "st"
  simp only [lk_ne n12, lk_same, List.length_singleton, ints_length, List.length_map]
  refine ⟨by first | lia | omega, fun r3 hr3 => S_cons ?_⟩
  have x3 := (x1.new' hr2 (.list (intsV (ts.map (word (pl B)))))).new' hr3 (.list ([V.int (4 * (ts.length : Int))] ++ intsV (ts.map (word (pl B)))))
  have e3 : (upd (upd (upd H r1 (.list [V.int (4 * (ts.length : Int))])) r2 (.list (intsV (ts.map (word (pl B)))))) r3 (.list ([V.int (4 * (ts.length : Int))] ++ intsV (ts.map (word (pl B)))))) r3 = some (.list (intsV (4 * (ts.length : Int) :: ts.map (word (pl B))))) := by
    rw [upd_same]; simp [intsV]
  generalize upd (upd (upd H r1 (.list [V.int (4 * (ts.length : Int))])) r2 (.list (intsV (ts.map (word (pl B)))))) r3 (.list ([V.int (4 * (ts.length : Int))] ++ intsV (ts.map (word (pl B))))) = H3 at x3 e3
  have R3 := R.ext x3.le
  walk_at "st"
  simp only [R3.row]
  walk_at "st"
  simp only [lk_of R3.r, ints_length, hlen, cutHi_nn (Int.natCast_nonneg _), cutLo, Int.toNat_natCast, cut_ints, List.drop_zero]
  rw [Nat.min_eq_left (show pl B B.length ≤ N by first | lia | omega)]
  refine ⟨by first | lia | omega, fun r4 hr4 => ?_⟩
  have x4 := x3.new' hr4 (.list (intsV ((rowN N B).take (pl B B.length))))
  have e4 := (Ext.new hr4 (.list (intsV ((rowN N B).take (pl B B.length))))).lk (lk_of e3)
  walk_at "st"
  simp only [e4, lk_same, ints_length, List.length_take, List.length_cons, List.length_map, ints_append, hlen]
  refine ⟨by first | lia | omega, fun r5 hr5 => ?_⟩
  have x5 := x4.new' hr5 (.list (intsV ((rowN N B).take (pl B B.length) ++ (4 * (ts.length : Int) :: ts.map (word (pl B))))))
  have e5 : lk cx (upd (upd H3 r4 (.list (intsV ((rowN N B).take (pl B B.length))))) r5 (.list (intsV ((rowN N B).take (pl B B.length) ++ (4 * (ts.length : Int) :: ts.map (word (pl B))))))) r5 = some (.list (intsV ((rowN N B).take (pl B B.length) ++ (4 * (ts.length : Int) :: ts.map (word (pl B)))))) := lk_same
  generalize upd (upd H3 r4 (.list (intsV ((rowN N B).take (pl B B.length))))) r5 (.list (intsV ((rowN N B).take (pl B B.length) ++ (4 * (ts.length : Int) :: ts.map (word (pl B)))))) = H5 at x5 e5
  have R5 := R.ext x5.le
  simp only [R5.row]
  walk_at "st"
  simp only [lk_of R5.r, ints_length, hlen, cutLo_nn (Int.natCast_nonneg _), cutHi, Int.toNat_natCast, cut_ints]
  rw [Nat.min_eq_left (show pl B B.length + 1 + ts.length ≤ N by first | lia | omega), List.take_of_length_le (show (rowN N B).length ≤ N by first | lia | omega)]
  refine ⟨by first | lia | omega, fun r6 hr6 => ?_⟩
  have x6 := x5.new' hr6 (.list (intsV ((rowN N B).drop (pl B B.length + 1 + ts.length))))
  have e6 := (Ext.new hr6 (.list (intsV ((rowN N B).drop (pl B B.length + 1 + ts.length))))).lk e5
  walk_at "st"
  simp only [e6, lk_same, ints_length, ints_append, List.length_append, List.length_take, List.length_cons, List.length_map, List.length_drop, hlen]
  refine ⟨by first | lia | omega, fun r7 hr7 => ?_⟩
  have hrow := rowN_app (N := N) R.w hle hok
  rw [hrow] at *
  have x7 := x6.new' hr7 (.list (intsV (rowN N (B ++ [ts]))))
  have e7 : (upd (upd H5 r6 (.list (intsV ((rowN N B).drop (pl B B.length + 1 + ts.length))))) r7 (.list (intsV (rowN N (B ++ [ts]))))) r7 = some (.list (intsV (rowN N (B ++ [ts])))) := upd_same _ _ _
  have hdr : dx ≠ r7 := hr7.ne' (x6.le _ _ R.d)
  generalize upd (upd H5 r6 (.list (intsV ((rowN N B).drop (pl B B.length + 1 + ts.length))))) r7 (.list (intsV (rowN N (B ++ [ts])))) = H7 at x7 e7
  have R7 := R.ext x7.le
  refine R7.setRow (r := r7) (S_cons ?_)
  walk_at "st"
  refine setFil (by rw [upd_ne _ R7.nrd]; exact R7.i) (upd_same _ _ _) (S_cons ?_)
  walk_at "st"
  rw [upd_upd]
  refine RQ.here (hQ hle r7 _ ⟨?_, ?_, ?_, R.n4, by rw [pl_app_len]; exact hle, wfb_app R.w hok⟩ (x6.fresh hr7) (fun a o ha e => by rw [upd_ne _ ha]; exact x7.le _ _ e) (KZ.upd x7.z R7.d))
  · rw [upd_ne _ R7.nrd]; exact R7.i
  · rw [upd_same, pl_app_len]; rfl
  · rw [upd_ne _ (Ne.symm hdr)]; exact e7
noncomputable def MadeSpec (cx : Cx) (C K : Addr) (n : Nat) (g : Addr) : Prop := ∀ (N : Nat) (rm dx ra la : Addr) (B : Bx) (vs : List V) (ts : List Th) (H : HP) (Q : V → HP → Prop), RoomAt C N rm dx ra B H → lk cx H la = some (.list vs) → All2 (ThAt cx H) vs (ts.map (plt B)) → (∀ t ∈ ts, OkT B t) → ts.length ≤ 1000 →
  (N < pl B B.length + 1 + ts.length → Q (.exc K) H) → (pl B B.length + 1 + ts.length ≤ N → ∀ ra' H', RoomAt C N rm dx ra' (B ++ [ts]) H' → Fresh cx H ra' → But dx H H' → KZ cx H H' → Q (.int (pl B B.length)) H') → CallX cx n g [.ref rm, .ref la] H Q

theorem init_ms {f_is_whole f_head_word : Addr} {d : Nat} (hw : WholeSp cx n f_is_whole) (h1 : ∀ (p : Int) (b : Bool) (H : HP) (Q : V → HP → Prop), Q (.int (4 * p + 2 * (if b then 1 else 0))) H → CallP cx n f_head_word [.int p, .bool b] H Q)
    (hi : H rm = some (.inst C dx)) (hdx : H dx = some (.flds [])) (hd : d ≤ 20) (hN : d + 1 ≤ N) (hN4 : N ≤ 400)
    (hQ : ∀ ra H', RoomAt C N rm dx ra [List.replicate d (false, 0)] H' → Fresh cx H ra → But dx H H' → KZ cx H H' → Q .none H') :
    mwpSs cx n (m_Room_init f_is_whole C f_head_word) [.ref rm, .int N, .int d] H (NQ Q) (RQ Q) := by
  have h1' : ∀ (p : Int) (H : HP) (Q : V → HP → Prop), Q (.int (4 * p)) H → CallP cx n f_head_word [.int p, .bool false] H Q := fun p H Q h => h1 p false H Q (by simpa using h)
  have nrd : rm ≠ dx := fun e => by rw [e, hdx] at hi; cases hi
  refine S_cons ?_
  walk_at "st"
  refine hw _ _ _ ?_
  walk_at "st"
  refine hw _ _ _ ?_
  walk_at "st"
  refine S_nil (S_cons ?_)
  walk_at "st"
  rw [show decide ((0 : Int) ≤ (d : Int)) = true from decide_eq_true (by first | lia | omega), show decide ((d : Int) ≤ 20) = true from decide_eq_true (by first | lia | omega), show decide ((N : Int) < (d : Int) + 1) = false from decide_eq_false (by first | lia | omega), show decide ((1 : Int) ≤ (N : Int)) = true from decide_eq_true (by first | lia | omega), show decide ((N : Int) ≤ 400) = true from decide_eq_true (by first | lia | omega)]
  walk_at "st"
  refine S_nil (S_cons ?_)
  walk_at "st"
  refine h1' _ _ _ ⟨by simp, fun r1 hr1 => ⟨by simp, fun r2 hr2 => ?_⟩⟩
  have n12 : r1 ≠ r2 := hr2.ne lk_same
  walk_at "st"
  simp only [lk_same, List.length_singleton, show ((N : Int) - 1).toNat = N - 1 from by first | lia | omega, rep_zero]
  refine ⟨by first | lia | omega, by first | lia | omega, by first | lia | omega, fun r3 hr3 => ?_⟩
  have n13 : r1 ≠ r3 := hr3.ne (lk_fresh hr2 lk_same)
  simp only [lk_ne n13, lk_ne n12, lk_same, List.length_singleton, ints_length, List.length_replicate]
  refine ⟨by first | lia | omega, fun r4 hr4 => ?_⟩
  have x3f := ((Ext.new hr1 (.list [V.int (4 * (d : Int))])).new' hr2 (.list [V.int 0])).new' hr3 (.list (intsV (List.replicate (N - 1) 0)))
  have x4 := (((Ext.new hr1 (.list [V.int (4 * (d : Int))])).new' hr2 (.list [V.int 0])).new' hr3 (.list (intsV (List.replicate (N - 1) 0)))).new' hr4 (.list ([V.int (4 * (d : Int))] ++ intsV (List.replicate (N - 1) 0)))
  have hd4 : dx ≠ r4 := hr4.ne' ((((Ext.new hr1 (.list [V.int (4 * (d : Int))])).new' hr2 (.list [V.int 0])).new' hr3 (.list (intsV (List.replicate (N - 1) 0)))).le _ _ hdx)
  have e4 : (upd (upd (upd (upd H r1 (.list [V.int (4 * (d : Int))])) r2 (.list [V.int 0])) r3 (.list (intsV (List.replicate (N - 1) 0)))) r4 (.list ([V.int (4 * (d : Int))] ++ intsV (List.replicate (N - 1) 0)))) r4 = some (.list (intsV (rowN N [List.replicate d (false, 0)]))) := by
    rw [upd_same, ← rowN_room hN]; rfl
  generalize upd (upd (upd (upd H r1 (.list [V.int (4 * (d : Int))])) r2 (.list [V.int 0])) r3 (.list (intsV (List.replicate (N - 1) 0)))) r4 (.list ([V.int (4 * (d : Int))] ++ intsV (List.replicate (N - 1) 0))) = H4 at x4 e4
  have a1 : setAttrP C (.ref rm) (Str.ofString "row") (.ref r4) H4 (fun H => mwpSs cx n (.cons (.setAttr C 0 (Str.ofString "filled") (.bin .Add (.loc 2) (.cint (1)))) .nil) [.ref rm, .int N, .int d] H (NQ Q) (RQ Q)) := by
    simp only [setAttrP, onR, x4.le _ _ hi, onIn, x4.le _ _ hdx, onFl, true_and]
    refine ⟨by simp [putF], S_cons ?_⟩
    walk_at "st"
    simp only [setAttrP, onR, upd_ne _ nrd, x4.le _ _ hi, onIn, upd_same, onFl, true_and, upd_upd]
    refine ⟨by simp [putF], S_nil ⟨_, LE.refl _, hQ r4 _ ⟨?_, ?_, ?_, hN4, ?_, wfb_room d⟩ (x3f.fresh hr4) (fun a o ha e => by rw [upd_ne _ ha]; exact x4.le _ _ e) (KZ.upd x4.z (x4.le _ _ hdx))⟩⟩
    · rw [upd_ne _ nrd]; exact x4.le _ _ hi
    · rw [upd_same]; simp only [List.length_singleton, pl_room]; rfl
    · rw [upd_ne _ (Ne.symm hd4)]; exact e4
    · simp only [List.length_singleton, pl_room]; first | lia | omega
  exact a1
noncomputable def InitSpec (cx : Cx) (C : Addr) (n : Nat) (g : Addr) : Prop := ∀ (rm dx : Addr) (N d : Nat) (H : HP) (Q : V → HP → Prop), H rm = some (.inst C dx) → H dx = some (.flds []) → d ≤ 20 → d + 1 ≤ N → N ≤ 400 →
  (∀ ra H', RoomAt C N rm dx ra [List.replicate d (false, 0)] H' → Fresh cx H ra → But dx H H' → KZ cx H H' → Q .none H') → CallP cx n g [.ref rm, .int N, .int d] H Q
end
end Mine
end

section
namespace Mine
open PySem PyProof.Rows

noncomputable def enumF : Nat → List V → List (Int × V)
  | _, [] => []
  | i, v :: r => ((i : Int), v) :: enumF (i + 1) r
noncomputable def enumV (vs : List V) : List (Int × V) := enumF 0 vs
theorem enumF_length : ∀ (i : Nat) (vs : List V), (enumF i vs).length = vs.length
  | _, [] => rfl
  | i, v :: r => by rw [enumF, List.length_cons, List.length_cons, enumF_length]
theorem enumV_length (vs : List V) : (enumV vs).length = vs.length := enumF_length 0 vs
theorem getK_enumF : ∀ (vs : List V) (i k : Nat), getK (enumF i vs) ((i + k : Nat) : Int) = vs[k]?
  | [], _, _ => rfl
  | v :: r, i, 0 => by simp [enumF, getK]
  | v :: r, i, k + 1 => by
    have h := getK_enumF r (i + 1) k
    rw [show i + 1 + k = i + (k + 1) from by first | lia | omega] at h
    rw [enumF, List.getElem?_cons_succ, ← h]
    unfold getK
    rw [List.find?_cons, decide_eq_false (show ¬ (i : Int) = ((i + (k + 1) : Nat) : Int) from by first | lia | omega)]
theorem getK_enum (vs : List V) (k : Nat) : getK (enumV vs) (k : Int) = vs[k]? := by
  have := getK_enumF vs 0 k
  rw [Nat.zero_add] at this; exact this
theorem enumF_lt : ∀ (vs : List V) (i : Nat), ∀ p ∈ enumF i vs, (i : Int) ≤ p.1 ∧ p.1 < ((i + vs.length : Nat) : Int)
  | [], _, p, h => by cases h
  | v :: r, i, p, h => by
    rcases List.mem_cons.mp h with rfl | h
    · simp; first | lia | omega
    · have := enumF_lt r (i + 1) p h
      rw [List.length_cons]; first | lia | omega
theorem enumF_snoc : ∀ (vs : List V) (i : Nat) (v : V), enumF i vs ++ [(((i + vs.length : Nat) : Int), v)] = enumF i (vs ++ [v])
  | [], _, _ => rfl
  | u :: r, i, v => by
    rw [List.cons_append, enumF, enumF, List.cons_append, ← enumF_snoc r (i + 1) v, List.length_cons, show i + 1 + r.length = i + (r.length + 1) from by first | lia | omega]
theorem putK_new (vs : List V) (v : V) : putK (enumV vs) (vs.length : Int) v = enumV (vs ++ [v]) := by
  unfold putK
  rw [if_neg]
  · have := enumF_snoc vs 0 v
    rw [Nat.zero_add] at this; exact this
  · rw [List.any_eq_true]
    rintro ⟨p, hp, e⟩
    have := enumF_lt vs 0 p hp
    rw [decide_eq_true_iff] at e
    first | lia | omega
theorem putF_set : ∀ (vs : List V) (i k : Nat) (v : V), (enumF i vs).map (fun p => if p.1 = ((i + k : Nat) : Int) then (p.1, v) else p) = enumF i (vs.set k v)
  | [], _, _, _ => rfl
  | u :: r, i, 0, v => by
    rw [enumF, List.map_cons, List.set_cons_zero, enumF, if_pos (by simp)]
    congr 1
    conv => rhs; rw [← List.map_id (enumF (i + 1) r)]
    apply List.map_congr_left
    intro p hp
    have := enumF_lt r (i + 1) p hp
    rw [if_neg (by first | lia | omega)]; rfl
  | u :: r, i, k + 1, v => by
    have h := putF_set r (i + 1) k v
    rw [show i + 1 + k = i + (k + 1) from by first | lia | omega] at h
    rw [enumF, List.map_cons, List.set_cons_succ, enumF, if_neg (by first | lia | omega), h]
theorem putK_set {vs : List V} {k : Nat} (hk : k < vs.length) (v : V) : putK (enumV vs) (k : Int) v = enumV (vs.set k v) := by
  unfold putK
  rw [if_pos]
  · have := putF_set vs 0 k v
    rw [Nat.zero_add] at this; exact this
  · rw [List.any_eq_true]
    have h := getK_enum vs k
    rw [List.getElem?_eq_getElem hk] at h
    unfold getK at h
    obtain ⟨p, hp, _⟩ := Option.map_eq_some_iff.mp h
    exact ⟨p, List.mem_of_find?_eq_some hp, by simpa using List.find?_some hp⟩
noncomputable def plV (B : Bx) : List V := (List.range B.length).map fun i => V.int (pl B i)
theorem plV_get {B : Bx} {k : Nat} (h : k < B.length) : (plV B)[k]? = some (.int (pl B k)) := by
  rw [plV, List.getElem?_map, List.getElem?_range h]; rfl
section
variable {cx : Cx} {C rm dx ra K : Addr} {N : Nat} {B : Bx} {H H' H1 : HP} {n : Nat} {a r : Addr} {o o' : O} {Q : V → HP → Prop}
noncomputable def m_law_places_of : MSs :=
  (.cons (.assign 2 .dnil)
  (.cons (.assign 3 (.cint (0)))
  (.cons (.for_ 4 (.loc 0) (.cons (.setD (.loc 2) (.loc 4) (.loc 3))
    (.cons (.assign 3 (.bin .Add (.bin .Add (.loc 3) (.cint (1))) (.callb .len (.cons (.dsub (.loc 1) (.loc 4)) .nil))))
    .nil)))
  (.cons (.ret (.loc 2))
  .nil))))
noncomputable def m_law_thing (f_law_number : Addr) : MSs :=
  (.cons (.ite (.cmp (.bin .Mod (.loc 0) (.cint (3))) .Eq (.cint (0))) (.cons (.ret (.tup (.cons (.cstr (Str.ofString "number")) (.cons (.callf f_law_number (.cons (.bin .FloorDiv (.loc 0) (.cint (3))) .nil)) .nil))))
    .nil) .nil)
  (.cons (.ret (.tup (.cons (.cstr (Str.ofString "box")) (.cons (.sub (.loc 1) (.bin .Mod (.bin .FloorDiv (.loc 0) (.cint (3))) (.callb .len (.cons (.loc 1) .nil)))) .nil))))
  .nil))
noncomputable def m_law_handed : MSs :=
  (.cons (.ite (.cmp (.sub (.loc 0) (.cint (0))) .Eq (.cstr (Str.ofString "number"))) (.cons (.ret (.loc 0))
    .nil) .nil)
  (.cons (.ret (.tup (.cons (.cstr (Str.ofString "box")) (.cons (.dsub (.loc 1) (.sub (.loc 0) (.cint (1)))) .nil))))
  .nil))
noncomputable def m_law_many : MSs :=
  (.cons (.ite (.bop .And (.cons (.cmp (.bin .Mod (.loc 0) (.cint (8))) .Eq (.cint (7))) (.cons (.cmp (.bin .Mod (.bin .FloorDiv (.loc 1) (.cint (30))) (.cint (6))) .Eq (.cint (1))) .nil))) (.cons (.ret (.bin .Mod (.loc 1) (.cint (390))))
    .nil) .nil)
  (.cons (.ite (.cmp (.bin .Mod (.loc 0) (.cint (8))) .Eq (.cint (7))) (.cons (.ret (.bin .Mod (.loc 1) (.cint (30))))
    .nil) .nil)
  (.cons (.ret (.bin .Mod (.loc 1) (.cint (5))))
  .nil)))
theorem nat_item {m : Nat} {done rest : List V} {x : V} (e : natsV (List.range m) = done ++ x :: rest) : x = .int (done.length : Int) ∧ done.length < m := by
  have hx : (natsV (List.range m))[done.length]? = some x := by rw [e]; simp
  have hl : done.length < m := by
    have := congrArg List.length e
    simp [natsV_length] at this; omega
  rw [natsV_get?, List.getElem?_range hl] at hx
  simp at hx
  exact ⟨hx.symm, hl⟩
theorem placesof_ms {oa da : Addr} {fl : List V} (ho : lk cx H oa = some (.list (natsV (List.range B.length)))) (hd : H da = some (.dct (enumV fl))) (hf : All2 (FldAt cx H) fl B) (hle : pl B B.length ≤ 1000)
    (hQ : ∀ r H', Ext cx H H' → Fresh cx H r → H' r = some (.dct (enumV (plV B))) → Q (.ref r) H') :
    mwpSs cx n m_law_places_of [.ref oa, .ref da, .unb, .unb, .unb] H (NQ Q) (RQ Q) := by
  have hBl := len_le_pl B (Nat.le_refl _)
  refine S_cons ?_
  walk_at "st"
  intro r hr
  refine S_cons ?_
  walk_at "st"
  refine S_cons ?_
  walk_at "st"
  have x0 := Ext.new hr (.dct [])
  simp only [x0.lk ho, natsV_length, List.length_range]
  refine ⟨by first | lia | omega, fun done μ H' => ∃ z, μ = [.ref oa, .ref da, .ref r, .int (pl B done.length), z] ∧ Ext cx H H' ∧ H' r = some (.dct (enumV ((plV B).take done.length))), ⟨_, by rw [List.length_nil, pl_zero]; rfl, x0, upd_same _ _ _⟩, ?_, ?_, ?_⟩
  · rintro _ _ _ ⟨_, _, x, _⟩; exact x.lk ho
  · rintro done x rest μ H1 e ⟨z, rfl, x1, hr1⟩
    obtain ⟨rfl, hk⟩ := nat_item e
    generalize hkd : done.length = k at hk hr1
    have hlen : ((plV B).take k).length = k := by rw [List.length_take, plV]; simp; first | lia | omega
    have hBk : B[k]? = some B[k] := List.getElem?_eq_getElem hk
    obtain ⟨v, hv, a, vs, rfl, ha, hvs⟩ := hf.get' hBk
    have hvl := hvs.1
    have hfl := fld_le_pl hBk
    refine S_cons ?_
    walk_at "st"
    simp only [hr1, enumV_length, hlen]
    have hput := putK_new ((plV B).take k) (.int (pl B k))
    rw [hlen] at hput
    rw [hput]
    refine ⟨by first | lia | omega, S_cons ?_⟩
    have x2 := x1.upd hr.1 hr.2.2 (.dct (enumV ((plV B).take k ++ [.int (pl B k)])))
    walk_at "st"
    simp only [x2.le _ _ hd, getK_enum, hv]
    walk_at "st"
    simp only [x2.lk ha, hvl]
    refine ⟨by first | lia | omega, S_nil ⟨_, LE.refl _, .int (k : Int), ?_, x2, ?_⟩⟩
    · rw [List.length_append, List.length_singleton, hkd, pl_succ hBk, show (pl B k : Int) + 1 + (B[k].length : Int) = ((pl B k + 1 + B[k].length : Nat) : Int) from by first | lia | omega]
    · rw [upd_same, List.length_append, List.length_singleton, hkd, List.take_succ, plV_get hk]; rfl
  · rintro μ H1 ⟨z, rfl, x1, hr1⟩
    rw [natsV_length, List.length_range] at hr1
    rw [List.take_of_length_le (by rw [plV]; simp)] at hr1
    refine S_cons ?_
    walk_at "st"
    exact RQ.here (hQ r H1 x1 hr hr1)
noncomputable def PlacesOfSpec (cx : Cx) (n : Nat) (f : Addr) : Prop := ∀ (oa da : Addr) (fl : List V) (B : Bx) (H : HP) (Q : V → HP → Prop), lk cx H oa = some (.list (natsV (List.range B.length))) → H da = some (.dct (enumV fl)) → All2 (FldAt cx H) fl B → pl B B.length ≤ 1000 →
  (∀ r H', Ext cx H H' → Fresh cx H r → H' r = some (.dct (enumV (plV B))) → Q (.ref r) H') → CallP cx n f [.ref oa, .ref da] H Q

theorem lbits {v : Int} (h1 : 0 ≤ v) (h2 : v < 1000000) : Builtin.Int.intBits v ≤ 3000000 := bits_of (k := 20) (by omega) (by decide)
theorem thing_ms {f_law_number oa : Addr} {seed : Int} (hn : NumSpec cx n f_law_number) (ho : lk cx H oa = some (.list (natsV (List.range B.length)))) (hB : 0 < B.length) (hB2 : B.length ≤ 1000) (h0 : 0 ≤ seed) (h1 : seed < 1000000)
    (hQ : ∀ t tb H', OkT B t → Ext cx H H' → H' tb = some (.tup (thV t)) → Q (.ref tb) H') :
    mwpSs cx n (m_law_thing f_law_number) [.int seed, .ref oa] H (NQ Q) (RQ Q) := by
  refine S_cons ?_
  walk_at "st"
  refine ⟨by decide, fun _ => S_cons ?_, fun _ => S_nil (S_cons ?_)⟩
  · walk_at "st"
    refine ⟨by decide, hn _ _ _ (intBits_fdiv_le (lbits h0 h1)) fun v _ => ⟨by simp, fun tb htb => RQ.here (hQ (false, v) tb _ (fun q => by cases q) (Ext.new htb _) (upd_same _ _ _))⟩⟩
  · walk_at "st"
    simp only [ho, natsV_length, List.length_range]
    obtain ⟨b1, b2⟩ := fmod_pos_bounds (seed.fdiv 3) (b := (B.length : Int)) (by first | lia | omega)
    have e : (natsV (List.range B.length))[((seed.fdiv 3).fmod (B.length : Int)).toNat]? = some (.int (((seed.fdiv 3).fmod (B.length : Int)).toNat : Int)) := by
      rw [natsV_get?, List.getElem?_range (by first | lia | omega)]; rfl
    generalize ((seed.fdiv 3).fmod (B.length : Int)).toNat = k at e
    rw [e]
    refine ⟨by decide, by first | lia | omega, by first | lia | omega, b1, by first | lia | omega, ?_⟩
    have hk : k < B.length := by
      rw [natsV_get?] at e
      cases q : (List.range B.length)[k]? with
      | none => rw [q] at e; cases e
      | some y => have := (List.getElem?_eq_some_iff.mp q).1; simpa using this
    refine ⟨by simp, fun tb htb => RQ.here (hQ (true, (k : Int)) tb _ (fun _ => ⟨k, rfl, hk⟩) (Ext.new htb _) (upd_same _ _ _))⟩
noncomputable def ThingSpec (cx : Cx) (n : Nat) (f : Addr) : Prop := ∀ (oa : Addr) (B : Bx) (seed : Int) (H : HP) (Q : V → HP → Prop), lk cx H oa = some (.list (natsV (List.range B.length))) → 0 < B.length → B.length ≤ 1000 → 0 ≤ seed → seed < 1000000 →
  (∀ t tb H', OkT B t → Ext cx H H' → H' tb = some (.tup (thV t)) → Q (.ref tb) H') → CallP cx n f [.int seed, .ref oa] H Q

theorem handed_ms {b pa : Addr} {t : Th} (hb : lk cx H b = some (.tup (thV t))) (hp : H pa = some (.dct (enumV (plV B)))) (hok : OkT B t) (hQ : ∀ v H', Ext cx H H' → ThAt cx H' v (plt B t) → Q v H') :
    mwpSs cx n m_law_handed [.ref b, .ref pa] H (NQ Q) (RQ Q) := by
  refine S_cons ?_
  walk_at "st"
  simp only [hb, thV_len, thV_0]
  walk_at "st"
  rw [ths_n]
  refine ⟨by decide, by decide, fun q => S_cons ?_, fun q => S_nil (S_cons ?_)⟩
  · walk_at "st"
    refine RQ.here (hQ _ _ (Ext.refl _ _) ⟨b, rfl, ?_⟩)
    rw [hb, show plt B t = t from by unfold plt; rw [if_neg (by simpa using q)]]
  · have q' : t.1 = true := by simpa using q
    obtain ⟨j, e, hj⟩ := hok q'
    walk_at "st"
    simp only [hb, thV_len, thV_1, e]
    refine ⟨by decide, by decide, ?_⟩
    walk_at "st"
    simp only [hp, getK_enum, plV_get hj]
    refine ⟨by simp, fun tb htb => RQ.here (hQ _ _ (Ext.new htb _) ⟨tb, rfl, ?_⟩)⟩
    rw [lk_same, thV, plt_1, if_pos q', show (plt B t).2 = (pl B j : Int) from by simp [plt, q', e]]
noncomputable def HandedSpec (cx : Cx) (n : Nat) (f : Addr) : Prop := ∀ (b pa : Addr) (B : Bx) (t : Th) (H : HP) (Q : V → HP → Prop), lk cx H b = some (.tup (thV t)) → H pa = some (.dct (enumV (plV B))) → OkT B t → (∀ v H', Ext cx H H' → ThAt cx H' v (plt B t) → Q v H') → CallP cx n f [.ref b, .ref pa] H Q

theorem many_ms {cell seed : Int} (hQ : ∀ m : Nat, m < 390 → Q (.int m) H) : mwpSs cx n m_law_many [.int cell, .int seed] H (NQ Q) (RQ Q) := by
  have fin : ∀ (b : Int), 0 < b → b ≤ 390 → RQ Q (.int (seed.fmod b)) H := fun b h1 h2 => by
    obtain ⟨b1, b2⟩ := fmod_pos_bounds seed h1
    have := hQ (seed.fmod b).toNat (by first | lia | omega)
    rw [show (((seed.fmod b).toNat : Nat) : Int) = seed.fmod b from by first | lia | omega] at this
    exact RQ.here this
  refine S_cons ?_
  walk_at "st"
  have rest : mwpSs cx n (.cons (.ite (.cmp (.bin .Mod (.loc 0) (.cint (8))) .Eq (.cint (7))) (.cons (.ret (.bin .Mod (.loc 1) (.cint (30)))) .nil) .nil) (.cons (.ret (.bin .Mod (.loc 1) (.cint (5)))) .nil)) [.int cell, .int seed] H (NQ Q) (RQ Q) := by
    refine S_cons ?_
    walk_at "st"
    refine ⟨by decide, fun _ => S_cons ?_, fun _ => S_nil (S_cons ?_)⟩
    · walk_at "st"
      exact ⟨by decide, fin 30 (by decide) (by decide)⟩
    · walk_at "st"
      exact ⟨by decide, fin 5 (by decide) (by decide)⟩
  refine ⟨by decide, fun _ => ⟨by decide, by decide, fun _ => S_cons ?_, fun _ => S_nil rest⟩, fun q => ⟨fun q2 => absurd (q.symm.trans q2) (by decide), fun _ => S_nil rest⟩⟩
  walk_at "st"
  exact ⟨by decide, fin 390 (by decide) (by decide)⟩
noncomputable def ManySpec (cx : Cx) (n : Nat) (f : Addr) : Prop := ∀ (cell seed : Int) (H : HP) (Q : V → HP → Prop), (∀ m : Nat, m < 390 → Q (.int m) H) → CallP cx n f [.int cell, .int seed] H Q
end
end Mine
end

section
namespace Mine
noncomputable def addT (found : List Nat) (t : Th) : List Nat := if t.1 = true ∧ t.2.toNat ∉ found then found ++ [t.2.toNat] else found
noncomputable def aliveTurn (B : Bx) (found : List Nat) (turn : Nat) : List Nat := match found[turn]? with
  | some k => (B.getD k []).foldl addT found
  | none => found
noncomputable def aliveN (B : Bx) (n : Nat) : List Nat := (List.range n).foldl (aliveTurn B) [0]
noncomputable def aliveL (B : Bx) : List Nat := aliveN B B.length
theorem aliveN_succ (B : Bx) (n : Nat) : aliveN B (n + 1) = aliveTurn B (aliveN B n) n := by simp [aliveN, List.range_succ]

theorem addT_pre (l : List Nat) (t : Th) : l <+: addT l t := by
  unfold addT; split
  · exact List.prefix_append _ _
  · exact List.prefix_refl _
theorem fold_pre : ∀ (f : List Th) (l : List Nat), l <+: f.foldl addT l
  | [], l => List.prefix_refl _
  | t :: f, l => (addT_pre l t).trans (fold_pre f _)
theorem addT_nodup {l : List Nat} (h : l.Nodup) (t : Th) : (addT l t).Nodup := by
  unfold addT; split
  · rename_i q
    rw [List.nodup_append]
    refine ⟨h, by simp, fun a ha b hb => ?_⟩
    have := List.mem_singleton.mp hb
    subst this
    exact fun e => q.2 (e ▸ ha)
  · exact h
theorem fold_nodup : ∀ (f : List Th) {l : List Nat}, l.Nodup → (f.foldl addT l).Nodup
  | [], _, h => h
  | t :: f, _, h => fold_nodup f (addT_nodup h t)
theorem addT_mem {l : List Nat} {t : Th} {k : Nat} (h : k ∈ addT l t) : k ∈ l ∨ t.1 = true ∧ k = t.2.toNat := by
  unfold addT at h
  split at h
  · rename_i q
    rcases List.mem_append.mp h with h | h
    · exact .inl h
    · exact .inr ⟨q.1, List.mem_singleton.mp h⟩
  · exact .inl h
theorem fold_mem : ∀ (f : List Th) {l : List Nat} {k : Nat}, k ∈ f.foldl addT l → k ∈ l ∨ ∃ t ∈ f, t.1 = true ∧ k = t.2.toNat
  | [], _, _, h => .inl h
  | t :: f, l, k, h => by
    rcases fold_mem f h with h | ⟨u, hu, e⟩
    · rcases addT_mem h with h | h
      · exact .inl h
      · exact .inr ⟨t, List.mem_cons_self, h⟩
    · exact .inr ⟨u, List.mem_cons_of_mem _ hu, e⟩
theorem fold_all : ∀ (f : List Th) {l : List Nat} {t : Th}, t ∈ f → t.1 = true → t.2.toNat ∈ f.foldl addT l
  | u :: f, l, t, h, e => by
    rcases List.mem_cons.mp h with h | h
    · subst h
      refine (fold_pre f _).subset ?_
      unfold addT
      by_cases q : t.2.toNat ∈ l
      · simp [q]
      · simp [q, e]
    · exact fold_all f h e

structure AI (B : Bx) (t : Nat) (l : List Nat) : Prop where
  nd : l.Nodup
  lt : ∀ k ∈ l, k < B.length
  rc : ∀ k ∈ l, Reach B k
  z : 0 ∈ l
  cl : ∀ i, i < t → ∀ k, l[i]? = some k → ∀ f, B[k]? = some f → ∀ j : Nat, (true, (j : Int)) ∈ f → j ∈ l
theorem AI.step {B : Bx} (w : WFB B) {t : Nat} {l : List Nat} (I : AI B t l) : AI B (t + 1) (aliveTurn B l t) := by
  unfold aliveTurn
  cases h : l[t]? with
  | none =>
    have hl : l.length ≤ t := List.getElem?_eq_none_iff.mp h
    refine ⟨I.nd, I.lt, I.rc, I.z, fun i hi k hk f hf j hj => ?_⟩
    have : i < l.length := (List.getElem?_eq_some_iff.mp hk).1
    exact I.cl i (by first | lia | omega) k hk f hf j hj
  | some k =>
    have hkl : k ∈ l := List.mem_of_getElem? h
    have hk : k < B.length := I.lt k hkl
    have hg : B.getD k [] = B[k] := by simp [List.getD, hk]
    have hB : B[k]? = some B[k] := List.getElem?_eq_getElem hk
    have hp := fold_pre (B.getD k []) l
    have hmem : ∀ m ∈ (B.getD k []).foldl addT l, m ∈ l ∨ (m < B.length ∧ Reach B m) := by
      intro m hm
      rcases fold_mem _ hm with hm | ⟨u, hu, e1, e2⟩
      · exact .inl hm
      · rw [hg] at hu
        obtain ⟨j, ej, hj⟩ := w.tgt _ (List.mem_of_getElem? hB) u hu e1
        have : m = j := by rw [e2, ej]; simp
        subst this
        refine .inr ⟨hj, Reach.step (I.rc k hkl) hB ?_⟩
        rw [← ej, ← e1]; exact hu
    refine ⟨fold_nodup _ I.nd, fun m hm => (hmem m hm).elim (I.lt m) (·.1), fun m hm => (hmem m hm).elim (I.rc m) (·.2), hp.subset I.z, fun i hi m hm f hf j hj => ?_⟩
    by_cases q : i = t
    · subst q
      have e : ((B.getD k []).foldl addT l)[i]? = some k := by
        obtain ⟨s, hs⟩ := hp
        rw [← hs]
        rw [List.getElem?_append_left (List.getElem?_eq_some_iff.mp h).1]; exact h
      dsimp only at hm
      rw [e] at hm; cases hm
      rw [hB] at hf; cases hf
      have := fold_all (B.getD k []) (l := l) (t := (true, (j : Int))) (by rw [hg]; exact hj) rfl
      simpa using this
    · by_cases ql : i < l.length
      · have e : ((B.getD k []).foldl addT l)[i]? = l[i]? := by
          obtain ⟨s, hs⟩ := hp
          rw [← hs, List.getElem?_append_left ql]
        dsimp only at hm
        rw [e] at hm
        exact hp.subset (I.cl i (by first | lia | omega) m hm f hf j hj)
      · have : t < l.length := (List.getElem?_eq_some_iff.mp h).1
        first | lia | omega
theorem aliveN_I {B : Bx} (w : WFB B) : ∀ n, AI B n (aliveN B n)
  | 0 => by
    refine ⟨by simp [aliveN], ?_, ?_, by simp [aliveN], fun i hi => absurd hi (by first | lia | omega)⟩
    · intro k hk; simp [aliveN] at hk; subst hk; exact w.pos
    · intro k hk; simp [aliveN] at hk; subst hk; exact Reach.zero
  | n + 1 => by rw [aliveN_succ]; exact (aliveN_I w n).step w
theorem alive_ok {B : Bx} (w : WFB B) : (aliveL B).Nodup ∧ (∀ k ∈ aliveL B, k < B.length) ∧ ∀ k, k ∈ aliveL B ↔ Reach B k := by
  have I := aliveN_I w B.length
  have hl := nodup_bound _ I.nd I.lt
  refine ⟨I.nd, I.lt, fun k => ⟨I.rc k, fun h => ?_⟩⟩
  induction h with
  | zero => exact I.z
  | step _ hf ht ih =>
    obtain ⟨i, hi⟩ := List.getElem?_of_mem ih
    have : i < (aliveL B).length := (List.getElem?_eq_some_iff.mp hi).1
    exact I.cl i (by unfold aliveL at this; omega) _ hi _ hf _ ht
end Mine
end

section
namespace Mine
open PySem PyProof.Rows
section
variable {cx : Cx} {C rm dx ra K : Addr} {N : Nat} {B : Bx} {H H' H1 : HP} {n : Nat} {a r : Addr} {o o' : O} {Q : V → HP → Prop}
noncomputable def m_law_come_to : MSs :=
  (.cons (.assign 2 (.list (.cons (.cint (0)) .nil)))
  (.cons (.forR 3 (.cint (0)) (.callb .len (.cons (.loc 0) .nil)) (.cons (.ite (.cmp (.loc 3) .Lt (.callb .len (.cons (.loc 2) .nil))) (.cons (.for_ 4 (.dsub (.loc 1) (.sub (.loc 2) (.loc 3))) (.cons (.ite (.bop .And (.cons (.cmp (.sub (.loc 4) (.cint (0))) .Eq (.cstr (Str.ofString "box"))) (.cons (.cmp (.sub (.loc 4) (.cint (1))) .NotIn (.loc 2)) .nil))) (.cons (.assign 2 (.bin .Add (.loc 2) (.list (.cons (.sub (.loc 4) (.cint (1))) .nil))))
          .nil) .nil)
        .nil))
      .nil) .nil)
    .nil))
  (.cons (.ret (.comp (.loc 5) (.loc 0) (.cmp (.loc 5) .In (.loc 2))))
  .nil)))
theorem str_nb : (Str.ofString "number" == Str.ofString "box") = false := by decide
theorem str_bb : (Str.ofString "box" == Str.ofString "box") = true := by decide
theorem natsV_contains (l : List Nat) (j : Nat) : (l.map fun k : Nat => (k : Int)).contains (j : Int) = decide (j ∈ l) := by
  rw [Bool.eq_iff_iff, List.contains_iff_mem, decide_eq_true_iff, List.mem_map]
  exact ⟨fun ⟨y, hy, ey⟩ => by rw [← Int.ofNat_inj.mp ey]; exact hy, fun hy => ⟨j, hy, rfl⟩⟩
noncomputable abbrev LI1 (cx : Cx) (oa da : Addr) (H : HP) (l : List Nat) (μ : List V) (H' : HP) : Prop := ∃ fa z2 z3, μ = [.ref oa, .ref da, .ref fa, z2, z3] ∧ Ext cx H H' ∧ lk cx H' fa = some (.list (natsV l))
noncomputable abbrev LI2 (cx : Cx) (oa da : Addr) (H : HP) (k : Nat) (l : List Nat) (μ : List V) (H' : HP) : Prop := ∃ fa z3, μ = [.ref oa, .ref da, .ref fa, .int k, z3] ∧ Ext cx H H' ∧ lk cx H' fa = some (.list (natsV l))
theorem lcome_ms {oa da : Addr} {fl : List V} (ho : lk cx H oa = some (.list (natsV (List.range B.length)))) (hd : H da = some (.dct (enumV fl))) (hA : All2 (FldAt cx H) fl B) (w : WFB B) (hB : pl B B.length ≤ 1000)
    (hQ : ∀ r H' p, Ext cx H H' → Fresh cx H r → (∀ k, p k = true ↔ Reach B k) → H' r = some (.list (natsV (kl p B.length))) → Q (.ref r) H') :
    mwpSs cx n m_law_come_to [.ref oa, .ref da, .unb, .unb, .unb] H (NQ Q) (RQ Q) := by
  have hBl := len_le_pl B (Nat.le_refl B.length)
  refine S_cons ?_
  try (walk_at "st")
  refine ⟨by simp, fun r0 hr0 => ?_⟩
  refine S_cut (LI1 cx oa da H (aliveL B)) ?_ ?_
  · walk_at "st"
    simp only [lk_fresh hr0 ho, natsV_length, List.length_range]
    refine ⟨by first | lia | omega, by decide, by first | lia | omega, fun done => LI1 cx oa da H (aliveN B done.length), ⟨r0, _, _, rfl, Ext.new hr0 _, lk_same⟩, fun _ _ _ _ => trivial, ?_, ?_⟩
    · rintro done x rest μ H' hitems ⟨fa, z2, z3, rfl, hE, hfa⟩
      have hx : (intsV (rangeL 0 B.length))[done.length]? = some x := by rw [hitems]; simp
      obtain ⟨rfl, hlt⟩ := rangeL_get hx
      rw [Int.zero_add]
      have I := aliveN_I w done.length
      have hal := nodup_bound _ I.nd I.lt
      refine S_cons ?_
      try (walk_at "st")
      simp only [hfa, natsV_length]
      refine ⟨by first | lia | omega, ?_⟩
      try (walk_at "st")
      have hsuc := aliveN_succ B done.length
      unfold aliveTurn at hsuc
      refine ⟨fun q => S_cons ?_, fun q => S_nil (S_nil ⟨_, LE.refl _, fa, _, _, rfl, hE, ?_⟩)⟩
      · rw [decide_eq_true_iff] at q
        have hget : (aliveN B done.length)[done.length]? = some (aliveN B done.length)[done.length] := List.getElem?_eq_getElem (by omega)
        generalize (aliveN B done.length)[done.length] = k at hget
        rw [hget] at hsuc
        dsimp only at hsuc
        have hkl := I.lt k (List.mem_of_getElem? hget)
        have hf : B[k]? = some B[k] := List.getElem?_eq_getElem hkl
        rw [getD_of hf] at hsuc
        obtain ⟨x, hx', a, ts, rfl, hfd, hts⟩ := hA.get' hf
        have htl := hts.1
        have hfl := fld_le_pl hf
        try (walk_at "st")
        simp only [hfa, natsV_length, natsV_get?, Int.toNat_natCast, hget, Option.map_some]
        refine ⟨by first | lia | omega, by first | lia | omega, ?_⟩
        try (walk_at "st")
        simp only [hE.le _ _ hd, getK_enum, hx']
        try (walk_at "st")
        simp only [hE.lk hfd]
        refine ⟨by first | lia | omega, fun d2 => LI2 cx oa da H done.length ((B[k].take d2.length).foldl addT (aliveN B done.length)), ⟨fa, _, rfl, hE, hfa⟩, ?_, ?_, ?_⟩
        · rintro d2 μ H'' ⟨fa, z3, rfl, hE, hfa⟩; exact hE.lk hfd
        · rintro d2 y rest2 μ H'' hitems2 ⟨fa, z3, rfl, hE, hfa⟩
          have hy : ts[d2.length]? = some y := by rw [hitems2]; simp
          obtain ⟨t, ht, b, rfl, hbt⟩ := hts.get hy
          have hstep : (B[k].take (d2.length + 1)).foldl addT (aliveN B done.length) = addT ((B[k].take d2.length).foldl addT (aliveN B done.length)) t := by rw [List.take_succ, ht]; simp
          generalize hcur : (B[k].take d2.length).foldl addT (aliveN B done.length) = cur at hfa hstep
          have hcl : cur.length ≤ 1000 := by
            have hnd : cur.Nodup := hcur ▸ fold_nodup _ I.nd
            refine Nat.le_trans (nodup_bound B.length hnd fun m hm => ?_) (by first | lia | omega)
            rw [← hcur] at hm
            rcases fold_mem _ hm with hm | ⟨u, hu, e1, e2⟩
            · exact I.lt m hm
            · obtain ⟨j, ej, hj⟩ := w.tgt _ (List.mem_of_getElem? hf) u (List.mem_of_mem_take hu) e1
              rw [e2, ej]; simpa using hj
          refine S_cons ?_
          try (walk_at "st")
          simp only [hE.lk hbt, thV, List.length_cons, List.length_nil]
          refine ⟨by decide, by decide, ?_⟩
          obtain ⟨b', v⟩ := t
          cases b' with
          | false =>
            simp only [Int.toNat_zero, List.getElem?_cons_zero, Bool.false_eq_true, if_false, cm_eqs, str_nb]
            try (walk_at "st")
            refine S_nil (S_nil ⟨_, LE.refl _, fa, _, rfl, hE, ?_⟩)
            rw [List.length_append, List.length_singleton, hstep]
            simpa [addT] using hfa
          | true =>
            obtain ⟨j, ej, hj⟩ := w.tgt _ (List.mem_of_getElem? hf) _ (List.mem_of_getElem? ht) rfl
            dsimp only at ej
            subst ej
            simp only [Int.toNat_zero, List.getElem?_cons_zero, if_true, cm_eqs, str_bb]
            try (walk_at "st")
            refine ⟨by decide, by decide, ?_⟩
            have has : asInts (natsV cur) = some (cur.map fun k : Nat => (k : Int)) := asInts_ints _
            simp only [show (1 : Int).toNat = 1 from rfl, List.getElem?_cons_succ, List.getElem?_cons_zero]
            try (walk_at "st")
            simp only [hfa, Option.bind_some, has, Option.map_some, natsV_contains]
            by_cases hjc : j ∈ cur
            · rw [decide_eq_true hjc]
              refine ⟨fun q => (by cases q), fun _ => S_nil (S_nil ⟨_, LE.refl _, fa, _, rfl, hE, ?_⟩)⟩
              rw [List.length_append, List.length_singleton, hstep]
              simpa [addT, hjc] using hfa
            · rw [decide_eq_false hjc]
              refine ⟨fun _ => S_cons ?_, fun q => by cases q⟩
              try (walk_at "st")
              simp only [hE.lk hbt, thV, List.length_cons, List.length_nil]
              refine ⟨by decide, by decide, ?_⟩
              simp only [show (1 : Int).toNat = 1 from rfl, List.getElem?_cons_succ, List.getElem?_cons_zero]
              try (walk_at "st")
              refine ⟨by decide, fun r1 hr1 => ?_⟩
              simp only [lk_fresh hr1 hfa, lk_same, natsV_length, natsV_snoc, List.length_cons, List.length_nil]
              refine ⟨by first | lia | omega, fun r2 hr2 => S_nil (S_nil ⟨_, LE.refl _, r2, _, rfl, (hE.new' hr1 _).new' hr2 _, ?_⟩)⟩
              rw [lk_same, List.length_append, List.length_singleton, hstep]
              simp [addT, hjc]
        · rintro μ H'' ⟨fa, z3, rfl, hE, hfa⟩
          refine S_nil (S_nil ⟨_, LE.refl _, fa, _, _, rfl, hE, ?_⟩)
          rw [htl, List.take_length] at hfa
          rw [List.length_append, List.length_singleton, hsuc]
          exact hfa
      · rw [decide_eq_false_iff_not] at q
        have hget : (aliveN B done.length)[done.length]? = none := List.getElem?_eq_none (by omega)
        rw [hget] at hsuc
        dsimp only at hsuc
        rw [List.length_append, List.length_singleton, hsuc]
        exact hfa
    · rintro μ H' ⟨fa, z2, z3, rfl, hE, hfa⟩
      have : (intsV (rangeL 0 B.length)).length = B.length := by simp [intsV, rangeL]
      rw [this] at hfa
      exact ⟨fa, z2, z3, rfl, hE, hfa⟩
  rintro μ' H1 ⟨fa, z2, z3, rfl, hE, hfa⟩
  obtain ⟨_, _, hal⟩ := alive_ok w
  refine S_cons ?_
  walk_at "st"
  simp only [hE.lk ho, natsV_length, List.length_range]
  refine ⟨by first | lia | omega, by rw [natsV_length, List.length_range]; first | lia | omega, fun done acc H' => acc = natsV (kl (fun k => decide (k ∈ aliveL B)) done.length) ∧ H' = H1, ⟨rfl, rfl⟩, ?_, ?_, ?_⟩
  · rintro _ _ _ ⟨_, rfl⟩; exact hE.lk ho
  · rintro done x rest acc H' e ⟨rfl, rfl⟩
    obtain ⟨rfl, hk⟩ := nat_item e
    walk_at "st"
    have has : asInts (natsV (aliveL B)) = some ((aliveL B).map fun k : Nat => (k : Int)) := asInts_ints _
    simp only [hfa, Option.bind_some, has, Option.map_some, natsV_contains]
    rw [List.length_append, List.length_singleton]
    refine ⟨fun q => ⟨_, LE.refl _, ?_, rfl⟩, fun q => ⟨_, LE.refl _, ?_, rfl⟩⟩
    · rw [kl_succ, if_pos q]
      exact natsV_snoc _ _
    · rw [kl_succ, if_neg (by simpa using q), List.append_nil]
      exact List.append_nil _
  · rintro acc H' ⟨rfl, rfl⟩
    rw [natsV_length, List.length_range]
    intro r hr
    exact RQ.here (hQ r _ (fun k => decide (k ∈ aliveL B)) (hE.new' hr _) (hE.fresh hr) (fun k => by rw [decide_eq_true_iff]; exact hal k) (upd_same _ _ _))
noncomputable def LComeSpec (cx : Cx) (n : Nat) (f : Addr) : Prop := ∀ (oa da : Addr) (fl : List V) (B : Bx) (H : HP) (Q : V → HP → Prop), lk cx H oa = some (.list (natsV (List.range B.length))) → H da = some (.dct (enumV fl)) → All2 (FldAt cx H) fl B → WFB B → pl B B.length ≤ 1000 →
  (∀ r H' p, Ext cx H H' → Fresh cx H r → (∀ k, p k = true ↔ Reach B k) → H' r = some (.list (natsV (kl p B.length))) → Q (.ref r) H') → CallP cx n f [.ref oa, .ref da] H Q
end
end Mine
end

section
namespace Mine
open PySem PyProof.Rows
section
variable {cx : Cx} {C rm dx ra K : Addr} {N : Nat} {B : Bx} {H H' H1 : HP} {n : Nat} {a r : Addr} {o o' : O} {Q : V → HP → Prop}
noncomputable def m_law_cells_of (f_law_places_of : Addr) : MSs :=
  (.cons (.assign 3 (.callf f_law_places_of (.cons (.loc 0) (.cons (.loc 1) .nil))))
  (.cons (.assign 4 (.list .nil))
  (.cons (.for_ 5 (.loc 0) (.cons (.expr (.meth (.loc 4) .append (.cons (.bin .Mult (.cint (4)) (.callb .len (.cons (.dsub (.loc 1) (.loc 5)) .nil))) .nil)))
    (.cons (.for_ 6 (.dsub (.loc 1) (.loc 5)) (.cons (.ite (.cmp (.sub (.loc 6) (.cint (0))) .Eq (.cstr (Str.ofString "number"))) (.cons (.expr (.meth (.loc 4) .append (.cons (.bin .Mult (.cint (2)) (.sub (.loc 6) (.cint (1)))) .nil)))
        .nil) (.cons (.expr (.meth (.loc 4) .append (.cons (.bin .Add (.bin .Mult (.cint (2)) (.dsub (.loc 3) (.sub (.loc 6) (.cint (1))))) (.cint (1))) .nil)))
        .nil))
      .nil))
    .nil)))
  (.cons (.ret (.bin .Add (.loc 4) (.bin .Mult (.list (.cons (.cint (0)) .nil)) (.bin .Sub (.loc 2) (.callb .len (.cons (.loc 4) .nil))))))
  .nil))))
theorem ints_snoc (xs : List Int) (i : Int) : intsV xs ++ [.int i] = intsV (xs ++ [i]) := by simp [intsV]
theorem rowOf_take {g : Nat → Nat} {k : Nat} {f : List Th} (h : B[k]? = some f) : rowOf g (B.take (k + 1)) = rowOf g (B.take k) ++ cellsOf g f := by
  rw [List.take_succ, h, rowOf_append]; simp [rowOf]
theorem rowOf_take_len {g : Nat → Nat} {k : Nat} (h : k ≤ B.length) : (rowOf g (B.take k)).length = pl B k := by
  rw [rowOf_length, List.length_take, Nat.min_eq_left h]
  unfold pl
  rw [List.take_take, Nat.min_self]
theorem cellsof_ms {f_law_places_of oa da : Addr} {fl : List V} (hpo : PlacesOfSpec cx n f_law_places_of) (ho : lk cx H oa = some (.list (natsV (List.range B.length)))) (hd : H da = some (.dct (enumV fl))) (hA : All2 (FldAt cx H) fl B) (w : WFB B) (hle : pl B B.length ≤ N) (hN : N ≤ 400)
    (hQ : ∀ r H', Ext cx H H' → Fresh cx H r → H' r = some (.list (intsV (rowN N B))) → Q (.ref r) H') :
    mwpSs cx n (m_law_cells_of f_law_places_of) [.ref oa, .ref da, .int N, .unb, .unb, .unb, .unb] H (NQ Q) (RQ Q) := by
  have hBl := len_le_pl B (Nat.le_refl _)
  refine S_cons ?_
  walk_at "st"
  refine hpo _ _ _ B _ _ ho hd hA (by first | lia | omega) fun pr H1 x1 _ hpr => S_cons ?_
  walk_at "st"
  refine ⟨by simp, fun r hr => S_cons ?_⟩
  walk_at "st"
  have x0 := Ext.new hr (.list [])
  have ho1 := x1.lk ho
  simp only [x0.lk ho1, natsV_length, List.length_range]
  refine ⟨by first | lia | omega, fun done μ H' => ∃ z5 z6, μ = [.ref oa, .ref da, .int N, .ref pr, .ref r, z5, z6] ∧ Ext cx H1 H' ∧ H' r = some (.list (intsV (rowOf (pl B) (B.take done.length)))), ⟨_, _, rfl, x0, upd_same _ _ _⟩, ?_, ?_, ?_⟩
  · rintro _ _ _ ⟨_, _, _, x, _⟩; exact x.lk ho1
  · rintro done x rest μ H2 e ⟨z5, z6, rfl, x2, hr2⟩
    obtain ⟨rfl, hk⟩ := nat_item e
    dsimp only
    rw [List.length_append, List.length_singleton]
    generalize done.length = k at hk hr2
    have hBk : B[k]? = some B[k] := List.getElem?_eq_getElem hk
    obtain ⟨v, hv, a, vs, rfl, ha, hvs⟩ := hA.get' hBk
    have hvl := hvs.1
    have hfl := fld_le_pl hBk
    have hrl := rowOf_take_len (B := B) (g := pl B) (show k ≤ B.length by first | lia | omega)
    have hpk := pl_mono (B := B) (show k ≤ B.length by first | lia | omega)
    have hpk1 := pl_mono (B := B) (show k + 1 ≤ B.length by first | lia | omega)
    have hps := pl_succ hBk
    rw [rowOf_take hBk]
    generalize rowOf (pl B) (B.take k) = rw0 at hr2 hrl
    generalize hf : B[k] = f at *
    have had := (x1.trans x2).lk ha
    refine S_cons ?_
    walk_at "st"
    simp only [hr2, x2.le _ _ (x1.le _ _ hd), getK_enum, hv]
    walk_at "st"
    simp only [had, hvl]
    refine ⟨by first | lia | omega, mulOk_l (by decide), ?_⟩
    simp only [hr2, ints_length, ints_snoc]
    refine ⟨by first | lia | omega, S_cons ?_⟩
    have x3 := x2.upd hr.1 hr.2.2 (.list (intsV (rw0 ++ [4 * (f.length : Int)])))
    have hr3 : (upd H2 r (.list (intsV (rw0 ++ [4 * (f.length : Int)])))) r = some (.list (intsV (rw0 ++ [4 * (f.length : Int)]))) := upd_same _ _ _
    generalize upd H2 r (.list (intsV (rw0 ++ [4 * (f.length : Int)]))) = H3 at x3 hr3
    have ha3 := (x1.trans x3).lk ha
    walk_at "st"
    simp only [x3.le _ _ (x1.le _ _ hd), getK_enum, hv]
    walk_at "st"
    simp only [ha3, hvl]
    refine ⟨by first | lia | omega, fun d2 μ H' => ∃ z6, μ = [.ref oa, .ref da, .int N, .ref pr, .ref r, .int (k : Int), z6] ∧ Ext cx H1 H' ∧ H' r = some (.list (intsV (rw0 ++ (4 * (f.length : Int)) :: (f.take d2.length).map (word (pl B))))), ⟨_, rfl, x3, hr3⟩, ?_, ?_, ?_⟩
    · rintro _ _ _ ⟨_, _, x, _⟩; exact (x1.trans x).lk ha
    · rintro d2 y rest2 μ H4 e2 ⟨z6, rfl, x4, hr4⟩
      obtain ⟨t, ht, b, rfl, hb⟩ := hvs.get (i := d2.length) (x := y) (by rw [e2]; simp)
      have htl := (List.getElem?_eq_some_iff.mp ht).1
      have hb4 := (x1.trans x4).lk hb
      have hlr : (rw0 ++ (4 * (f.length : Int)) :: (f.take d2.length).map (word (pl B))).length ≤ 1000 := by
        simp only [List.length_append, List.length_cons, List.length_map, List.length_take]; first | lia | omega
      have fin : ∀ i : Int, i = word (pl B) t → ∃ H₃, LE H₃ (upd H4 r (.list (intsV ((rw0 ++ (4 * (f.length : Int)) :: (f.take d2.length).map (word (pl B))) ++ [i])))) ∧ ∃ z6', ([.ref oa, .ref da, .int N, .ref pr, .ref r, .int (k : Int), .ref b] : List V) = [.ref oa, .ref da, .int N, .ref pr, .ref r, .int (k : Int), z6'] ∧ Ext cx H1 H₃ ∧ H₃ r = some (.list (intsV (rw0 ++ (4 * (f.length : Int)) :: (f.take (d2 ++ [V.ref b]).length).map (word (pl B))))) := by
        intro i hi
        refine ⟨_, LE.refl _, _, rfl, x4.upd hr.1 hr.2.2 _, ?_⟩
        rw [upd_same, List.length_append, List.length_singleton, List.take_succ, ht, List.map_append, hi]
        simp
      refine S_cons ?_
      walk_at "st"
      simp only [hb4, thV_len, thV_0]
      walk_at "st"
      rw [ths_n]
      refine ⟨by decide, by decide, fun q => S_cons ?_, fun q => S_cons ?_⟩
      · walk_at "st"
        simp only [hr4, hb4, thV_len, thV_1]
        walk_at "st"
        simp only [hr4, ints_length, ints_snoc]
        refine ⟨by decide, by decide, mulOk_l (by decide), by first | lia | omega, S_nil (S_nil (fin _ ?_))⟩
        unfold word
        rw [if_neg (by simpa using q)]
      · have q' : t.1 = true := by simpa using q
        obtain ⟨j, e1, hj⟩ := w.tgt _ (List.mem_of_getElem? hBk) _ (List.mem_of_getElem? ht) q'
        walk_at "st"
        simp only [hr4, hb4, thV_len, thV_1, e1]
        refine ⟨trivial, by decide, by decide, ?_⟩
        walk_at "st"
        simp only [x4.le _ _ hpr, getK_enum, plV_get hj]
        walk_at "st"
        simp only [hr4, ints_length, ints_snoc]
        refine ⟨mulOk_l (by decide), by first | lia | omega, S_nil (S_nil (fin _ ?_))⟩
        unfold word
        rw [if_pos q', e1, Int.toNat_natCast]
    · rintro μ H4 ⟨z6, rfl, x4, hr4⟩
      rw [hvl, List.take_length] at hr4
      exact S_nil ⟨_, LE.refl _, _, _, rfl, x4, hr4⟩
  · rintro μ H2 ⟨z5, z6, rfl, x2, hr2⟩
    rw [natsV_length, List.length_range, List.take_length] at hr2
    have hrl : (rowOf (pl B) B).length = pl B B.length := rowOf_length _ _
    refine S_cons ?_
    walk_at "st"
    refine ⟨by simp, fun r1 hr1 => ?_⟩
    have hr2' := lk_fresh (o := .list [V.int 0]) hr1 (lk_of (cx := cx) hr2)
    simp only [hr2', ints_length, hrl]
    refine ⟨by first | lia | omega, ?_⟩
    walk_at "st"
    simp only [lk_same, List.length_singleton, rep_zero]
    refine ⟨by first | lia | omega, by first | lia | omega, by first | lia | omega, fun r3 hr3 => ?_⟩
    have hr3' := lk_fresh (o := .list (intsV (List.replicate ((N : Int) - (pl B B.length : Int)).toNat 0))) hr3 hr2'
    simp only [hr3', lk_same, ints_length, hrl, List.length_replicate, ints_append]
    refine ⟨by first | lia | omega, fun r4 hr4 => RQ.here (hQ r4 _ (x1.trans (((x2.new' hr1 _).new' hr3 _).new' hr4 _)) (x1.fresh (((x2.new' hr1 _).new' hr3 _).fresh hr4)) ?_)⟩
    rw [upd_same, rowN, show ((N : Int) - (pl B B.length : Int)).toNat = N - pl B B.length from by first | lia | omega]
noncomputable def CellsOfSpec (cx : Cx) (n : Nat) (f : Addr) : Prop := ∀ (oa da : Addr) (fl : List V) (B : Bx) (N : Nat) (H : HP) (Q : V → HP → Prop), lk cx H oa = some (.list (natsV (List.range B.length))) → H da = some (.dct (enumV fl)) → All2 (FldAt cx H) fl B → WFB B → pl B B.length ≤ N → N ≤ 400 →
  (∀ r H', Ext cx H H' → Fresh cx H r → H' r = some (.list (intsV (rowN N B))) → Q (.ref r) H') → CallP cx n f [.ref oa, .ref da, .int N] H Q
end
end Mine
end

section
namespace Mine
open PySem PyProof.Rows
theorem All2.cons_inv {α β : Type} {R : α → β → Prop} {x : α} {y : β} {xs : List α} {ys : List β} (h : All2 R (x :: xs) (y :: ys)) : R x y ∧ All2 R xs ys :=
  ⟨h.2 0 x y rfl rfl, by have := h.1; simpa using this, fun i u v hu hv => h.2 (i + 1) u v (by simpa using hu) (by simpa using hv)⟩
theorem mapM_all2 {α β γ : Type} {R : α → β → Prop} (g : α → Option γ) (k : β → γ) (e : ∀ v t, R v t → g v = some (k t)) : ∀ {vs : List α} {ts : List β}, All2 R vs ts → vs.mapM g = some (ts.map k)
  | [], [], _ => rfl
  | [], _ :: _, h => by have := h.1; cases this
  | _ :: _, [], h => by have := h.1; cases this
  | v :: vs, t :: ts, h => by
    obtain ⟨h1, h2⟩ := h.cons_inv
    rw [List.mapM_cons, e v t h1, mapM_all2 g k e h2]; rfl
theorem ths_ok (t : Th) : rdS (ths t) = some (.str (ths t)) := by
  obtain ⟨b, v⟩ := t
  cases b
  · exact if_pos (show PyData.strOk (Str.ofString "number") = true by decide +kernel)
  · exact if_pos (show PyData.strOk (Str.ofString "box") = true by decide +kernel)
noncomputable def thD (t : Th) : PyData := .tuple [.str (ths t), .int t.2]
theorem eqv_thD (t : Th) : PyData.eqv (thD t) (thD t) = true := by
  unfold thD
  rw [PyData.eqv, PyData.eqvAll, PyData.eqvAll, PyData.eqvAll]
  simp [PyData.eqv]
theorem eqv_ths : ∀ ts : List Th, PyData.eqvAll (ts.map thD) (ts.map thD) = true
  | [] => rfl
  | t :: ts => by rw [List.map_cons, PyData.eqvAll, eqv_thD, eqv_ths ts]; rfl
section
variable {cx : Cx} {C rm dx ra K : Addr} {N : Nat} {B : Bx} {H H' H1 : HP} {n : Nat} {a b r : Addr} {o o' : O} {Q : V → HP → Prop}
theorem rdV_list {m : Nat} {vs : List V} (h : lk cx H a = some (.list vs)) : rdV cx H (m + 1) (.ref a) = (vs.mapM (rdV cx H m)).map .list := by
  show (match lk cx H a with | some (.list vs) => (vs.mapM (rdV cx H m)).map PyData.list | some (.tup vs) => (vs.mapM (rdV cx H m)).map PyData.tuple | _ => none) = _
  rw [h]
theorem rdV_tup {m : Nat} {vs : List V} (h : lk cx H a = some (.tup vs)) : rdV cx H (m + 1) (.ref a) = (vs.mapM (rdV cx H m)).map .tuple := by
  show (match lk cx H a with | some (.list vs) => (vs.mapM (rdV cx H m)).map PyData.list | some (.tup vs) => (vs.mapM (rdV cx H m)).map PyData.tuple | _ => none) = _
  rw [h]
theorem rd_th {v : V} {t : Th} (h : ThAt cx H v t) : rdV cx H 1 v = some (thD t) := by
  obtain ⟨b, rfl, hb⟩ := h
  rw [rdV_tup hb]
  show Option.map PyData.tuple (List.mapM (rdV cx H 0) [.str (ths t), .int t.2]) = _
  rw [List.mapM_cons, List.mapM_cons, List.mapM_nil, show rdV cx H 0 (.str (ths t)) = some (.str (ths t)) from ths_ok t]; rfl
theorem cmp_ths {vs ws : List V} {ts : List Th} (h1 : lk cx H a = some (.list vs)) (h2 : lk cx H b = some (.list ws)) (a1 : All2 (ThAt cx H) vs ts) (a2 : All2 (ThAt cx H) ws ts) : cmpP cx .NotEq (.ref a) (.ref b) H = some false ∧ cmpP cx .Eq (.ref a) (.ref b) H = some true := by
  have g1 : rdV cx H 2 (.ref a) = some (.list (ts.map thD)) := by rw [rdV_list h1, mapM_all2 _ thD (fun _ _ h => rd_th h) a1]; rfl
  have g2 : rdV cx H 2 (.ref b) = some (.list (ts.map thD)) := by rw [rdV_list h2, mapM_all2 _ thD (fun _ _ h => rd_th h) a2]; rfl
  constructor
  · simp only [cmpP, g1, g2, Option.bind_some, eqNe]
    rw [PyData.eqv, eqv_ths]; rfl
  · simp only [cmpP, g1, g2, Option.bind_some, eqNe]
    rw [PyData.eqv, eqv_ths]
noncomputable def Items (cx : Cx) (H : HP) (vs : List V) : Prop := ∀ v ∈ vs, (∃ i, v = .int i) ∨ ∃ t, ThAt cx H v t
theorem items_rd {vs : List V} (h : Items cx H vs) : ∃ ds, vs.mapM (rdV cx H 1) = some ds ∧ PyData.eqvAll ds ds = true := by
  induction vs with
  | nil => exact ⟨[], rfl, rfl⟩
  | cons v vs ih =>
    obtain ⟨ds, e1, e2⟩ := ih fun u hu => h u (List.mem_cons_of_mem _ hu)
    rcases h v List.mem_cons_self with ⟨i, rfl⟩ | ⟨t, ht⟩
    · exact ⟨.int i :: ds, by rw [List.mapM_cons, e1]; rfl, by rw [PyData.eqvAll, e2]; simp [PyData.eqv]⟩
    · exact ⟨thD t :: ds, by rw [List.mapM_cons, rd_th ht, e1]; rfl, by rw [PyData.eqvAll, eqv_thD, e2]; rfl⟩
theorem cmp_items {vs : List V} (h1 : lk cx H a = some (.list vs)) (h2 : lk cx H b = some (.list vs)) (h : Items cx H vs) : cmpP cx .NotEq (.ref a) (.ref b) H = some false := by
  obtain ⟨ds, e1, e2⟩ := items_rd h
  simp only [cmpP, rdV_list h1, rdV_list h2, e1, Option.map_some, Option.bind_some, eqNe]
  rw [PyData.eqv, e2]; rfl
theorem Items.ext {vs : List V} (x : ∀ v t, ThAt cx H v t → ThAt cx H' v t) (h : Items cx H vs) : Items cx H' vs := fun v hv => (h v hv).imp id fun ⟨t, ht⟩ => ⟨t, x v t ht⟩
theorem items_of {vs : List V} {ts : List Th} (h : All2 (ThAt cx H) vs ts) : Items cx H vs := fun v hv => by
  obtain ⟨i, hi⟩ := List.getElem?_of_mem hv
  obtain ⟨t, _, ht⟩ := h.get hi
  exact .inr ⟨t, ht⟩
noncomputable def PairM (cx : Cx) (M : Addr → Prop) (H : HP) (v : V) : Prop := ∃ b a1 a2 vs, v = .ref b ∧ lk cx H b = some (.tup [.ref a1, .ref a2]) ∧ lk cx H a1 = some (.list vs) ∧ lk cx H a2 = some (.list vs) ∧ ¬ M a1 ∧ ¬ M a2 ∧ Items cx H vs
noncomputable def FldM (cx : Cx) (M : Addr → Prop) (H : HP) (v : V) (f : List Th) : Prop := ∃ a vs, v = .ref a ∧ lk cx H a = some (.list vs) ∧ All2 (ThAt cx H) vs f ∧ ¬ M a
theorem FldM.at {M : Addr → Prop} {v : V} {f : List Th} : FldM cx M H v f → FldAt cx H v f := fun ⟨a, vs, h1, h2, h3, _⟩ => ⟨a, vs, h1, h2, h3⟩
structure Go (cx : Cx) (M : Addr → Prop) (H H' : HP) : Prop where
  le : ∀ a o, ¬ M a → H a = some o → H' a = some o
  z : KZ cx H H'
  m : ∀ a vs, M a → H a ≠ some (.tup vs)
  mz : ∀ a l, cx.Z a = some l → ¬ M a
theorem Go.lk {M : Addr → Prop} (x : Go cx M H H') (hm : ¬ M a) (h : lk cx H a = some o) : Mine.lk cx H' a = some o := by
  unfold Mine.lk at h ⊢
  cases e : H a with
  | some o' => rw [e] at h; rw [x.le a o' hm e]; exact h
  | none =>
    rw [e] at h
    cases e2 : cx.Z a with
    | none => rw [e2] at h; cases h
    | some l => rw [e2] at h; rw [x.z a l e2 e]; exact h
theorem Go.th {M : Addr → Prop} (x : Go cx M H H') {v : V} {t : Th} : ThAt cx H v t → ThAt cx H' v t := fun ⟨b, h1, h2⟩ => ⟨b, h1, x.lk (fun q => x.m b _ q (lk_tup h2)) h2⟩
theorem Go.pair {M M' : Addr → Prop} (x : Go cx M H H') (hM : ∀ a o, H a = some o → M' a → M a) {v : V} (h : PairM cx M H v) (hz : ∀ a l, cx.Z a = some l → ¬ M' a) : PairM cx M' H' v := by
  obtain ⟨b, a1, a2, vs, h1, h2, h3, h4, h5, h6, h7⟩ := h
  have nm : ∀ a vs, Mine.lk cx H a = some (.list vs) → ¬ M a → ¬ M' a := fun a vs q n q2 => by
    unfold Mine.lk at q
    cases e : H a with
    | some o => exact n (hM a o e q2)
    | none =>
      rw [e] at q
      cases e2 : cx.Z a with
      | none => rw [e2] at q; cases q
      | some l => exact hz a l e2 q2
  exact ⟨b, a1, a2, vs, h1, x.lk (fun q => x.m b _ q (lk_tup h2)) h2, x.lk h5 h3, x.lk h6 h4, nm a1 vs h3 h5, nm a2 vs h4 h6, h7.ext fun _ _ => x.th⟩
theorem Go.fld {M M' : Addr → Prop} (x : Go cx M H H') (hM : ∀ a o, H a = some o → M' a → M a) {v : V} {f : List Th} (h : FldM cx M H v f) (hz : ∀ a l, cx.Z a = some l → ¬ M' a) : FldM cx M' H' v f := by
  obtain ⟨a, vs, h1, h2, h3, h4⟩ := h
  refine ⟨a, vs, h1, x.lk h4 h2, h3.imp fun _ _ => x.th, fun q2 => ?_⟩
  unfold Mine.lk at h2
  cases e : H a with
  | some o => exact h4 (hM a o e q2)
  | none =>
    rw [e] at h2
    cases e2 : cx.Z a with
    | none => rw [e2] at h2; cases h2
    | some l => exact hz a l e2 q2
end
end Mine
end

section
namespace Mine
open PySem PyProof.Rows
noncomputable def MM (oa fa pa ra dx da a : Addr) : Prop := a = oa ∨ a = fa ∨ a = pa ∨ a = ra ∨ a = dx ∨ a = da
structure StAt (cx : Cx) (C : Addr) (N : Nat) (rm st oa da fa pa dx ra : Addr) (B : Bx) (fl ps : List V) (H : HP) : Prop where
  R : RoomAt C N rm dx ra B H
  t : H st = some (.tup [.ref oa, .ref da, .int N, .ref fa, .ref pa])
  o : H oa = some (.list (natsV (List.range B.length)))
  d : H da = some (.dct (enumV fl))
  f : H fa = some (.list [.int B.length])
  p : H pa = some (.list ps)
  A : All2 (FldM cx (MM oa fa pa ra dx da) H) fl B
  P : ∀ v ∈ ps, PairM cx (MM oa fa pa ra dx da) H v
  n1 : oa ≠ fa
  n2 : oa ≠ pa
  n3 : oa ≠ ra
  n4 : fa ≠ pa
  n5 : fa ≠ ra
  n6 : pa ≠ ra
  z : ∀ a l, cx.Z a = some l → ¬ MM oa fa pa ra dx da a
section
variable {cx : Cx} {C rm st oa da fa pa dx ra K : Addr} {N : Nat} {B : Bx} {fl ps : List V} {H H' H1 : HP} {n : Nat} {a b r : Addr} {o o' : O} {Q : V → HP → Prop}
noncomputable def m_law_told (f_law_places_of f_law_handed c_Room f_Room_told f_law_is_int : Addr) : MSs :=
  (.cons (.assign 2 (.callf f_law_places_of (.cons (.sub (.loc 1) (.cint (0))) (.cons (.sub (.loc 1) (.cint (1))) .nil))))
  (.cons (.for_ 3 (.sub (.loc 1) (.cint (0))) (.cons (.assign 4 (.comp (.callf f_law_handed (.cons (.loc 7) (.cons (.loc 2) .nil))) (.dsub (.sub (.loc 1) (.cint (1))) (.loc 3)) (.cbool true)))
    (.cons (.assign 5 (.callm c_Room (Str.ofString "told") f_Room_told 0 (.cons (.dsub (.loc 2) (.loc 3)) .nil)))
    (.cons (.ite (.bop .Or (.cons (.not (.isi (.loc 5) "list")) (.cons (.cmp (.loc 5) .NotEq (.loc 4)) .nil))) (.cons (.ret (.cbool false))
      .nil) .nil)
    (.cons (.for_ 6 (.loc 5) (.cons (.ite (.bop .Or (.cons (.not (.isi (.loc 6) "tuple")) (.cons (.not (.callf f_law_is_int (.cons (.sub (.loc 6) (.cint (1))) .nil))) .nil))) (.cons (.ret (.cbool false))
        .nil) .nil)
      .nil))
    (.cons (.expr (.meth (.loc 5) .append (.cons (.cint (3)) .nil)))
    (.cons (.ite (.cmp (.callm c_Room (Str.ofString "told") f_Room_told 0 (.cons (.dsub (.loc 2) (.loc 3)) .nil)) .NotEq (.loc 4)) (.cons (.ret (.cbool false))
      .nil) .nil)
    .nil)))))))
  (.cons (.expr (.meth (.sub (.loc 1) (.cint (4))) .append (.cons (.tup (.cons (.loc 5) (.cons (.callb .list (.cons (.loc 5) .nil)) .nil))) .nil)))
  (.cons (.ret (.cbool true))
  .nil))))
theorem PairM.ext {M : Addr → Prop} (x : Ext cx H H') {v : V} : PairM cx M H v → PairM cx M H' v := fun ⟨b, a1, a2, vs, h1, h2, h3, h4, h5, h6, h7⟩ => ⟨b, a1, a2, vs, h1, x.lk h2, x.lk h3, x.lk h4, h5, h6, h7.ext fun _ _ => ThAt.ext x⟩
theorem FldM.ext {M : Addr → Prop} (x : Ext cx H H') {v : V} {f : List Th} : FldM cx M H v f → FldM cx M H' v f := fun ⟨a, vs, h1, h2, h3, h4⟩ => ⟨a, vs, h1, x.lk h2, h3.imp fun _ _ => ThAt.ext x, h4⟩
theorem StAt.ext (S : StAt cx C N rm st oa da fa pa dx ra B fl ps H) (x : Ext cx H H') : StAt cx C N rm st oa da fa pa dx ra B fl ps H' :=
  ⟨S.R.ext x.le, x.le _ _ S.t, x.le _ _ S.o, x.le _ _ S.d, x.le _ _ S.f, x.le _ _ S.p, S.A.imp fun _ _ => FldM.ext x, fun v hv => (S.P v hv).ext x, S.n1, S.n2, S.n3, S.n4, S.n5, S.n6, S.z⟩
theorem StAt.fa_ (S : StAt cx C N rm st oa da fa pa dx ra B fl ps H) : All2 (FldAt cx H) fl B := S.A.imp fun _ _ => FldM.at
theorem StAt.le (S : StAt cx C N rm st oa da fa pa dx ra B fl ps H) : pl B B.length ≤ 1000 := by have := S.R.le; have := S.R.n4; first | lia | omega
theorem StAt.fresh (S : StAt cx C N rm st oa da fa pa dx ra B fl ps H) (hr : Fresh cx H r) : ¬ MM oa fa pa ra dx da r := by
  have h := hr.1
  rintro (q | q | q | q | q | q) <;> rw [q] at h
  · rw [S.o] at h; cases h
  · rw [S.f] at h; cases h
  · rw [S.p] at h; cases h
  · rw [S.R.r] at h; cases h
  · rw [S.R.d] at h; cases h
  · rw [S.d] at h; cases h
theorem StAt.tup (S : StAt cx C N rm st oa da fa pa dx ra B fl ps H) : ∀ a vs, MM oa fa pa ra dx da a → H a ≠ some (.tup vs) := by
  rintro a vs (q | q | q | q | q | q) h <;> rw [q] at h
  · rw [S.o] at h; cases h
  · rw [S.f] at h; cases h
  · rw [S.p] at h; cases h
  · rw [S.R.r] at h; cases h
  · rw [S.R.d] at h; cases h
  · rw [S.d] at h; cases h
theorem StAt.nst (S : StAt cx C N rm st oa da fa pa dx ra B fl ps H) : ¬ MM oa fa pa ra dx da st := fun q => S.tup st _ q S.t
theorem StAt.nrm (S : StAt cx C N rm st oa da fa pa dx ra B fl ps H) : ¬ MM oa fa pa ra dx da rm := by
  have h := S.R.i
  rintro (q | q | q | q | q | q) <;> rw [q] at h
  · rw [S.o] at h; cases h
  · rw [S.f] at h; cases h
  · rw [S.p] at h; cases h
  · rw [S.R.r] at h; cases h
  · rw [S.R.d] at h; cases h
  · rw [S.d] at h; cases h
theorem StAt.push (S : StAt cx C N rm st oa da fa pa dx ra B fl ps H) {v : V} (hv : PairM cx (MM oa fa pa ra dx da) H v) : StAt cx C N rm st oa da fa pa dx ra B fl (ps ++ [v]) (upd H pa (.list (ps ++ [v]))) := by
  have hdp : dx ≠ pa := fun q => by have := S.R.d; rw [q, S.p] at this; cases this
  have hda : da ≠ pa := fun q => by have := S.d; rw [q, S.p] at this; cases this
  have hrm : rm ≠ pa := fun q => S.nrm (.inr (.inr (.inl q)))
  have hst : st ≠ pa := fun q => S.nst (.inr (.inr (.inl q)))
  have G : Go cx (MM oa fa pa ra dx da) H (upd H pa (.list (ps ++ [v]))) := ⟨fun a o ha e => by rw [upd_ne _ (fun q => ha (.inr (.inr (.inl q))))]; exact e, (KZ.refl cx H).upd S.p, S.tup, S.z⟩
  refine ⟨⟨by rw [upd_ne _ hrm]; exact S.R.i, by rw [upd_ne _ hdp]; exact S.R.d, by rw [upd_ne _ (Ne.symm S.n6)]; exact S.R.r, S.R.n4, S.R.le, S.R.w⟩, by rw [upd_ne _ hst]; exact S.t, by rw [upd_ne _ S.n2]; exact S.o, by rw [upd_ne _ hda]; exact S.d, by rw [upd_ne _ S.n4]; exact S.f, upd_same _ _ _,
    S.A.imp fun _ _ q => G.fld (fun _ _ _ q => q) q S.z, fun u hu => ?_, S.n1, S.n2, S.n3, S.n4, S.n5, S.n6, S.z⟩
  rcases List.mem_append.mp hu with q | q
  · exact G.pair (fun _ _ _ q => q) (S.P u q) S.z
  · rw [List.mem_singleton] at q; rw [q]; exact G.pair (fun _ _ _ q => q) hv S.z
theorem st_0 (x y z u w : V) : ([x, y, z, u, w] : List V)[Int.toNat 0]? = some x := rfl
theorem st_1 (x y z u w : V) : ([x, y, z, u, w] : List V)[Int.toNat 1]? = some y := rfl
theorem st_2 (x y z u w : V) : ([x, y, z, u, w] : List V)[Int.toNat 2]? = some z := rfl
theorem st_3 (x y z u w : V) : ([x, y, z, u, w] : List V)[Int.toNat 3]? = some u := rfl
theorem st_4 (x y z u w : V) : ([x, y, z, u, w] : List V)[Int.toNat 4]? = some w := rfl
theorem st_len (x y z u w : V) : ([x, y, z, u, w] : List V).length = 5 := rfl

theorem ltold_ms {f_law_places_of f_law_handed f_Room_told f_law_is_int : Addr} (hpo : PlacesOfSpec cx n f_law_places_of) (hha : HandedSpec cx n f_law_handed) (htd : ToldSpec cx C n f_Room_told) (hint : ∀ v H Q, Q (.bool true) H → CallP cx n f_law_is_int [.int v] H Q)
    (S : StAt cx C N rm st oa da fa pa dx ra B fl ps H) (hps : ps.length ≤ 1000)
    (hQ : ∀ v H', StAt cx C N rm st oa da fa pa dx ra B fl (ps ++ [v]) H' → But pa H H' → KZ cx H H' → Q (.bool true) H') :
    mwpSs cx n (m_law_told f_law_places_of f_law_handed C f_Room_told f_law_is_int) [.ref rm, .ref st, .unb, .unb, .unb, .unb, .unb] H (NQ Q) (RQ Q) := by
  have hle := S.le
  have hBl := len_le_pl B (Nat.le_refl _)
  have hpos := S.R.w.pos
  refine S_cons ?_
  walk_at "st"
  simp only [lk_of S.t, st_len, st_0, st_1]
  refine ⟨by decide, by decide, by decide, by decide, hpo _ _ _ B _ _ (lk_of S.o) S.d S.fa_ hle fun pr H1 x1 hprf hpr => S_cons ?_⟩
  have S1 := S.ext x1
  walk_at "st"
  simp only [lk_of S1.t, st_len, st_0]
  refine ⟨by decide, by decide, ?_⟩
  walk_at "st"
  simp only [lk_of S1.o, natsV_length, List.length_range]
  refine ⟨by first | lia | omega, fun done μ H' => ∃ z3 z4 z5 z6, μ = [.ref rm, .ref st, .ref pr, z3, z4, z5, z6] ∧ Ext cx H1 H' ∧ (done ≠ [] → ∃ fr vs, z5 = .ref fr ∧ Fresh cx H1 fr ∧ H' fr = some (.list vs) ∧ Items cx H' vs ∧ vs.length ≤ 1000), ⟨_, _, _, _, rfl, Ext.refl _ _, fun q => absurd rfl q⟩, ?_, ?_, ?_⟩
  · rintro _ _ _ ⟨_, _, _, _, _, x, _⟩; exact x.lk (lk_of S1.o)
  · rintro done x rest μ H2 e ⟨z3, z4, z5, z6, rfl, x2, _⟩
    obtain ⟨rfl, hk⟩ := nat_item e
    have hne : done ++ [V.int (done.length : Int)] ≠ [] := by simp
    generalize done ++ [V.int (done.length : Int)] = dn at hne
    generalize done.length = k at hk
    have hBk : B[k]? = some B[k] := List.getElem?_eq_getElem hk
    have hfl := fld_le_pl hBk
    have hokB : ∀ t ∈ B[k], OkT B t := fun t ht => S.R.w.tgt _ (List.mem_of_getElem? hBk) t ht
    generalize B[k] = f at hBk hfl hokB
    have S2 := S1.ext x2
    have hpr2 := x2.le _ _ hpr
    obtain ⟨v, hv, a, vs, rfl, ha, hvs⟩ := S2.fa_.get' hBk
    have hvl := hvs.1
    refine S_cons ?_
    walk_at "st"
    simp only [lk_of S2.t, st_len, st_1]
    refine ⟨by decide, by decide, ?_⟩
    walk_at "st"
    simp only [S2.d, getK_enum, hv]
    walk_at "st"
    simp only [ha, hvl]
    refine ⟨by first | lia | omega, by first | lia | omega, fun d2 acc H' => All2 (ThAt cx H') acc ((f.take d2.length).map (plt B)) ∧ Ext cx H2 H', ⟨All2.nil, Ext.refl _ _⟩, fun _ _ _ q => q.2.lk ha, ?_, ?_⟩
    · rintro d2 y rest2 acc H3 e2 ⟨hac, x3⟩
      obtain ⟨t, ht, b, rfl, hb⟩ := hvs.get (i := d2.length) (x := y) (by rw [e2]; simp)
      walk_at "st"
      refine hha _ _ B t _ _ (x3.lk hb) (x3.le _ _ hpr2) (hokB t (List.mem_of_getElem? ht)) fun u H4 x4 hu => ⟨_, LE.refl _, ?_, x3.trans x4⟩
      rw [List.length_append, List.length_singleton, List.take_succ, ht, List.map_append]
      exact (hac.imp fun _ _ q => q.ext x4).snoc hu
    rintro due H3 ⟨hdue, x3⟩ dr hdr
    rw [hvl, List.take_length] at hdue
    refine S_cons ?_
    have x4 := x3.new' hdr (.list due)
    have e4 : (upd H3 dr (.list due)) dr = some (.list due) := upd_same _ _ _
    have hdue4 : All2 (ThAt cx (upd H3 dr (.list due))) due (f.map (plt B)) := hdue.imp fun _ _ q => q.ext (Ext.new hdr _)
    generalize upd H3 dr (.list due) = H4 at x4 e4 hdue4
    have S4 := S2.ext x4
    walk_at "st"
    refine ⟨S4.R.no fun _ _ => rfl, ?_⟩
    simp only [x4.le _ _ hpr2, getK_enum, plV_get hk]
    refine htd _ _ _ _ _ _ _ _ _ S4.R hBk fun fr ws H5 x5 hfr hw hws => S_cons ?_
    have S5 := S4.ext x5
    have hwl := hws.1
    have e5 := x5.le _ _ e4
    walk_at "st"
    simp only [hw, (cmp_ths (lk_of hw) (lk_of e5) hws (hdue4.imp fun _ _ q => q.ext x5)).1]
    walk_at "st"
    refine S_nil (S_cons ?_)
    walk_at "st"
    rw [List.length_map] at hwl
    simp only [lk_of hw, hwl]
    refine ⟨by first | lia | omega, fun _ μ H' => (∃ z6, μ = [.ref rm, .ref st, .ref pr, .int (k : Int), .ref dr, .ref fr, z6]) ∧ H' = H5, ⟨⟨_, rfl⟩, rfl⟩, ?_, ?_, ?_⟩
    · rintro _ _ _ ⟨_, rfl⟩; exact lk_of hw
    · rintro d3 y rest3 μ H6 e3 ⟨⟨z6, rfl⟩, rfl⟩
      obtain ⟨t, _, b, rfl, hb⟩ := hws.get (i := d3.length) (x := y) (by rw [e3]; simp)
      refine S_cons ?_
      walk_at "st"
      simp only [lk_tup hb, hb, thV_len, thV_1]
      walk_at "st"
      refine ⟨by decide, by decide, hint _ _ _ ?_⟩
      walk_at "st"
      exact S_nil (S_nil ⟨_, LE.refl _, ⟨_, rfl⟩, rfl⟩)
    · rintro μ H6 ⟨⟨z6, rfl⟩, rfl⟩
      refine S_cons ?_
      walk_at "st"
      simp only [hw]
      refine ⟨trivial, by first | lia | omega, S_cons ?_⟩
      have hfr1 : Fresh cx H1 fr := (x2.trans x4).fresh hfr
      have x6 : Ext cx H1 (upd H6 fr (.list (ws ++ [.int 3]))) := (x2.trans (x4.trans x5)).upd hfr1.1 hfr1.2.2 _
      have e6 : (upd H6 fr (.list (ws ++ [.int 3]))) fr = some (.list (ws ++ [.int 3])) := upd_same _ _ _
      have hws6 : All2 (ThAt cx (upd H6 fr (.list (ws ++ [.int 3])))) ws (f.map (plt B)) := hws.imp fun _ _ q => ThAt.set hw q
      have hdr6 : (upd H6 fr (.list (ws ++ [.int 3]))) dr = some (.list due) := by rw [upd_ne _ (hfr.ne' e4)]; exact e5
      have hdue6 : All2 (ThAt cx (upd H6 fr (.list (ws ++ [.int 3])))) due (f.map (plt B)) := hdue4.imp fun _ _ q => ThAt.set hw (q.ext x5)
      generalize upd H6 fr (.list (ws ++ [.int 3])) = H7 at x6 e6 hws6 hdr6 hdue6
      have S7 := S1.ext x6
      walk_at "st"
      refine ⟨S7.R.no fun _ _ => rfl, ?_⟩
      simp only [x6.le _ _ hpr, getK_enum, plV_get hk]
      refine htd _ _ _ _ _ _ _ _ _ S7.R hBk fun fr2 ws2 H8 x8 hfr2 hw2 hws2 => ?_
      simp only [(cmp_ths (lk_of hw2) (lk_of (x8.le _ _ hdr6)) hws2 (hdue6.imp fun _ _ q => q.ext x8)).1]
      walk_at "st"
      refine S_nil (S_nil ⟨_, LE.refl _, _, _, _, _, rfl, x6.trans x8, fun _ => ⟨fr, _, rfl, hfr1, x8.le _ _ e6, ?_, by simp; first | lia | omega⟩⟩)
      intro u hu
      rcases List.mem_append.mp hu with q | q
      · exact items_of (hws6.imp fun _ _ q => q.ext x8) u q
      · rw [List.mem_singleton] at q; exact .inl ⟨3, q⟩
  rintro μ H2 ⟨z3, z4, z5, z6, rfl, x2, hfd⟩
  obtain ⟨fr, vs, rfl, hfr, hv, hit, hvl⟩ := hfd (by intro q; have := congrArg List.length q; rw [natsV_length, List.length_range, List.length_nil] at this; omega)
  have S2 := S1.ext x2
  refine S_cons ?_
  walk_at "st"
  simp only [lk_of S2.t, st_len, st_4]
  refine ⟨by decide, by decide, ?_⟩
  walk_at "st"
  simp only [S2.p, lk_of hv]
  refine ⟨trivial, by first | lia | omega, fun r1 hr1 => ⟨by simp, fun tb htb => ?_⟩⟩
  have x3 := (Ext.new hr1 (.list vs)).new' htb (.tup [.ref fr, .ref r1])
  have e1 := (Ext.new htb (.tup [.ref fr, .ref r1])).lk (lk_same (cx := cx) (H := H2) (r := r1) (o := .list vs))
  have et : lk cx (upd (upd H2 r1 (.list vs)) tb (.tup [.ref fr, .ref r1])) tb = some (.tup [.ref fr, .ref r1]) := lk_same
  generalize upd (upd H2 r1 (.list vs)) tb (.tup [.ref fr, .ref r1]) = H3 at x3 e1 et
  have S3 := S2.ext x3
  simp only [S3.p]
  refine ⟨by first | lia | omega, S_cons ?_⟩
  have hP : PairM cx (MM oa fa pa ra dx da) H3 (.ref tb) := ⟨tb, fr, r1, vs, rfl, et, x3.lk (lk_of hv), e1, S1.fresh hfr, S2.fresh hr1, hit.ext fun _ _ => ThAt.ext x3⟩
  walk_at "st"
  refine RQ.here (hQ _ _ (S3.push hP) (fun a o ha e => by rw [upd_ne _ ha]; exact (x1.trans (x2.trans x3)).le _ _ e) (KZ.upd (x1.trans (x2.trans x3)).z S3.p))
noncomputable def LToldSpec (cx : Cx) (C : Addr) (n : Nat) (g : Addr) : Prop := ∀ (N : Nat) (rm st oa da fa pa dx ra : Addr) (B : Bx) (fl ps : List V) (H : HP) (Q : V → HP → Prop), StAt cx C N rm st oa da fa pa dx ra B fl ps H → ps.length ≤ 1000 →
  (∀ v H', StAt cx C N rm st oa da fa pa dx ra B fl (ps ++ [v]) H' → But pa H H' → KZ cx H H' → Q (.bool true) H') → CallP cx n g [.ref rm, .ref st] H Q
end
end Mine
end

section
namespace Mine
open PySem PyProof.Rows
noncomputable def lensN (B : Bx) : List Nat := B.map fun f => 1 + f.length
theorem lensN_sum (B : Bx) : (lensN B).sum = pl B B.length := by rw [pl, List.take_length, lensN]
section
variable {cx : Cx} {C rm st oa da fa pa dx ra K : Addr} {N : Nat} {B : Bx} {fl ps : List V} {H H' H1 : HP} {n : Nat} {a b c r : Addr} {o o' : O} {Q : V → HP → Prop}
theorem StAt.poke (S : StAt cx C N rm st oa da fa pa dx ra B fl ps H) {vs ws : List V} (hc : H c = some (.list vs)) (hn : ¬ MM oa fa pa ra dx da c) (hz : ∀ l, cx.Z c ≠ some l) (hA : All2 (FldM cx (fun a => a = c) H) fl B) (hP : ∀ v ∈ ps, PairM cx (fun a => a = c) H v) :
    StAt cx C N rm st oa da fa pa dx ra B fl ps (upd H c (.list ws)) := by
  have ne : ∀ {a : Addr} {o : O}, H a = some o → MM oa fa pa ra dx da a → a ≠ c := fun _ q e => hn (e ▸ q)
  have net : ∀ {a : Addr} {vs : List V}, H a = some (.tup vs) → a ≠ c := fun q e => by subst e; rw [hc] at q; cases q
  have nei : ∀ {a C dx : Addr}, H a = some (.inst C dx) → a ≠ c := fun q e => by subst e; rw [hc] at q; cases q
  have th : ∀ v t, ThAt cx H v t → ThAt cx (upd H c (.list ws)) v t := fun v t q => ThAt.set hc q
  refine ⟨⟨by rw [upd_ne _ (nei S.R.i)]; exact S.R.i, by rw [upd_ne _ (ne S.R.d (.inr (.inr (.inr (.inr (.inl rfl))))))]; exact S.R.d, by rw [upd_ne _ (ne S.R.r (.inr (.inr (.inr (.inl rfl)))))]; exact S.R.r, S.R.n4, S.R.le, S.R.w⟩,
    by rw [upd_ne _ (net S.t)]; exact S.t, by rw [upd_ne _ (ne S.o (.inl rfl))]; exact S.o, by rw [upd_ne _ (ne S.d (.inr (.inr (.inr (.inr (.inr rfl))))))]; exact S.d, by rw [upd_ne _ (ne S.f (.inr (.inl rfl)))]; exact S.f, by rw [upd_ne _ (ne S.p (.inr (.inr (.inl rfl))))]; exact S.p,
    ⟨S.A.1, fun i v f hv hf => ?_⟩, fun v hv => ?_, S.n1, S.n2, S.n3, S.n4, S.n5, S.n6, S.z⟩
  · obtain ⟨a, us, h1, h2, h3, h4⟩ := S.A.2 i v f hv hf
    obtain ⟨a', us', h1', h2', h3', h4'⟩ := hA.2 i v f hv hf
    rw [h1] at h1'; cases h1'
    exact ⟨a, us, h1, by rw [lk_ne h4']; exact h2, h3.imp th, h4⟩
  · obtain ⟨b, a1, a2, us, h1, h2, h3, h4, h5, h6, h7⟩ := S.P v hv
    obtain ⟨b', a1', a2', us', h1', h2', h3', h4', h5', h6', h7'⟩ := hP v hv
    rw [h1] at h1'; cases h1'
    rw [h2] at h2'; cases h2'
    exact ⟨b, a1, a2, us, h1, by rw [lk_ne (net (lk_tup h2))]; exact h2, by rw [lk_ne h5']; exact h3, by rw [lk_ne h6']; exact h4, h5, h6, h7.ext th⟩
theorem StAt.avoid (S : StAt cx C N rm st oa da fa pa dx ra B fl ps H) (hr : Fresh cx H c) : All2 (FldM cx (fun a => a = c) H) fl B ∧ ∀ v ∈ ps, PairM cx (fun a => a = c) H v := by
  refine ⟨S.A.imp fun _ _ ⟨a, us, h1, h2, h3, _⟩ => ⟨a, us, h1, h2, h3, fun q => hr.ne h2 q⟩, fun v hv => ?_⟩
  obtain ⟨b, a1, a2, us, h1, h2, h3, h4, h5, h6, h7⟩ := S.P v hv
  exact ⟨b, a1, a2, us, h1, h2, h3, h4, fun q => hr.ne h3 q, fun q => hr.ne h4 q, h7⟩
structure Pend (cx : Cx) (M : Addr → Prop) (B : Bx) (fl ps : List V) (H : HP) (c : Addr) : Prop where
  v : ∃ vs, H c = some (.list vs) ∧ Items cx H vs ∧ vs.length ≤ 1000
  n : ¬ M c
  z : ∀ l, cx.Z c ≠ some l
  A : All2 (FldM cx (fun a => a = c) H) fl B
  P : ∀ v ∈ ps, PairM cx (fun a => a = c) H v
theorem Pend.ext {M : Addr → Prop} (x : Ext cx H H') (p : Pend cx M B fl ps H c) : Pend cx M B fl ps H' c :=
  ⟨(let ⟨vs, h1, h2, h3⟩ := p.v; ⟨vs, x.le _ _ h1, h2.ext fun _ _ => ThAt.ext x, h3⟩), p.n, p.z, p.A.imp fun _ _ => FldM.ext x, fun v hv => (p.P v hv).ext x⟩
theorem StAt.pend (S : StAt cx C N rm st oa da fa pa dx ra B fl ps H) (hr : Fresh cx H c) (x : Ext cx H H') {vs : List V} (hv : H' c = some (.list vs)) (hi : Items cx H' vs) (hl : vs.length ≤ 1000) : Pend cx (MM oa fa pa ra dx da) B fl ps H' c :=
  ⟨⟨vs, hv, hi, hl⟩, S.fresh hr, fun l q => (by rw [hr.2.2] at q; cases q), (S.avoid hr).1.imp fun _ _ => FldM.ext x, fun v hv => ((S.avoid hr).2 v hv).ext x⟩
theorem Pend.poke {M : Addr → Prop} (p : Pend cx M B fl ps H c) {d : Addr} {us ws : List V} (hd : H d = some (.list us)) (hne : c ≠ d) (hA : All2 (FldM cx (fun a => a = d) H) fl B) (hP : ∀ v ∈ ps, PairM cx (fun a => a = d) H v) : Pend cx M B fl ps (upd H d (.list ws)) c := by
  have th : ∀ v t, ThAt cx H v t → ThAt cx (upd H d (.list ws)) v t := fun v t q => ThAt.set hd q
  have net : ∀ {a : Addr} {vs : List V}, H a = some (.tup vs) → a ≠ d := fun q e => by subst e; rw [hd] at q; cases q
  refine ⟨?_, p.n, p.z, ⟨p.A.1, fun i v f hv hf => ?_⟩, fun v hv => ?_⟩
  · obtain ⟨vs, h1, h2, h3⟩ := p.v
    exact ⟨vs, by rw [upd_ne _ hne]; exact h1, h2.ext th, h3⟩
  · obtain ⟨a, us, h1, h2, h3, h4⟩ := p.A.2 i v f hv hf
    obtain ⟨a', us', h1', h2', h3', h4'⟩ := hA.2 i v f hv hf
    rw [h1] at h1'; cases h1'
    exact ⟨a, us, h1, by rw [lk_ne h4']; exact h2, h3.imp th, h4⟩
  · obtain ⟨b, a1, a2, us, h1, h2, h3, h4, h5, h6, h7⟩ := p.P v hv
    obtain ⟨b', a1', a2', us', h1', h2', h3', h4', h5', h6', h7'⟩ := hP v hv
    rw [h1] at h1'; cases h1'
    rw [h2] at h2'; cases h2'
    exact ⟨b, a1, a2, us, h1, by rw [lk_ne (net (lk_tup h2))]; exact h2, by rw [lk_ne h5']; exact h3, by rw [lk_ne h6']; exact h4, h5, h6, h7.ext th⟩
theorem Pend.push (S : StAt cx C N rm st oa da fa pa dx ra B fl ps H) (p : Pend cx (MM oa fa pa ra dx da) B fl ps H c) {v : V} (hv : PairM cx (fun a => a = c) H v) (hM : ∀ u ∈ ps ++ [v], PairM cx (MM oa fa pa ra dx da) H u) : Pend cx (MM oa fa pa ra dx da) B fl (ps ++ [v]) (upd H pa (.list (ps ++ [v]))) c := by
  have hcp : c ≠ pa := fun q => p.n (.inr (.inr (.inl q)))
  have th' : ∀ u t, ThAt cx H u t → ThAt cx (upd H pa (.list (ps ++ [v]))) u t := fun _ _ q => ThAt.set S.p q
  have net : ∀ {a : Addr} {vs : List V}, H a = some (.tup vs) → a ≠ pa := fun q e => by subst e; rw [S.p] at q; cases q
  refine ⟨?_, p.n, p.z, ⟨p.A.1, fun i u f hu hf => ?_⟩, fun u hu => ?_⟩
  · obtain ⟨vs, h1, h2, h3⟩ := p.v
    exact ⟨vs, by rw [upd_ne _ hcp]; exact h1, h2.ext th', h3⟩
  · obtain ⟨a, us, h1, h2, h3, h4⟩ := p.A.2 i u f hu hf
    obtain ⟨a', us', h1', h2', h3', h4'⟩ := S.A.2 i u f hu hf
    rw [h1] at h1'; cases h1'
    exact ⟨a, us, h1, by rw [lk_ne (fun q => h4' (.inr (.inr (.inl q))))]; exact h2, h3.imp th', h4⟩
  · have hm := hM u hu
    have hc : PairM cx (fun a => a = c) H u := by
      rcases List.mem_append.mp hu with q | q
      · exact p.P u q
      · rw [List.mem_singleton] at q; rw [q]; exact hv
    obtain ⟨b, a1, a2, us, h1, h2, h3, h4, h5, h6, h7⟩ := hc
    obtain ⟨b', a1', a2', us', h1', h2', h3', h4', h5', h6', h7'⟩ := hm
    rw [h1] at h1'; cases h1'
    rw [h2] at h2'; cases h2'
    exact ⟨b, a1, a2, us, h1, by rw [lk_ne (net (lk_tup h2))]; exact h2, by rw [lk_ne (fun q => h5' (.inr (.inr (.inl q))))]; exact h3, by rw [lk_ne (fun q => h6' (.inr (.inr (.inl q))))]; exact h4, h5, h6, h7.ext th'⟩
end
end Mine
end

section
namespace Mine
open PySem PyProof.Rows
theorem nat_sum (l : List Nat) : (l.map fun k : Nat => (k : Int)).sum = (l.sum : Int) := by
  induction l with
  | nil => rfl
  | cons a l ih => simp [ih]
theorem sum_take_le (l : List Nat) (j : Nat) : (l.take j).sum ≤ l.sum := by
  have : (l.take j ++ l.drop j).sum = l.sum := by rw [List.take_append_drop]
  rw [List.sum_append] at this; first | lia | omega
theorem fits_nat {l : List Nat} (h : l.sum ≤ 1000000) : PySem.SumFits (l.map fun k : Nat => (k : Int)) := by
  intro j hj
  rw [List.length_map] at hj
  have h2 := sum_take_le l (j + 1)
  have h3 : l[j] ≤ (l.take (j + 1)).sum := by
    rw [List.take_succ, List.getElem?_eq_getElem hj, List.sum_append]; simp
  refine ⟨?_, ?_⟩
  · have : (l.map fun k : Nat => (k : Int)).getD j 0 = (l[j] : Int) := by simp [List.getD, hj]
    rw [this]; unfold PySem.InLong; first | lia | omega
  · rw [← List.map_take, nat_sum]; unfold PySem.InLong; first | lia | omega
theorem lens_get {B : Bx} {k : Nat} {f : List Th} (h : B[k]? = some f) : (lensN B)[k]? = some (1 + f.length) := by rw [lensN, List.getElem?_map, h]; rfl
noncomputable def WordsSp (cx : Cx) (n : Nat) (f : Addr) : Prop := ∀ (fa da : Addr) (xs : List Int) (H : HP) (Q : V → HP → Prop), H fa = some (.list (intsV xs)) → lk cx H da = some (.list (intsV xs)) → xs.length ≤ 1000 → Q (.bool true) H → CallP cx n f [.ref fa, .ref da] H Q
section
variable {cx : Cx} {C rm st oa da fa pa dx ra K : Addr} {N : Nat} {B : Bx} {fl ps : List V} {H H' H1 : HP} {n : Nat} {a b c r : Addr} {o o' : O} {Q : V → HP → Prop}
noncomputable def m_law_stands (f_law_places_of f_law_words_are c_Room f_Room_used f_law_told f_Room_places f_Room_come_to f_law_come_to f_Room_cells f_Room_told f_law_cells_of : Addr) : MSs :=
  (.cons (.assign 2 (.callb .sum (.cons (.comp (.bin .Add (.cint (1)) (.callb .len (.cons (.dsub (.sub (.loc 1) (.cint (1))) (.loc 5)) .nil))) (.sub (.loc 1) (.cint (0))) (.cbool true)) .nil)))
  (.cons (.assign 3 (.callf f_law_places_of (.cons (.sub (.loc 1) (.cint (0))) (.cons (.sub (.loc 1) (.cint (1))) .nil))))
  (.cons (.ite (.bop .Or (.cons (.not (.callf f_law_words_are (.cons (.list (.cons (.callm c_Room (Str.ofString "used") f_Room_used 0 .nil) .nil)) (.cons (.list (.cons (.loc 2) .nil)) .nil)))) (.cons (.not (.callf f_law_told (.cons (.loc 0) (.cons (.loc 1) .nil)))) .nil))) (.cons (.ret (.cbool false))
    .nil) .nil)
  (.cons (.ite (.not (.callf f_law_words_are (.cons (.callm c_Room (Str.ofString "places") f_Room_places 0 .nil) (.cons (.comp (.dsub (.loc 3) (.loc 5)) (.sub (.loc 1) (.cint (0))) (.cbool true)) .nil)))) (.cons (.ret (.cbool false))
    .nil) .nil)
  (.cons (.ite (.not (.callf f_law_words_are (.cons (.callm c_Room (Str.ofString "come_to") f_Room_come_to 0 .nil) (.cons (.comp (.dsub (.loc 3) (.loc 5)) (.callf f_law_come_to (.cons (.sub (.loc 1) (.cint (0))) (.cons (.sub (.loc 1) (.cint (1))) .nil))) (.cbool true)) .nil)))) (.cons (.ret (.cbool false))
    .nil) .nil)
  (.cons (.for_ 4 (.list (.cons (.callm c_Room (Str.ofString "cells") f_Room_cells 0 .nil) (.cons (.callm c_Room (Str.ofString "places") f_Room_places 0 .nil) (.cons (.callm c_Room (Str.ofString "come_to") f_Room_come_to 0 .nil) (.cons (.callm c_Room (Str.ofString "told") f_Room_told 0 (.cons (.cint (0)) .nil)) .nil))))) (.cons (.expr (.meth (.loc 4) .append (.cons (.cint (3)) .nil)))
    (.cons (.expr (.meth (.sub (.loc 1) (.cint (4))) .append (.cons (.tup (.cons (.loc 4) (.cons (.callb .list (.cons (.loc 4) .nil)) .nil))) .nil)))
    .nil)))
  (.cons (.ite (.not (.callf f_law_words_are (.cons (.callm c_Room (Str.ofString "places") f_Room_places 0 .nil) (.cons (.comp (.dsub (.loc 3) (.loc 5)) (.sub (.loc 1) (.cint (0))) (.cbool true)) .nil)))) (.cons (.ret (.cbool false))
    .nil) .nil)
  (.cons (.ite (.not (.callf f_law_told (.cons (.loc 0) (.cons (.loc 1) .nil)))) (.cons (.ret (.cbool false))
    .nil) .nil)
  (.cons (.ite (.not (.callf f_law_words_are (.cons (.callm c_Room (Str.ofString "cells") f_Room_cells 0 .nil) (.cons (.callf f_law_cells_of (.cons (.sub (.loc 1) (.cint (0))) (.cons (.sub (.loc 1) (.cint (1))) (.cons (.sub (.loc 1) (.cint (2))) .nil)))) .nil)))) (.cons (.ret (.cbool false))
    .nil) .nil)
  (.cons (.ret (.cmp (.callb .len (.cons (.comp (.loc 5) (.sub (.loc 1) (.cint (4))) (.cmp (.sub (.loc 5) (.cint (0))) .NotEq (.sub (.loc 5) (.cint (1))))) .nil)) .Eq (.cint (0))))
  .nil))))))))))
theorem pr_0 (x y : V) : ([x, y] : List V)[Int.toNat 0]? = some x := rfl
theorem pr_1 (x y : V) : ([x, y] : List V)[Int.toNat 1]? = some y := rfl
theorem pr_len (x y : V) : ([x, y] : List V).length = 2 := rfl
theorem kl_congr {p p' : Nat → Bool} (hp : ∀ k, p k = true ↔ Reach B k) (hp' : ∀ k, p' k = true ↔ Reach B k) : p = p' := by
  funext k
  cases e : p k with
  | true => exact ((hp' k).mpr ((hp k).mp e)).symm
  | false =>
    cases e' : p' k with
    | false => rfl
    | true => rw [(hp k).mpr ((hp' k).mp e')] at e; cases e
theorem nats_item {l : List Nat} {done rest : List V} {x : V} (e : natsV l = done ++ x :: rest) : ∃ k, l[done.length]? = some k ∧ x = .int (k : Int) := by
  have hx : (natsV l)[done.length]? = some x := by rw [e]; simp
  rw [natsV_get?] at hx
  obtain ⟨k, h1, h2⟩ := Option.map_eq_some_iff.mp hx
  exact ⟨k, h1, h2.symm⟩
theorem st_places {f_law_words_are f_Room_places pr : Addr} {u z : V} {N' : List V → HP → Prop} {RR : V → HP → Prop} (hwd : WordsSp cx n f_law_words_are) (hpl : PlSpec cx C n f_Room_places) (S : StAt cx C N rm st oa da fa pa dx ra B fl ps H) (hpr : H pr = some (.dct (enumV (plV B)))) (hN : ∀ H', Ext cx H H' → N' [.ref rm, .ref st, u, .ref pr, z] H') :
    mwpS cx n (.ite (.not (.callf f_law_words_are (.cons (.callm C (Str.ofString "places") f_Room_places 0 .nil) (.cons (.comp (.dsub (.loc 3) (.loc 5)) (.sub (.loc 1) (.cint (0))) (.cbool true)) .nil)))) (.cons (.ret (.cbool false)) .nil) .nil) [.ref rm, .ref st, u, .ref pr, z] H N' RR := by
  have hle := S.le
  have hBl := len_le_pl B (Nat.le_refl _)
  walk_at "st"
  refine ⟨S.R.no fun _ _ => rfl, hpl _ _ _ _ _ _ _ S.R fun q1 H1 x1 _ hq1 => ?_⟩
  have S1 := S.ext x1
  simp only [lk_of S1.t, st_len, st_0]
  refine ⟨by decide, by decide, ?_⟩
  walk_at "st"
  simp only [lk_of S1.o, natsV_length, List.length_range]
  refine ⟨by first | lia | omega, by rw [natsV_length, List.length_range]; first | lia | omega, fun done acc H' => acc = natsV (((List.range B.length).map (pl B)).take done.length) ∧ H' = H1, ⟨rfl, rfl⟩, fun _ _ _ q => q.2 ▸ lk_of S1.o, ?_, ?_⟩
  · rintro done x rest acc H2 e ⟨rfl, rfl⟩
    obtain ⟨rfl, hk⟩ := nat_item e
    walk_at "st"
    simp only [x1.le _ _ hpr, getK_enum, plV_get hk]
    refine ⟨_, LE.refl _, ?_, rfl⟩
    rw [List.length_append, List.length_singleton, List.take_succ, List.getElem?_map, List.getElem?_range hk]
    exact natsV_snoc _ _
  rintro acc H2 ⟨rfl, rfl⟩ r0 hr0
  rw [natsV_length, List.length_range, List.take_of_length_le (by simp)]
  refine hwd _ _ _ _ _ (by rw [upd_ne _ (hr0.ne' hq1)]; exact hq1) lk_same (by simp; first | lia | omega) ?_
  walk_at "st"
  exact S_nil (hN _ (x1.new' hr0 _))
theorem st_come {f_law_words_are f_Room_come_to f_law_come_to pr : Addr} {u z : V} {N' : List V → HP → Prop} {RR : V → HP → Prop} (hwd : WordsSp cx n f_law_words_are) (hct : ComeSpec cx C n f_Room_come_to) (hlc : LComeSpec cx n f_law_come_to) (S : StAt cx C N rm st oa da fa pa dx ra B fl ps H) (hpr : H pr = some (.dct (enumV (plV B)))) (hN : ∀ H', Ext cx H H' → N' [.ref rm, .ref st, u, .ref pr, z] H') :
    mwpS cx n (.ite (.not (.callf f_law_words_are (.cons (.callm C (Str.ofString "come_to") f_Room_come_to 0 .nil) (.cons (.comp (.dsub (.loc 3) (.loc 5)) (.callf f_law_come_to (.cons (.sub (.loc 1) (.cint (0))) (.cons (.sub (.loc 1) (.cint (1))) .nil))) (.cbool true)) .nil)))) (.cons (.ret (.cbool false)) .nil) .nil) [.ref rm, .ref st, u, .ref pr, z] H N' RR := by
  have hle := S.le
  have hBl := len_le_pl B (Nat.le_refl _)
  walk_at "st"
  refine ⟨S.R.no fun _ _ => rfl, hct _ _ _ _ _ _ _ S.R fun q1 H1 p x1 _ hp hq1 => ?_⟩
  have S1 := S.ext x1
  simp only [lk_of S1.t, st_len, st_0, st_1]
  refine ⟨by decide, by decide, by decide, by decide, hlc _ _ _ B _ _ (lk_of S1.o) S1.d S1.fa_ S1.R.w hle fun q2 H2 p' x2 _ hp' hq2 => ?_⟩
  have : p = p' := kl_congr hp hp'
  subst this
  have hkl : (kl p B.length).length ≤ B.length := by
    unfold kl
    exact Nat.le_trans (List.length_filter_le _ _) (by simp)
  walk_at "st"
  simp only [lk_of hq2, natsV_length]
  refine ⟨by first | lia | omega, by rw [natsV_length]; first | lia | omega, fun done acc H' => acc = natsV (((kl p B.length).map (pl B)).take done.length) ∧ H' = H2, ⟨rfl, rfl⟩, fun _ _ _ q => q.2 ▸ lk_of hq2, ?_, ?_⟩
  · rintro done x rest acc H3 e ⟨rfl, rfl⟩
    obtain ⟨k, hk, rfl⟩ := nats_item e
    have hkB := (kl_mem.mp (List.mem_of_getElem? hk)).1
    walk_at "st"
    simp only [x2.le _ _ (x1.le _ _ hpr), getK_enum, plV_get hkB]
    refine ⟨_, LE.refl _, ?_, rfl⟩
    rw [List.length_append, List.length_singleton, List.take_succ, List.getElem?_map, hk]
    exact natsV_snoc _ _
  rintro acc H3 ⟨rfl, rfl⟩ r0 hr0
  rw [natsV_length, List.take_of_length_le (by simp)]
  refine hwd _ _ _ _ _ (by rw [upd_ne _ (hr0.ne' (x2.le _ _ hq1))]; exact x2.le _ _ hq1) lk_same (by simp; first | lia | omega) ?_
  walk_at "st"
  exact S_nil (hN _ ((x1.trans x2).new' hr0 _))
theorem stands_ms {f_law_places_of f_law_words_are f_Room_used f_law_told f_Room_places f_Room_come_to f_law_come_to f_Room_cells f_Room_told f_law_cells_of : Addr} (hpo : PlacesOfSpec cx n f_law_places_of) (hwd : WordsSp cx n f_law_words_are) (hus : UsedSpec cx C n f_Room_used) (hlt : LToldSpec cx C n f_law_told) (hpl : PlSpec cx C n f_Room_places) (hct : ComeSpec cx C n f_Room_come_to) (hlc : LComeSpec cx n f_law_come_to) (hce : CellsSpec cx C n f_Room_cells) (htd : ToldSpec cx C n f_Room_told) (hco : CellsOfSpec cx n f_law_cells_of)
    (S : StAt cx C N rm st oa da fa pa dx ra B fl ps H) (hps : ps.length ≤ 900)
    (hQ : ∀ ps' H', StAt cx C N rm st oa da fa pa dx ra B fl ps' H' → ps'.length = ps.length + 6 → KZ cx H H' → Q (.bool true) H') :
    mwpSs cx n (m_law_stands f_law_places_of f_law_words_are C f_Room_used f_law_told f_Room_places f_Room_come_to f_law_come_to f_Room_cells f_Room_told f_law_cells_of) [.ref rm, .ref st, .unb, .unb, .unb] H (NQ Q) (RQ Q) := by
  have hle := S.le
  have hBl := len_le_pl B (Nat.le_refl _)
  have hpos := S.R.w.pos
  refine S_cons ?_
  walk_at "st"
  simp only [lk_of S.t, st_len, st_0]
  refine ⟨by decide, by decide, ?_⟩
  walk_at "st"
  simp only [lk_of S.o, natsV_length, List.length_range]
  refine ⟨by first | lia | omega, by rw [natsV_length, List.length_range]; first | lia | omega, fun done acc H' => acc = natsV ((lensN B).take done.length) ∧ H' = H, ⟨rfl, rfl⟩, fun _ _ _ q => q.2 ▸ lk_of S.o, ?_, ?_⟩
  · rintro done x rest acc H2 e ⟨rfl, rfl⟩
    obtain ⟨rfl, hk⟩ := nat_item e
    have hBk : B[done.length]? = some B[done.length] := List.getElem?_eq_getElem hk
    have hfl := fld_le_pl hBk
    obtain ⟨v, hv, a, vs, rfl, ha, hvs⟩ := S.fa_.get' hBk
    walk_at "st"
    simp only [lk_of S.t, st_len, st_1]
    refine ⟨by decide, by decide, ?_⟩
    walk_at "st"
    simp only [S.d, getK_enum, hv]
    walk_at "st"
    simp only [ha, hvs.1]
    refine ⟨by first | lia | omega, _, LE.refl _, ?_, rfl⟩
    rw [List.length_append, List.length_singleton, List.take_succ, lens_get hBk, show (1 : Int) + (B[done.length].length : Int) = ((1 + B[done.length].length : Nat) : Int) from by first | lia | omega]
    exact natsV_snoc _ _
  rintro acc H2 ⟨rfl, rfl⟩ r0 hr0
  rw [natsV_length, List.length_range, List.take_of_length_le (by rw [lensN, List.length_map]; exact Nat.le_refl _)]
  walk_at "st"
  simp only [lk_same, natsV, asInts_ints]
  refine ⟨fits_nat (by rw [lensN_sum]; first | lia | omega), ?_⟩
  rw [nat_sum, lensN_sum]
  have x0 := Ext.new hr0 (.list (intsV ((lensN B).map fun k : Nat => (k : Int))))
  generalize upd H2 r0 (.list (intsV ((lensN B).map fun k : Nat => (k : Int)))) = H3 at x0
  have S3 := S.ext x0
  refine S_cons ?_
  walk_at "st"
  simp only [lk_of S3.t, st_len, st_0, st_1]
  refine ⟨by decide, by decide, by decide, by decide, hpo _ _ _ B _ _ (lk_of S3.o) S3.d S3.fa_ hle fun pr H4 x4 _ hpr => S_cons ?_⟩
  have S4 := S3.ext x4
  walk_at "st"
  refine ⟨S4.R.no fun _ _ => rfl, hus _ _ _ _ _ _ _ S4.R ?_⟩
  refine ⟨by simp, fun r1 hr1 => ⟨by simp, fun r2 hr2 => ?_⟩⟩
  have n12 : r1 ≠ r2 := hr2.ne' (upd_same _ _ _)
  refine hwd _ _ [(pl B B.length : Int)] _ _ (by rw [upd_ne _ n12, upd_same]; rfl) lk_same (by simp) ?_
  have x5 := (Ext.new hr1 (.list [V.int (pl B B.length : Int)])).new' hr2 (.list [V.int (pl B B.length : Int)])
  generalize upd (upd H4 r1 (.list [V.int (pl B B.length : Int)])) r2 (.list [V.int (pl B B.length : Int)]) = H5 at x5
  have S5 := S4.ext x5
  have hpr5 := x5.le _ _ hpr
  walk_at "st"
  refine hlt _ _ _ _ _ _ _ _ _ _ _ _ _ _ S5 (by first | lia | omega) fun v1 H6 S6 b6 k6 => ?_
  have hpr6 := b6 _ _ (fun q => by rw [q, S5.p] at hpr5; cases hpr5) hpr5
  have kz6 : KZ cx H2 H6 := KZ.trans (x0.trans (x4.trans x5)).z k6
  walk_at "st"
  refine S_nil (S_cons (st_places hwd hpl S6 hpr6 fun H7 x7 => S_cons (st_come hwd hct hlc (S6.ext x7) (x7.le _ _ hpr6) fun H8 x8 => S_cons ?_)))
  have S8 := S6.ext (x7.trans x8)
  have hpr8 := x8.le _ _ (x7.le _ _ hpr6)
  have kz8 := KZ.trans kz6 (x7.trans x8).z
  have hB0 : B[0]? = some B[0] := List.getElem?_eq_getElem hpos
  have hf0 := fld_le_pl hB0
  have hn4 := S.R.n4
  walk_at "st"
  refine ⟨S8.R.no fun _ _ => rfl, hce _ _ _ _ _ _ _ S8.R fun c1 Ha xa fa1 ea => ?_⟩
  have Sa := S8.ext xa
  refine ⟨Sa.R.no fun _ _ => rfl, hpl _ _ _ _ _ _ _ Sa.R fun c2 Hb xb fb1 eb => ?_⟩
  have Sb := Sa.ext xb
  refine ⟨Sb.R.no fun _ _ => rfl, hct _ _ _ _ _ _ _ Sb.R fun c3 Hc pc xc fc1 hpc ec => ?_⟩
  have Sc := Sb.ext xc
  have hkl : (kl pc B.length).length ≤ B.length := by
    unfold kl
    exact Nat.le_trans (List.length_filter_le _ _) (by simp)
  refine ⟨Sc.R.no fun _ _ => rfl, ?_⟩
  have ht0 := htd N rm dx ra B 0 B[0] Hc
  rw [pl_zero] at ht0
  refine ht0 _ Sc.R hB0 fun c4 ws Hd xd fd1 ed hws => ?_
  have Sd := Sc.ext xd
  have hwl := hws.1
  rw [List.length_map] at hwl
  have p4 : Pend cx (MM oa fa pa ra dx da) B fl (ps ++ [v1]) Hd c4 := Sc.pend fd1 xd ed (items_of hws) (by first | lia | omega)
  have p3 : Pend cx (MM oa fa pa ra dx da) B fl (ps ++ [v1]) Hd c3 := Sb.pend fc1 (xc.trans xd) (xd.le _ _ ec) (fun u hu => .inl (by obtain ⟨i, _, rfl⟩ := List.mem_map.mp hu; exact ⟨i, rfl⟩)) (by rw [natsV_length, List.length_map]; first | lia | omega)
  have p2 : Pend cx (MM oa fa pa ra dx da) B fl (ps ++ [v1]) Hd c2 := Sa.pend fb1 (xb.trans (xc.trans xd)) (xd.le _ _ (xc.le _ _ eb)) (fun u hu => .inl (by obtain ⟨i, _, rfl⟩ := List.mem_map.mp hu; exact ⟨i, rfl⟩)) (by rw [natsV_length, List.length_map, List.length_range]; first | lia | omega)
  have p1 : Pend cx (MM oa fa pa ra dx da) B fl (ps ++ [v1]) Hd c1 := S8.pend fa1 (xa.trans (xb.trans (xc.trans xd))) (xd.le _ _ (xc.le _ _ (xb.le _ _ ea))) (fun u hu => .inl (by obtain ⟨i, _, rfl⟩ := List.mem_map.mp hu; exact ⟨i, rfl⟩)) (by rw [ints_length, rowN_length S.R.le]; first | lia | omega)
  have hnd : [c1, c2, c3, c4].Nodup := by
    have n12 := fb1.ne' ea
    have n13 := fc1.ne' (xb.le _ _ ea)
    have n14 := fd1.ne' (xc.le _ _ (xb.le _ _ ea))
    have n23 := fc1.ne' eb
    have n24 := fd1.ne' (xc.le _ _ eb)
    have n34 := fd1.ne' ec
    simp only [List.nodup_cons, List.mem_cons, List.not_mem_nil, or_false, not_or, not_false_eq_true, List.nodup_nil, and_true]
    exact ⟨⟨n12, n13, n14⟩, ⟨n23, n24⟩, n34⟩
  have hpend : ∀ c ∈ [c1, c2, c3, c4], Pend cx (MM oa fa pa ra dx da) B fl (ps ++ [v1]) Hd c := by
    intro c hc
    simp only [List.mem_cons, List.not_mem_nil, or_false] at hc
    rcases hc with rfl | rfl | rfl | rfl
    · exact p1
    · exact p2
    · exact p3
    · exact p4
  have hprd := xd.le _ _ (xc.le _ _ (xb.le _ _ (xa.le _ _ hpr8)))
  have kzd := KZ.trans kz8 (xa.trans (xb.trans (xc.trans xd))).z
  refine ⟨by simp, fun lr hlr => ?_⟩
  have hlrM := Sd.fresh hlr
  have hlrc : ∀ c ∈ [c1, c2, c3, c4], c ≠ lr := fun c hc => by
    obtain ⟨vs, h1, _⟩ := (hpend c hc).v
    exact hlr.ne' h1
  have xl := Ext.new hlr (.list [V.ref c1, V.ref c2, V.ref c3, V.ref c4])
  have el : (upd Hd lr (.list ([c1, c2, c3, c4].map V.ref))) lr = some (.list ([c1, c2, c3, c4].map V.ref)) := upd_same _ _ _
  simp only [lk_same]
  have hits : ([V.ref c1, V.ref c2, V.ref c3, V.ref c4] : List V) = [c1, c2, c3, c4].map V.ref := rfl
  rw [hits] at xl ⊢
  generalize upd Hd lr (.list ([c1, c2, c3, c4].map V.ref)) = He at xl el
  have hpe : ∀ c ∈ [c1, c2, c3, c4], Pend cx (MM oa fa pa ra dx da) B fl (ps ++ [v1]) He c := fun c hc => (hpend c hc).ext xl
  have hc4 : [c1, c2, c3, c4].length = 4 := rfl
  clear hpend p1 p2 p3 p4 hits
  generalize [c1, c2, c3, c4] = cs at hnd hlrc el hpe hc4
  have Se := Sd.ext xl
  have hpre := xl.le _ _ hprd
  have kze := KZ.trans kzd xl.z
  refine ⟨by simp; first | lia | omega, fun done μ H' => ∃ z ps', μ = [.ref rm, .ref st, .int (pl B B.length : Int), .ref pr, z] ∧ StAt cx C N rm st oa da fa pa dx ra B fl ps' H' ∧ ps'.length = ps.length + 1 + done.length ∧ KZ cx H2 H' ∧ H' pr = some (.dct (enumV (plV B))) ∧ H' lr = some (.list (cs.map V.ref)) ∧ ∀ i c, done.length ≤ i → cs[i]? = some c → Pend cx (MM oa fa pa ra dx da) B fl ps' H' c,
    ⟨_, _, rfl, Se, by simp, kze, hpre, el, fun i c _ hc => hpe c (List.mem_of_getElem? hc)⟩, ?_, ?_, ?_⟩
  · rintro _ _ _ ⟨_, _, _, _, _, _, _, h, _⟩; exact lk_of h
  · rintro done x rest μ H1 e ⟨z, ps', rfl, S1, hl1, kz1, hpr1, hlr1, hpd⟩
    have hx : (cs.map V.ref)[done.length]? = some x := by rw [e]; simp
    rw [List.getElem?_map] at hx
    obtain ⟨c, hc, rfl⟩ := Option.map_eq_some_iff.mp hx
    have hdl : done.length < 4 := by rw [← hc4]; exact (List.getElem?_eq_some_iff.mp hc).1
    have P := hpd _ c (Nat.le_refl _) hc
    obtain ⟨vs, hv, hi, hvl⟩ := P.v
    refine S_cons ?_
    walk_at "st"
    simp only [hv]
    refine ⟨trivial, by first | lia | omega, S_cons ?_⟩
    have S2 := S1.poke (ws := vs ++ [.int 3]) hv P.n P.z P.A P.P
    have hpo2 : ∀ c', c' ≠ c → Pend cx (MM oa fa pa ra dx da) B fl ps' H1 c' → Pend cx (MM oa fa pa ra dx da) B fl ps' (upd H1 c (.list (vs ++ [.int 3]))) c' := fun c' hne p => p.poke hv hne P.A P.P
    have hv2 : (upd H1 c (.list (vs ++ [.int 3]))) c = some (.list (vs ++ [.int 3])) := upd_same _ _ _
    have hi2 : Items cx (upd H1 c (.list (vs ++ [.int 3]))) (vs ++ [.int 3]) := fun u hu => by
      rcases List.mem_append.mp hu with q | q
      · exact (hi u q).imp id fun ⟨t, ht⟩ => ⟨t, ThAt.set hv ht⟩
      · rw [List.mem_singleton] at q; exact .inl ⟨3, q⟩
    have hpr2 : (upd H1 c (.list (vs ++ [.int 3]))) pr = some (.dct (enumV (plV B))) := by
      rw [upd_ne _ (fun q => by rw [q, hv] at hpr1; cases hpr1)]; exact hpr1
    have hlr2 : (upd H1 c (.list (vs ++ [.int 3]))) lr = some (.list (cs.map V.ref)) := by
      rw [upd_ne _ (Ne.symm (hlrc c (List.mem_of_getElem? hc)))]; exact hlr1
    have kz2 : KZ cx H2 (upd H1 c (.list (vs ++ [.int 3]))) := KZ.upd kz1 hv
    have hws : (vs ++ [V.int 3]).length ≤ 1001 := by simp; first | lia | omega
    generalize upd H1 c (.list (vs ++ [.int 3])) = H5 at S2 hpo2 hv2 hi2 hpr2 hlr2 kz2
    generalize vs ++ [V.int 3] = ws at hv2 hi2 hws
    walk_at "st"
    simp only [lk_of S2.t, st_len, st_4]
    refine ⟨by decide, by decide, ?_⟩
    walk_at "st"
    simp only [S2.p, lk_of hv2]
    refine ⟨trivial, by first | lia | omega, fun r1 hr1 => ⟨by simp, fun tb htb => ?_⟩⟩
    have x3 := (Ext.new hr1 (.list ws)).new' htb (.tup [.ref c, .ref r1])
    have e1 := (Ext.new htb (.tup [.ref c, .ref r1])).lk (lk_same (cx := cx) (H := H5) (r := r1) (o := .list ws))
    have et : lk cx (upd (upd H5 r1 (.list ws)) tb (.tup [.ref c, .ref r1])) tb = some (.tup [.ref c, .ref r1]) := lk_same
    generalize upd (upd H5 r1 (.list ws)) tb (.tup [.ref c, .ref r1]) = H3 at x3 e1 et
    have S3 := S2.ext x3
    simp only [S3.p]
    have hP : PairM cx (MM oa fa pa ra dx da) H3 (.ref tb) := ⟨tb, c, r1, ws, rfl, et, x3.lk (lk_of hv2), e1, P.n, S2.fresh hr1, hi2.ext fun _ _ => ThAt.ext x3⟩
    refine ⟨by first | lia | omega, S_nil ⟨_, LE.refl _, _, _, rfl, S3.push hP, by simp [hl1]; first | lia | omega, KZ.upd (KZ.trans kz2 x3.z) S3.p, ?_, ?_, fun i c' hic hc' => ?_⟩⟩
    · rw [upd_ne _ (fun q => by rw [q, S2.p] at hpr2; cases hpr2)]; exact x3.le _ _ hpr2
    · rw [upd_ne _ (fun q => hlrM (.inr (.inr (.inl q))))]; exact x3.le _ _ hlr2
    · rw [List.length_append, List.length_singleton] at hic
      have hne : c' ≠ c := fun q => by
        subst q
        have := (List.getElem?_inj (List.getElem?_eq_some_iff.mp hc).1 hnd).mp (hc.trans hc'.symm)
        omega
      have p2 := hpo2 c' hne (hpd i c' (by first | lia | omega) hc')
      obtain ⟨us, hu, _⟩ := p2.v
      refine Pend.push S3 (p2.ext x3) ⟨tb, c, r1, ws, rfl, et, x3.lk (lk_of hv2), e1, Ne.symm hne, fun q => hr1.ne' hu q.symm, hi2.ext fun _ _ => ThAt.ext x3⟩ fun u hu => ?_
      rcases List.mem_append.mp hu with q | q
      · exact S3.P u q
      · rw [List.mem_singleton] at q; rw [q]; exact hP
  rintro μ H1 ⟨z, ps', rfl, S1, hl1, kz1, hpr1, _, _⟩
  rw [List.length_map, hc4] at hl1
  refine S_cons (st_places hwd hpl S1 hpr1 fun H3 x3 => S_cons ?_)
  have S3 := S1.ext x3
  walk_at "st"
  refine hlt _ _ _ _ _ _ _ _ _ _ _ _ _ _ S3 (by first | lia | omega) fun v2 H4 S4 _ k4 => ?_
  have kz4 := KZ.trans (KZ.trans kz1 x3.z) k4
  walk_at "st"
  refine S_nil (S_cons ?_)
  walk_at "st"
  refine ⟨S4.R.no fun _ _ => rfl, hce _ _ _ _ _ _ _ S4.R fun q1 H5 x5 _ hq1 => ?_⟩
  have S5 := S4.ext x5
  simp only [lk_of S5.t, st_len, st_0, st_1, st_2]
  refine ⟨by decide, by decide, by decide, by decide, by decide, by decide, hco _ _ _ B N _ _ (lk_of S5.o) S5.d S5.fa_ S5.R.w S5.R.le S5.R.n4 fun q2 H6 x6 _ hq2 => ?_⟩
  refine hwd _ _ _ _ _ (x6.le _ _ hq1) (lk_of hq2) (by rw [rowN_length S.R.le]; first | lia | omega) ?_
  have S6 := S5.ext x6
  walk_at "st"
  refine S_nil (S_cons ?_)
  walk_at "st"
  simp only [lk_of S6.t, st_len, st_4]
  refine ⟨by decide, by decide, ?_⟩
  walk_at "st"
  have hpl6 : (ps' ++ [v2]).length = ps.length + 6 := by simp [hl1]
  simp only [lk_of S6.p, hpl6]
  refine ⟨by first | lia | omega, by rw [hpl6]; first | lia | omega, fun _ acc H' => acc = [] ∧ H' = H6, ⟨rfl, rfl⟩, fun _ _ _ q => q.2 ▸ lk_of S6.p, ?_, ?_⟩
  · rintro done x rest acc H7 e ⟨rfl, rfl⟩
    obtain ⟨b, a1, a2, vs, rfl, h2, h3, h4, _, _, h7⟩ := S6.P x (by rw [e]; simp)
    walk_at "st"
    simp only [h2, pr_len, pr_0, pr_1]
    refine ⟨by decide, by decide, by decide, by decide, ?_⟩
    simp only [cmp_items h3 h4 h7]
    walk_at "st"
    exact ⟨_, LE.refl _, rfl, rfl⟩
  rintro acc H7 ⟨rfl, rfl⟩ rl hrl
  walk_at "st"
  simp only [lk_same, List.length_nil]
  exact ⟨by decide, RQ.here (hQ _ _ (S6.ext (Ext.new hrl _)) hpl6 (KZ.trans kz4 (x5.trans (x6.new' hrl _)).z))⟩
noncomputable def StandsSpec (cx : Cx) (C : Addr) (n : Nat) (g : Addr) : Prop := ∀ (N : Nat) (rm st oa da fa pa dx ra : Addr) (B : Bx) (fl ps : List V) (H : HP) (Q : V → HP → Prop), StAt cx C N rm st oa da fa pa dx ra B fl ps H → ps.length ≤ 900 →
  (∀ ps' H', StAt cx C N rm st oa da fa pa dx ra B fl ps' H' → ps'.length = ps.length + 6 → KZ cx H H' → Q (.bool true) H') → CallP cx n g [.ref rm, .ref st] H Q
end
end Mine
end

section
namespace Mine
open PySem PyProof.Rows
section
variable {cx : Cx} {C rm st oa da fa pa dx ra K : Addr} {N : Nat} {B : Bx} {fl ps : List V} {H H' H1 : HP} {n : Nat} {a b c r : Addr} {o o' : O} {Q : V → HP → Prop}
noncomputable def m_law_put (f_law_thing f_law_places_of f_law_words_are c_Room f_Room_come_to f_law_come_to f_Room_put f_law_handed : Addr) : MSs :=
  (.cons (.assign 3 (.sub (.loc 1) (.cint (0))))
  (.cons (.assign 4 (.sub (.loc 1) (.cint (1))))
  (.cons (.assign 5 (.sub (.loc 3) (.bin .Mod (.loc 2) (.callb .len (.cons (.loc 3) .nil)))))
  (.cons (.ite (.cmp (.bin .Mod (.bin .FloorDiv (.loc 2) (.cint (7))) (.cint (3))) .Eq (.cint (0))) (.cons (.assign 5 (.cint (0)))
    .nil) .nil)
  (.cons (.ite (.cmp (.callb .len (.cons (.dsub (.loc 4) (.loc 5)) .nil)) .Eq (.cint (0))) (.cons (.ret (.cbool true))
    .nil) .nil)
  (.cons (.assign 6 (.bin .Mod (.bin .FloorDiv (.loc 2) (.cint (21))) (.callb .len (.cons (.dsub (.loc 4) (.loc 5)) .nil))))
  (.cons (.assign 7 (.callf f_law_thing (.cons (.bin .Mod (.bin .Mult (.bin .FloorDiv (.loc 2) (.cint (500))) (.cint (16807))) (.cint (999979))) (.cons (.loc 3) .nil))))
  (.cons (.assign 8 (.callf f_law_places_of (.cons (.loc 3) (.cons (.loc 4) .nil))))
  (.cons (.ite (.not (.callf f_law_words_are (.cons (.callm c_Room (Str.ofString "come_to") f_Room_come_to 0 .nil) (.cons (.comp (.dsub (.loc 8) (.loc 11)) (.callf f_law_come_to (.cons (.loc 3) (.cons (.loc 4) .nil))) (.cbool true)) .nil)))) (.cons (.ret (.cbool false))
    .nil) .nil)
  (.cons (.assign 9 (.callm c_Room (Str.ofString "put") f_Room_put 0 (.cons (.dsub (.loc 8) (.loc 5)) (.cons (.loc 6) (.cons (.callf f_law_handed (.cons (.loc 7) (.cons (.loc 8) .nil))) .nil)))))
  (.cons (.assign 10 (.callb .list (.cons (.dsub (.loc 4) (.loc 5)) .nil)))
  (.cons (.setSub (.loc 10) (.loc 6) (.loc 7))
  (.cons (.setD (.loc 4) (.loc 5) (.loc 10))
  (.cons (.ite (.not (.callf f_law_words_are (.cons (.callm c_Room (Str.ofString "come_to") f_Room_come_to 0 .nil) (.cons (.comp (.dsub (.loc 8) (.loc 11)) (.callf f_law_come_to (.cons (.loc 3) (.cons (.loc 4) .nil))) (.cbool true)) .nil)))) (.cons (.ret (.cbool false))
    .nil) .nil)
  (.cons (.ret (.cmp (.loc 9) .Is .cnone))
  .nil)))))))))))))))
theorem pu_come {f_law_words_are f_Room_come_to f_law_come_to pr : Addr} {u x5 x6 x7 x9 x10 : V} {N' : List V → HP → Prop} {RR : V → HP → Prop} (hwd : WordsSp cx n f_law_words_are) (hct : ComeSpec cx C n f_Room_come_to) (hlc : LComeSpec cx n f_law_come_to) (S : StAt cx C N rm st oa da fa pa dx ra B fl ps H) (hpr : H pr = some (.dct (enumV (plV B)))) (hN : ∀ H', Ext cx H H' → N' [.ref rm, .ref st, u, .ref oa, .ref da, x5, x6, x7, .ref pr, x9, x10] H') :
    mwpS cx n (.ite (.not (.callf f_law_words_are (.cons (.callm C (Str.ofString "come_to") f_Room_come_to 0 .nil) (.cons (.comp (.dsub (.loc 8) (.loc 11)) (.callf f_law_come_to (.cons (.loc 3) (.cons (.loc 4) .nil))) (.cbool true)) .nil)))) (.cons (.ret (.cbool false)) .nil) .nil) [.ref rm, .ref st, u, .ref oa, .ref da, x5, x6, x7, .ref pr, x9, x10] H N' RR := by
  have hle := S.le
  have hBl := len_le_pl B (Nat.le_refl _)
  walk_at "st"
  refine ⟨S.R.no fun _ _ => rfl, hct _ _ _ _ _ _ _ S.R fun q1 H1 p x1 _ hp hq1 => ?_⟩
  have S1 := S.ext x1
  refine hlc _ _ _ B _ _ (lk_of S1.o) S1.d S1.fa_ S1.R.w hle fun q2 H2 p' x2 _ hp' hq2 => ?_
  have : p = p' := kl_congr hp hp'
  subst this
  have hkl : (kl p B.length).length ≤ B.length := by
    unfold kl
    exact Nat.le_trans (List.length_filter_le _ _) (by simp)
  walk_at "st"
  simp only [lk_of hq2, natsV_length]
  refine ⟨by first | lia | omega, by rw [natsV_length]; first | lia | omega, fun done acc H' => acc = natsV (((kl p B.length).map (pl B)).take done.length) ∧ H' = H2, ⟨rfl, rfl⟩, fun _ _ _ q => q.2 ▸ lk_of hq2, ?_, ?_⟩
  · rintro done x rest acc H3 e ⟨rfl, rfl⟩
    obtain ⟨k, hk, rfl⟩ := nats_item e
    have hkB := (kl_mem.mp (List.mem_of_getElem? hk)).1
    walk_at "st"
    simp only [x2.le _ _ (x1.le _ _ hpr), getK_enum, plV_get hkB]
    refine ⟨_, LE.refl _, ?_, rfl⟩
    rw [List.length_append, List.length_singleton, List.take_succ, List.getElem?_map, hk]
    exact natsV_snoc _ _
  rintro acc H3 ⟨rfl, rfl⟩ r0 hr0
  rw [natsV_length, List.take_of_length_le (by simp)]
  refine hwd _ _ _ _ _ (by rw [upd_ne _ (hr0.ne' (x2.le _ _ hq1))]; exact x2.le _ _ hq1) lk_same (by simp; first | lia | omega) ?_
  walk_at "st"
  exact S_nil (hN _ ((x1.trans x2).new' hr0 _))
theorem All2.set {α β : Type} {R : α → β → Prop} {xs : List α} {ys : List β} (h : All2 R xs ys) (j : Nat) {x : α} {y : β} (hr : R x y) : All2 R (xs.set j x) (ys.set j y) := by
  refine ⟨by simp [h.1], fun i u v hu hv => ?_⟩
  rw [List.getElem?_set] at hu hv
  by_cases q : j = i
  · rw [if_pos q] at hu hv
    split at hu
    · split at hv
      · cases hu; cases hv; exact hr
      · cases hv
    · cases hu
  · rw [if_neg q] at hu hv; exact h.2 i u v hu hv
theorem plV_set {k : Nat} {f g : List Th} (h : B[k]? = some f) (hl : g.length = f.length) : plV (B.set k g) = plV B := by
  unfold plV
  rw [List.length_set]
  apply List.map_congr_left
  intro i _
  rw [pl_set h hl]
theorem StAt.put (S : StAt cx C N rm st oa da fa pa dx ra B fl ps H) {k j : Nat} {f : List Th} {t : Th} {ws : List V} (hk : B[k]? = some f) (R' : RoomAt C N rm dx ra (B.set k (f.set j t)) H') (bt : But ra H H') (kz : KZ cx H H') {H3 : HP} (x : Ext cx H' H3)
    (hr : H3 r = some (.list ws)) (hrf : Fresh cx H' r) (hA : All2 (ThAt cx H3) ws (f.set j t)) : StAt cx C N rm st oa da fa pa dx ra (B.set k (f.set j t)) (fl.set k (.ref r)) ps (upd H3 da (.dct (enumV (fl.set k (.ref r))))) := by
  have kd : ∀ {a : Addr} {o : O}, H a = some o → a ≠ ra → H3 a = some o := fun q n => x.le _ _ (bt _ _ n q)
  have ned : ∀ {a : Addr} {vs : List V}, H3 a = some (.list vs) → a ≠ da := fun q e => by
    have h1 := kd S.d (fun q => by have := S.d; rw [q, S.R.r] at this; cases this)
    rw [e, h1] at q; cases q
  have hda := kd S.d (fun q => by have := S.d; rw [q, S.R.r] at this; cases this)
  have hst := kd S.t (fun q => S.nst (.inr (.inr (.inr (.inl q)))))
  have R3 := R'.ext x.le
  have G : Go cx (MM oa fa pa ra dx da) H (upd H3 da (.dct (enumV (fl.set k (.ref r))))) := ⟨fun a o ha e => by
    rw [upd_ne _ (fun q => ha (.inr (.inr (.inr (.inr (.inr q))))))]; exact kd e (fun q => ha (.inr (.inr (.inr (.inl q))))), KZ.upd (KZ.trans kz x.z) hda, S.tup, S.z⟩
  have th3 : ∀ v t, ThAt cx H3 v t → ThAt cx (upd H3 da (.dct (enumV (fl.set k (.ref r))))) v t := fun v t ⟨b, h1, h2⟩ => ⟨b, h1, by
    rw [lk_ne (fun q => by subst q; rw [lk_of hda] at h2; cases h2)]; exact h2⟩
  have hrM : ¬ MM oa fa pa ra dx da r := by
    rintro (q | q | q | q | q | q)
    · have := bt _ _ S.n3 S.o; rw [← q, hrf.1] at this; cases this
    · have := bt _ _ S.n5 S.f; rw [← q, hrf.1] at this; cases this
    · have := bt _ _ S.n6 S.p; rw [← q, hrf.1] at this; cases this
    · have := R'.r; rw [← q, hrf.1] at this; cases this
    · have := R'.d; rw [← q, hrf.1] at this; cases this
    · have := bt _ _ (fun z => by have := S.d; rw [z, S.R.r] at this; cases this) S.d; rw [← q, hrf.1] at this; cases this
  refine ⟨⟨?_, ?_, ?_, R'.n4, R'.le, R'.w⟩, ?_, ?_, upd_same _ _ _, ?_, ?_, ?_, fun v hv => G.pair (fun _ _ _ q => q) (S.P v hv) S.z, S.n1, S.n2, S.n3, S.n4, S.n5, S.n6, S.z⟩
  · rw [upd_ne _ (fun q => by have := R3.i; rw [q, hda] at this; cases this)]; exact R3.i
  · rw [upd_ne _ (fun q => by have := R3.d; rw [q, hda] at this; cases this)]; exact R3.d
  · rw [upd_ne _ (ned R3.r)]; exact R3.r
  · rw [upd_ne _ (fun q => by rw [q, hda] at hst; cases hst)]; exact hst
  · rw [upd_ne _ (ned (kd S.o S.n3)), List.length_set]; exact kd S.o S.n3
  · rw [upd_ne _ (ned (kd S.f S.n5)), List.length_set]; exact kd S.f S.n5
  · rw [upd_ne _ (ned (kd S.p S.n6))]; exact kd S.p S.n6
  · exact (S.A.imp fun _ _ q => G.fld (fun _ _ _ q => q) q S.z).set k ⟨r, ws, rfl, by rw [lk_ne (ned hr)]; exact lk_of hr, hA.imp th3, hrM⟩
end
end Mine
end

section
namespace Mine
open PySem PyProof.Rows
section
variable {cx : Cx} {C rm st oa da fa pa dx ra K : Addr} {N : Nat} {B : Bx} {fl ps : List V} {H H' H1 : HP} {n : Nat} {a b c r : Addr} {o o' : O} {Q : V → HP → Prop}
theorem lput_ms {f_law_thing f_law_places_of f_law_words_are f_Room_come_to f_law_come_to f_Room_put f_law_handed : Addr} {seed : Int} (hth : ThingSpec cx n f_law_thing) (hpo : PlacesOfSpec cx n f_law_places_of) (hwd : WordsSp cx n f_law_words_are) (hct : ComeSpec cx C n f_Room_come_to) (hlc : LComeSpec cx n f_law_come_to) (hpt : PutSpec cx C n f_Room_put) (hha : HandedSpec cx n f_law_handed)
    (S : StAt cx C N rm st oa da fa pa dx ra B fl ps H)
    (hQ : ∀ B' fl' H', StAt cx C N rm st oa da fa pa dx ra B' fl' ps H' → KZ cx H H' → Q (.bool true) H') :
    mwpSs cx n (m_law_put f_law_thing f_law_places_of f_law_words_are C f_Room_come_to f_law_come_to f_Room_put f_law_handed) [.ref rm, .ref st, .int seed, .unb, .unb, .unb, .unb, .unb, .unb, .unb, .unb] H (NQ Q) (RQ Q) := by
  have hle := S.le
  have hBl := len_le_pl B (Nat.le_refl _)
  have hpos := S.R.w.pos
  refine S_cons ?_
  walk_at "st"
  simp only [lk_of S.t, st_len, st_0]
  refine ⟨by decide, by decide, S_cons ?_⟩
  walk_at "st"
  simp only [lk_of S.t, st_len, st_1]
  refine ⟨by decide, by decide, S_cons ?_⟩
  walk_at "st"
  simp only [lk_of S.o, natsV_length, List.length_range]
  obtain ⟨b1, b2⟩ := fmod_pos_bounds seed (b := (B.length : Int)) (by first | lia | omega)
  have e0 : (natsV (List.range B.length))[(seed.fmod (B.length : Int)).toNat]? = some (.int ((seed.fmod (B.length : Int)).toNat : Int)) := by
    rw [natsV_get?, List.getElem?_range (by first | lia | omega)]; rfl
  rw [e0]
  refine ⟨by first | lia | omega, by first | lia | omega, b1, by first | lia | omega, ?_⟩
  refine S_cut (fun μ H' => ∃ k, k < B.length ∧ μ = [.ref rm, .ref st, .int seed, .ref oa, .ref da, .int (k : Int), .unb, .unb, .unb, .unb, .unb] ∧ H' = H) ?_ ?_
  · walk_at "st"
    refine ⟨by decide, by decide, fun _ => S_cons ?_, fun _ => S_nil ⟨_, by first | lia | omega, rfl, rfl⟩⟩
    walk_at "st"
    exact S_nil ⟨0, hpos, rfl, rfl⟩
  rintro μ' H' ⟨k, hk, rfl, rfl⟩
  have hBk : B[k]? = some B[k] := List.getElem?_eq_getElem hk
  have hfl := fld_le_pl hBk
  generalize B[k] = f at hBk hfl
  obtain ⟨v, hv, a, vs, rfl, ha, hvs⟩ := S.fa_.get' hBk
  have hvl := hvs.1
  refine S_cons ?_
  walk_at "st"
  simp only [S.d, getK_enum, hv]
  walk_at "st"
  simp only [ha, hvl]
  refine ⟨by first | lia | omega, fun _ => S_cons ?_, fun q => S_nil (S_cons ?_)⟩
  · walk_at "st"
    exact RQ.here (hQ _ _ _ S (KZ.refl _ _))
  have hf0 : 0 < f.length := by
    rw [beq_eq_false_iff_ne] at q; first | lia | omega
  walk_at "st"
  simp only [S.d, getK_enum, hv]
  walk_at "st"
  simp only [ha, hvl]
  obtain ⟨c1, c2⟩ := fmod_pos_bounds (seed.fdiv 21) (b := (f.length : Int)) (by first | lia | omega)
  rw [show (seed.fdiv 21).fmod (f.length : Int) = (((seed.fdiv 21).fmod (f.length : Int)).toNat : Int) from by first | lia | omega]
  have hj : ((seed.fdiv 21).fmod (f.length : Int)).toNat < f.length := by first | lia | omega
  generalize ((seed.fdiv 21).fmod (f.length : Int)).toNat = j at hj
  refine ⟨by decide, by first | lia | omega, by first | lia | omega, S_cons ?_⟩
  walk_at "st"
  obtain ⟨d1, d2⟩ := fmod_pos_bounds (seed.fdiv 500 * 16807) (b := 999979) (by decide)
  refine ⟨by decide, mulOk_r (by decide), by decide, hth _ B _ _ _ (lk_of S.o) hpos (by first | lia | omega) d1 (by first | lia | omega) fun t tb H1 ht x1 htb => S_cons ?_⟩
  have S1 := S.ext x1
  walk_at "st"
  refine hpo _ _ _ B _ _ (lk_of S1.o) S1.d S1.fa_ hle fun pr H2 x2 hprf hpr => S_cons (pu_come hwd hct hlc (S1.ext x2) hpr fun H3 x3 => S_cons ?_)
  have x13 := x1.trans (x2.trans x3)
  have S3 := S.ext x13
  have hpr3 := x3.le _ _ hpr
  have htb3 := x3.le _ _ (x2.le _ _ htb)
  walk_at "st"
  refine ⟨S3.R.no fun _ _ => rfl, ?_⟩
  simp only [hpr3, getK_enum, plV_get hk]
  refine hha _ _ B t _ _ (lk_of htb3) hpr3 ht fun u H4 x4 hu => ?_
  obtain ⟨ub, rfl, hub⟩ := hu
  have S4 := S3.ext x4
  refine hpt _ _ _ _ _ _ _ _ _ _ _ _ S4.R hBk hj hub ht fun H5 R5 bt5 k5 => S_cons ?_
  have hnra : ∀ {a : Addr} {o : O}, H4 a = some o → (∀ vs, o ≠ .list vs) → H5 a = some o := fun q n => bt5 _ _ (fun z => by rw [z, S4.R.r] at q; cases q; exact n _ rfl) q
  have hpr5 := hnra (x4.le _ _ hpr3) (by intro vs q; cases q)
  have hd5 := hnra S4.d (by intro vs q; cases q)
  have htb5 := hnra (x4.le _ _ htb3) (by intro vs q; cases q)
  obtain ⟨v', hv', a', vs', e1, ha', hvs', hna⟩ := S4.A.get' hBk
  rw [hv] at hv'; cases hv'
  cases e1
  have ha4 := x13.trans x4 |>.lk ha
  rw [ha4] at ha'; cases ha'
  have G5 : Go cx (fun a => a = ra) H4 H5 := ⟨fun a o n e => bt5 _ _ n e, k5, fun a vs q e => (by rw [q, S4.R.r] at e; cases e), fun a l q e => S4.z a l q (.inr (.inr (.inr (.inl e))))⟩
  have ha5 := G5.lk (fun q => hna (.inr (.inr (.inr (.inl q))))) ha4
  have hvs5 := hvs'.imp fun _ _ q => G5.th q
  walk_at "st"
  simp only [hd5, getK_enum, hv]
  walk_at "st"
  simp only [ha5, hvl]
  refine ⟨by first | lia | omega, fun r hr => S_cons ?_⟩
  have x6 := Ext.new hr (.list vs)
  walk_at "st"
  simp only [upd_same, hvl, Int.toNat_natCast, upd_upd]
  refine ⟨by first | lia | omega, by first | lia | omega, hj, S_cons ?_⟩
  have x7 : Ext cx H5 (upd H5 r (.list (vs.set j (.ref tb)))) := Ext.new hr _
  have e7 : (upd H5 r (.list (vs.set j (.ref tb)))) r = some (.list (vs.set j (.ref tb))) := upd_same _ _ _
  have A7 : All2 (ThAt cx (upd H5 r (.list (vs.set j (.ref tb))))) (vs.set j (.ref tb)) (f.set j t) := (hvs5.imp fun _ _ q => q.ext x7).set j ⟨tb, rfl, lk_of (x7.le _ _ htb5)⟩
  generalize upd H5 r (.list (vs.set j (.ref tb))) = H7 at x7 e7 A7
  walk_at "st"
  have hfll : fl.length = B.length := S.A.1
  simp only [x7.le _ _ hd5, enumV_length]
  rw [putK_set (by first | lia | omega)]
  have S8 := S4.put hBk R5 bt5 k5 x7 e7 hr A7
  refine ⟨by first | lia | omega, S_cons (pu_come hwd hct hlc S8 ?_ fun H9 x9 => S_cons ?_)⟩
  · rw [plV_set hBk (by simp), upd_ne _ (Ne.symm (hprf.ne' S1.d))]
    exact x7.le _ _ hpr5
  walk_at "st"
  exact RQ.here (hQ _ _ _ (S8.ext x9) (KZ.trans (KZ.trans (KZ.trans (KZ.trans x13.z x4.z) k5) (KZ.upd x7.z (x7.le _ _ hd5))) x9.z))
noncomputable def LPutSpec (cx : Cx) (C : Addr) (n : Nat) (g : Addr) : Prop := ∀ (N : Nat) (rm st oa da fa pa dx ra : Addr) (B : Bx) (fl ps : List V) (seed : Int) (H : HP) (Q : V → HP → Prop), StAt cx C N rm st oa da fa pa dx ra B fl ps H →
  (∀ B' fl' H', StAt cx C N rm st oa da fa pa dx ra B' fl' ps H' → KZ cx H H' → Q (.bool true) H') → CallP cx n g [.ref rm, .ref st, .int seed] H Q
end
end Mine
end

section
namespace Mine
open PySem PyProof.Rows
section
variable {cx : Cx} {C rm st oa da fa pa dx ra ra' K : Addr} {N : Nat} {B : Bx} {fl ps : List V} {H H' H1 : HP} {n : Nat} {a b c r : Addr} {o o' : O} {Q : V → HP → Prop}
noncomputable def m_law_made (f_law_many f_law_thing f_law_places_of f_law_handed c_Room f_Room_made c_NoRoom f_law_is_int : Addr) : MSs :=
  (.cons (.assign 4 (.sub (.loc 1) (.cint (0))))
  (.cons (.assign 5 (.sub (.loc 1) (.cint (1))))
  (.cons (.assign 6 (.compR (.bin .Mod (.bin .Mult (.bin .Add (.loc 3) (.bin .Mult (.cint (977)) (.loc 14))) (.cint (16807))) (.cint (999979))) (.cint (0)) (.callf f_law_many (.cons (.loc 2) (.cons (.loc 3) .nil))) (.cbool true)))
  (.cons (.assign 7 (.comp (.callf f_law_thing (.cons (.loc 14) (.cons (.loc 4) .nil))) (.loc 6) (.cbool true)))
  (.cons (.assign 8 (.callf f_law_places_of (.cons (.loc 4) (.cons (.loc 5) .nil))))
  (.cons (.assign 9 (.callb .sum (.cons (.comp (.bin .Add (.cint (1)) (.callb .len (.cons (.dsub (.loc 5) (.loc 14)) .nil))) (.loc 4) (.cbool true)) .nil)))
  (.cons (.assign 10 (.comp (.callf f_law_handed (.cons (.loc 14) (.cons (.loc 8) .nil))) (.loc 7) (.cbool true)))
  (.cons (.assign 11 (.callb .list (.cons (.loc 10) .nil)))
  (.cons (.tryS 12 c_Room (Str.ofString "made") f_Room_made 0 (.cons (.loc 11) .nil) c_NoRoom (.bop .And (.cons (.cmp (.bin .Add (.bin .Add (.loc 9) (.cint (1))) (.callb .len (.cons (.loc 7) .nil))) .Gt (.sub (.loc 1) (.cint (2)))) (.cons (.cmp (.loc 11) .Eq (.loc 10)) .nil))))
  (.cons (.ite (.cmp (.loc 11) .NotEq (.loc 10)) (.cons (.ret (.cbool false))
    .nil) .nil)
  (.cons (.expr (.meth (.loc 11) .append (.cons (.tup (.cons (.cstr (Str.ofString "number")) (.cons (.cint (7)) .nil))) .nil)))
  (.cons (.expr (.meth (.sub (.loc 1) (.cint (4))) .append (.cons (.tup (.cons (.loc 11) (.cons (.callb .list (.cons (.loc 11) .nil)) .nil))) .nil)))
  (.cons (.ite (.bop .Or (.cons (.cmp (.bin .Add (.bin .Add (.loc 9) (.cint (1))) (.callb .len (.cons (.loc 7) .nil))) .Gt (.sub (.loc 1) (.cint (2)))) (.cons (.not (.callf f_law_is_int (.cons (.loc 12) .nil))) (.cons (.cmp (.loc 12) .NotEq (.loc 9)) .nil)))) (.cons (.ret (.cbool false))
    .nil) .nil)
  (.cons (.assign 13 (.sub (.sub (.loc 1) (.cint (3))) (.cint (0))))
  (.cons (.setSub (.sub (.loc 1) (.cint (3))) (.cint (0)) (.bin .Add (.loc 13) (.cint (1))))
  (.cons (.expr (.meth (.loc 4) .append (.cons (.loc 13) .nil)))
  (.cons (.setD (.loc 5) (.loc 13) (.loc 7))
  (.cons (.ret (.cbool true))
  .nil))))))))))))))))))
theorem StAt.made (S : StAt cx C N rm st oa da fa pa dx ra B fl ps H) {ts : List Th} {th : Addr} {ws : List V} {pv : V} (G : Go cx (MM oa fa pa ra dx da) H H') (R' : RoomAt C N rm dx ra' (B ++ [ts]) H') (hra : Fresh cx H ra')
    (ho : H' oa = some (.list (natsV (List.range (B ++ [ts]).length)))) (hd : H' da = some (.dct (enumV (fl ++ [.ref th])))) (hf : H' fa = some (.list [.int (B ++ [ts]).length])) (hp : H' pa = some (.list (ps ++ [pv])))
    (hth : Fresh cx H th) (hthr : th ≠ ra') (hw : H' th = some (.list ws)) (hA : All2 (ThAt cx H') ws ts) (hP : PairM cx (MM oa fa pa ra' dx da) H' pv) :
    StAt cx C N rm st oa da fa pa dx ra' (B ++ [ts]) (fl ++ [.ref th]) (ps ++ [pv]) H' := by
  have hM : ∀ a o, H a = some o → MM oa fa pa ra' dx da a → MM oa fa pa ra dx da a := by
    rintro a o e (q | q | q | q | q | q)
    · exact .inl q
    · exact .inr (.inl q)
    · exact .inr (.inr (.inl q))
    · rw [q, hra.1] at e; cases e
    · exact .inr (.inr (.inr (.inr (.inl q))))
    · exact .inr (.inr (.inr (.inr (.inr q))))
  have hz : ∀ a l, cx.Z a = some l → ¬ MM oa fa pa ra' dx da a := by
    rintro a l e (q | q | q | q | q | q)
    · exact S.z a l e (.inl q)
    · exact S.z a l e (.inr (.inl q))
    · exact S.z a l e (.inr (.inr (.inl q)))
    · rw [q, hra.2.2] at e; cases e
    · exact S.z a l e (.inr (.inr (.inr (.inr (.inl q)))))
    · exact S.z a l e (.inr (.inr (.inr (.inr (.inr q)))))
  have hthM : ¬ MM oa fa pa ra' dx da th := by
    rintro (q | q | q | q | q | q)
    · exact S.fresh hth (.inl q)
    · exact S.fresh hth (.inr (.inl q))
    · exact S.fresh hth (.inr (.inr (.inl q)))
    · exact hthr q
    · exact S.fresh hth (.inr (.inr (.inr (.inr (.inl q)))))
    · exact S.fresh hth (.inr (.inr (.inr (.inr (.inr q)))))
  refine ⟨R', G.le _ _ S.nst S.t, ho, hd, hf, hp, (S.A.imp fun _ _ q => G.fld hM q hz).snoc ⟨th, ws, rfl, lk_of hw, hA, hthM⟩, fun v hv => ?_, S.n1, S.n2, hra.ne' S.o, S.n4, hra.ne' S.f, hra.ne' S.p, hz⟩
  rcases List.mem_append.mp hv with q | q
  · exact G.pair hM (S.P v q) hz
  · rw [List.mem_singleton] at q; rw [q]; exact hP
end
end Mine
end

section
namespace Mine
open PySem PyProof.Rows
section
variable {cx : Cx} {C rm st oa da fa pa dx ra ra' K : Addr} {N : Nat} {B : Bx} {fl ps : List V} {H H' H1 : HP} {n : Nat} {a b c r : Addr} {o o' : O} {Q : V → HP → Prop}
structure Mid (cx : Cx) (C : Addr) (N : Nat) (rm st oa da fa pa dx ra ra' : Addr) (B : Bx) (ts : List Th) (th : Addr) (tv ol fv pv : List V) (dl : List (Int × V)) (H X : HP) : Prop where
  kp : ∀ a o, ¬ MM oa fa pa ra dx da a → H a = some o → X a = some o
  kz : KZ cx H X
  R : RoomAt C N rm dx ra' (B ++ [ts]) X
  t : X st = some (.tup [.ref oa, .ref da, .int N, .ref fa, .ref pa])
  o : X oa = some (.list ol)
  d : X da = some (.dct dl)
  f : X fa = some (.list fv)
  p : X pa = some (.list pv)
  th : X th = some (.list tv)
  A : All2 (ThAt cx X) tv ts
theorem Mid.ext {ts : List Th} {th : Addr} {tv ol fv pv : List V} {dl : List (Int × V)} {X X' : HP} (M : Mid cx C N rm st oa da fa pa dx ra ra' B ts th tv ol fv pv dl H X) (x : Ext cx X X') : Mid cx C N rm st oa da fa pa dx ra ra' B ts th tv ol fv pv dl H X' :=
  ⟨fun a o n e => x.le _ _ (M.kp a o n e), KZ.trans M.kz x.z, M.R.ext x.le, x.le _ _ M.t, x.le _ _ M.o, x.le _ _ M.d, x.le _ _ M.f, x.le _ _ M.p, x.le _ _ M.th, M.A.imp fun _ _ q => q.ext x⟩
theorem Mid.upd {ts : List Th} {th : Addr} {tv ol fv pv ol' fv' pv' : List V} {dl dl' : List (Int × V)} {X : HP} (M : Mid cx C N rm st oa da fa pa dx ra ra' B ts th tv ol fv pv dl H X) {d : Addr} {v o : O} (hd : X d = some o) (hnt : ∀ vs, o ≠ .tup vs) (hni : ∀ C dx, o ≠ .inst C dx) (h1 : d ≠ dx) (h2 : d ≠ ra') (h3 : d ≠ th) (hk : MM oa fa pa ra dx da d ∨ H d = none)
    (eo : upd X d v oa = some (.list ol')) (ed : upd X d v da = some (.dct dl')) (ef : upd X d v fa = some (.list fv')) (ep : upd X d v pa = some (.list pv')) : Mid cx C N rm st oa da fa pa dx ra ra' B ts th tv ol' fv' pv' dl' H (upd X d v) := by
  have net : ∀ {a : Addr} {vs : List V}, X a = some (.tup vs) → a ≠ d := fun q e => by subst e; rw [hd] at q; cases q; exact hnt _ rfl
  refine ⟨fun a o' n e => ?_, KZ.upd M.kz hd, ⟨by rw [upd_ne _ (fun q => by have := M.R.i; rw [q, hd] at this; cases this; exact hni _ _ rfl)]; exact M.R.i, by rw [upd_ne _ (Ne.symm h1)]; exact M.R.d, by rw [upd_ne _ (Ne.symm h2)]; exact M.R.r, M.R.n4, M.R.le, M.R.w⟩, by rw [upd_ne _ (net M.t)]; exact M.t, eo, ed, ef, ep, by rw [upd_ne _ (Ne.symm h3)]; exact M.th, M.A.imp fun _ _ ⟨b, q1, q2⟩ => ⟨b, q1, by rw [lk_ne (net (lk_tup q2))]; exact q2⟩⟩
  rw [upd_ne _ (fun q => by
    subst q
    rcases hk with hk | hk
    · exact n hk
    · rw [hk] at e; cases e)]
  exact M.kp a o' n e
theorem lmade_ms {f_law_many f_law_thing f_law_places_of f_law_handed f_Room_made f_law_is_int : Addr} {cell seed : Int} (hmy : ManySpec cx n f_law_many) (hth : ThingSpec cx n f_law_thing) (hpo : PlacesOfSpec cx n f_law_places_of) (hha : HandedSpec cx n f_law_handed) (hmd : MadeSpec cx C K n f_Room_made) (hint : ∀ v H Q, Q (.bool true) H → CallP cx n f_law_is_int [.int v] H Q)
    (S : StAt cx C N rm st oa da fa pa dx ra B fl ps H) (hps : ps.length ≤ 900)
    (hQ : ∀ ra' B' fl' ps' H', StAt cx C N rm st oa da fa pa dx ra' B' fl' ps' H' → ps'.length ≤ ps.length + 1 → KZ cx H H' → Q (.bool true) H') :
    mwpSs cx n (m_law_made f_law_many f_law_thing f_law_places_of f_law_handed C f_Room_made K f_law_is_int) [.ref rm, .ref st, .int cell, .int seed, .unb, .unb, .unb, .unb, .unb, .unb, .unb, .unb, .unb, .unb] H (NQ Q) (RQ Q) := by
  have hle := S.le
  have hBl := len_le_pl B (Nat.le_refl _)
  have hpos := S.R.w.pos
  have hn4 := S.R.n4
  refine S_cons ?_
  walk_at "st"
  simp only [lk_of S.t, st_len, st_0]
  refine ⟨by decide, by decide, S_cons ?_⟩
  walk_at "st"
  simp only [lk_of S.t, st_len, st_1]
  refine ⟨by decide, by decide, S_cons ?_⟩
  walk_at "st"
  refine hmy _ _ _ _ fun m hm => ?_
  walk_at "st"
  have hrl : (intsV (rangeL 0 (m : Int))).length = m := by simp [intsV, rangeL]
  refine ⟨⟨by decide, by decide⟩, ⟨by first | lia | omega, by first | lia | omega⟩, by rw [hrl]; first | lia | omega, fun done acc H' => (∃ qs : List Int, acc = intsV qs ∧ qs.length = done.length ∧ ∀ q ∈ qs, 0 ≤ q ∧ q < 1000000) ∧ H' = H, ⟨⟨[], rfl, rfl, by simp⟩, rfl⟩, fun _ _ _ _ => trivial, ?_, ?_⟩
  · rintro done x rest acc H3 e ⟨⟨qs, rfl, hql, hqb⟩, rfl⟩
    have hx : (intsV (rangeL 0 (m : Int)))[done.length]? = some x := by rw [e]; simp
    rw [ints_get?] at hx
    obtain ⟨y, hy, rfl⟩ := Option.map_eq_some_iff.mp hx
    walk_at "st"
    obtain ⟨c1, c2⟩ := fmod_pos_bounds ((seed + 977 * y) * 16807) (b := 999979) (by decide)
    refine ⟨mulOk_l (by decide), mulOk_r (by decide), by decide, _, LE.refl _, ⟨qs ++ [((seed + 977 * y) * 16807).fmod 999979], by simp [intsV], by simp [hql], fun q hq => ?_⟩, rfl⟩
    rcases List.mem_append.mp hq with q | q
    · exact hqb _ q
    · rw [List.mem_singleton] at q; rw [q]; exact ⟨c1, by first | lia | omega⟩
  rintro acc H3 ⟨⟨qs, rfl, hql, hqb⟩, rfl⟩ sr hsr
  rw [hrl] at hql
  refine S_cons ?_
  have x1 := Ext.new hsr (.list (intsV qs))
  have e1 : (upd H3 sr (.list (intsV qs))) sr = some (.list (intsV qs)) := upd_same _ _ _
  generalize upd H3 sr (.list (intsV qs)) = H4 at x1 e1
  have S4 := S.ext x1
  walk_at "st"
  simp only [lk_of e1, ints_length, hql]
  refine ⟨by first | lia | omega, by rw [ints_length]; first | lia | omega, fun done acc H' => ∃ ts, All2 (ThAt cx H') acc ts ∧ (∀ t ∈ ts, OkT B t) ∧ ts.length = done.length ∧ Ext cx H4 H', ⟨[], All2.nil, by simp, rfl, Ext.refl _ _⟩, fun _ _ _ ⟨_, _, _, _, x⟩ => x.lk (lk_of e1), ?_, ?_⟩
  · rintro done x rest acc H5 e ⟨ts, ha, hok, hl, x5⟩
    have hx : (intsV qs)[done.length]? = some x := by rw [e]; simp
    rw [ints_get?] at hx
    obtain ⟨y, hy, rfl⟩ := Option.map_eq_some_iff.mp hx
    obtain ⟨q1, q2⟩ := hqb y (List.mem_of_getElem? hy)
    walk_at "st"
    refine hth _ B _ _ _ (x5.lk (lk_of S4.o)) hpos (by first | lia | omega) q1 q2 fun t tb H6 ht x6 htb => ⟨_, LE.refl _, ts ++ [t], ?_, ?_, by simp [hl], x5.trans x6⟩
    · exact (ha.imp fun _ _ q => q.ext x6).snoc ⟨tb, rfl, lk_of htb⟩
    · intro u hu
      rcases List.mem_append.mp hu with q | q
      · exact hok u q
      · rw [List.mem_singleton] at q; rw [q]; exact ht
  rintro tv H5 ⟨ts, hta, hok, htl, x5⟩ th hthf
  rw [ints_length, hql] at htl
  refine S_cons ?_
  have x6 := x5.new' hthf (.list tv)
  have e6 : (upd H5 th (.list tv)) th = some (.list tv) := upd_same _ _ _
  have hta6 : All2 (ThAt cx (upd H5 th (.list tv))) tv ts := hta.imp fun _ _ q => q.ext (Ext.new hthf _)
  have hthH : Fresh cx H3 th := (x1.trans x5).fresh hthf
  generalize upd H5 th (.list tv) = H6 at x6 e6 hta6
  have x16 := x1.trans x6
  have S6 := S.ext x16
  have htvl := hta6.1
  walk_at "st"
  refine hpo _ _ _ B _ _ (lk_of S6.o) S6.d S6.fa_ hle fun pr H7 x7 _ hpr => S_cons ?_
  have S7 := S6.ext x7
  walk_at "st"
  simp only [lk_of S7.o, natsV_length, List.length_range]
  refine ⟨by first | lia | omega, by rw [natsV_length, List.length_range]; first | lia | omega, fun done acc H' => acc = natsV ((lensN B).take done.length) ∧ H' = H7, ⟨rfl, rfl⟩, fun _ _ _ q => q.2 ▸ lk_of S7.o, ?_, ?_⟩
  · rintro done x rest acc H8 e ⟨rfl, rfl⟩
    obtain ⟨rfl, hk⟩ := nat_item e
    have hBk : B[done.length]? = some B[done.length] := List.getElem?_eq_getElem hk
    have hfl := fld_le_pl hBk
    obtain ⟨v, hv, a, vs, rfl, ha, hvs⟩ := S7.fa_.get' hBk
    walk_at "st"
    simp only [S7.d, getK_enum, hv]
    walk_at "st"
    simp only [ha, hvs.1]
    refine ⟨by first | lia | omega, _, LE.refl _, ?_, rfl⟩
    rw [List.length_append, List.length_singleton, List.take_succ, lens_get hBk, show (1 : Int) + (B[done.length].length : Int) = ((1 + B[done.length].length : Nat) : Int) from by first | lia | omega]
    exact natsV_snoc _ _
  rintro acc H8 ⟨rfl, rfl⟩ r0 hr0
  rw [natsV_length, List.length_range, List.take_of_length_le (by rw [lensN, List.length_map]; exact Nat.le_refl _)]
  walk_at "st"
  simp only [lk_same, natsV, asInts_ints]
  refine ⟨fits_nat (by rw [lensN_sum]; first | lia | omega), ?_⟩
  rw [nat_sum, lensN_sum]
  refine S_cons ?_
  have x8 := Ext.new hr0 (.list (intsV ((lensN B).map fun k : Nat => (k : Int))))
  generalize upd H8 r0 (.list (intsV ((lensN B).map fun k : Nat => (k : Int)))) = H9 at x8
  have x69 := x7.trans x8
  have e9 := x69.le _ _ e6
  have hta9 := hta6.imp fun _ _ q => q.ext x69
  have hpr9 := x8.le _ _ hpr
  walk_at "st"
  simp only [lk_of e9, htvl]
  refine ⟨by first | lia | omega, by rw [htvl]; first | lia | omega, fun d2 acc H' => All2 (ThAt cx H') acc ((ts.take d2.length).map (plt B)) ∧ Ext cx H9 H', ⟨All2.nil, Ext.refl _ _⟩, fun _ _ _ q => q.2.lk (lk_of e9), ?_, ?_⟩
  · rintro d2 y rest2 acc Ha e2 ⟨hac, xa⟩
    obtain ⟨t, ht, b, rfl, hb⟩ := hta9.get (i := d2.length) (x := y) (by rw [e2]; simp)
    walk_at "st"
    refine hha _ _ B t _ _ (xa.lk hb) (xa.le _ _ hpr9) (hok t (List.mem_of_getElem? ht)) fun u Hb xb hu => ⟨_, LE.refl _, ?_, xa.trans xb⟩
    rw [List.length_append, List.length_singleton, List.take_succ, ht, List.map_append]
    exact (hac.imp fun _ _ q => q.ext xb).snoc hu
  rintro due Ha ⟨hdue, xa⟩ dr hdr
  rw [htvl, List.take_length] at hdue
  refine S_cons ?_
  have xb := xa.new' hdr (.list due)
  have eb : (upd Ha dr (.list due)) dr = some (.list due) := upd_same _ _ _
  have hdueb : All2 (ThAt cx (upd Ha dr (.list due))) due (ts.map (plt B)) := hdue.imp fun _ _ q => q.ext (Ext.new hdr _)
  generalize upd Ha dr (.list due) = Hb at xb eb hdueb
  have hduel := hdueb.1
  rw [List.length_map] at hduel
  walk_at "st"
  simp only [lk_of eb, hduel]
  refine ⟨by first | lia | omega, fun hr hhr => S_cons ?_⟩
  have xc := xb.new' hhr (.list due)
  have ec : (upd Hb hr (.list due)) hr = some (.list due) := upd_same _ _ _
  have ebc := (Ext.new hhr (.list due)).le _ _ eb
  have hduec : All2 (ThAt cx (upd Hb hr (.list due))) due (ts.map (plt B)) := hdueb.imp fun _ _ q => q.ext (Ext.new hhr _)
  have hdhr : dr ≠ hr := hhr.ne' eb
  have xHb := x16.trans (x69.trans xb)
  have hhrH : Fresh cx H3 hr := xHb.fresh hhr
  generalize upd Hb hr (.list due) = Hc at xc ec ebc hduec
  have xHc := x16.trans (x69.trans xc)
  have Sc := S.ext xHc
  walk_at "st"
  have e7c := xc.le _ _ e9
  refine ⟨Sc.R.no fun _ _ => rfl, hmd _ _ _ _ _ B due ts _ _ Sc.R (lk_of ec) hduec hok (by first | lia | omega) (fun hov => ?_) fun hfit ra' Hd Rd hraf bd kd => ?_⟩
  · refine ⟨rfl, ?_⟩
    walk_at "st"
    simp only [lk_of e7c, htvl, lk_of Sc.t, st_len, st_2]
    walk_at "st"
    rw [show decide ((N : Int) < (pl B B.length : Int) + 1 + (ts.length : Int)) = true from decide_eq_true (by first | lia | omega)]
    walk_at "st"
    simp only [(cmp_ths (lk_of ec) (lk_of ebc) hduec hduec).2]
    exact ⟨by first | lia | omega, by decide, by decide, RQ.here (hQ _ _ _ _ _ Sc (by first | lia | omega) xHc.z)⟩
  have nd : ∀ {a : Addr} {o : O}, Hc a = some o → (∀ fs, o ≠ .flds fs) → Hd a = some o := fun q n => bd _ _ (fun z => by rw [z, Sc.R.d] at q; cases q; exact n _ rfl) q
  have do_ := nd Sc.o (by intro fs q; cases q)
  have dd := nd Sc.d (by intro fs q; cases q)
  have df := nd Sc.f (by intro fs q; cases q)
  have dp := nd Sc.p (by intro fs q; cases q)
  have dt := nd Sc.t (by intro fs q; cases q)
  have dth := nd e7c (by intro fs q; cases q)
  have dhr := nd ec (by intro fs q; cases q)
  have ddr := nd ebc (by intro fs q; cases q)
  have Gd : Go cx (fun a => a = dx) Hc Hd := ⟨fun a o n e => bd _ _ n e, kd, fun a vs q e => (by rw [q, Sc.R.d] at e; cases e), fun a l q e => Sc.z a l q (.inr (.inr (.inr (.inr (.inl e)))))⟩
  have dueD := hduec.imp fun _ _ q => Gd.th q
  have taD := (hta9.imp fun _ _ q => q.ext xc).imp fun _ _ q => Gd.th q
  refine S_cons ?_
  show mwpS cx n _ [.ref rm, .ref st, .int cell, .int seed, .ref oa, .ref da, .ref sr, .ref th, .ref pr, .int (pl B B.length : Int), .ref dr, .ref hr, .int (pl B B.length : Int), .unb] Hd _ _
  walk_at "st"
  simp only [(cmp_ths (lk_of dhr) (lk_of ddr) dueD dueD).1]
  walk_at "st"
  refine S_nil (S_cons ?_)
  walk_at "st"
  simp only [dhr]
  refine ⟨trivial, by simp, fun t7 ht7 => ?_⟩
  have n7h : hr ≠ t7 := ht7.ne' dhr
  simp only [upd_ne _ n7h, dhr, hduel]
  refine ⟨by first | lia | omega, S_cons ?_⟩
  have nra : ∀ {a : Addr} {o : O}, Hc a = some o → a ≠ ra' := fun q => hraf.ne' q
  have fH := S.fresh hthH
  have fhr := S.fresh hhrH
  have M0 : Mid cx C N rm st oa da fa pa dx ra ra' B ts th tv (natsV (List.range B.length)) [.int B.length] ps (enumV fl) H3 Hd :=
    ⟨fun a o n e => bd _ _ (fun q => n (.inr (.inr (.inr (.inr (.inl q)))))) (xHc.le _ _ e), KZ.trans xHc.z kd, Rd, dt, do_, dd, df, dp, dth, taD⟩
  have x7' := Ext.new ht7 (.tup [.str (Str.ofString "number"), .int 7])
  have e7' : (upd Hd t7 (.tup [.str (Str.ofString "number"), .int 7])) t7 = some (.tup [.str (Str.ofString "number"), .int 7]) := upd_same _ _ _
  have M1 := M0.ext x7'
  have dhr1 := x7'.le _ _ dhr
  have due1 := dueD.imp fun _ _ q => q.ext x7'
  generalize upd Hd t7 (.tup [.str (Str.ofString "number"), .int 7]) = He at x7' e7' M1 dhr1 due1
  have hthhr : hr ≠ th := fun q => by rw [q] at hhr; have := hhr.1; rw [xb.le _ _ e9] at this; cases this
  have M2 := M1.upd (v := .list (due ++ [.ref t7])) dhr1 (by intro vs q; cases q) (by intro a b q; cases q) (fun q => fhr (.inr (.inr (.inr (.inr (.inl q)))))) (nra ec) hthhr (.inr hhrH.1)
    (by rw [upd_ne _ (fun q => fhr (.inl q.symm))]; exact M1.o) (by rw [upd_ne _ (fun q => fhr (.inr (.inr (.inr (.inr (.inr q.symm))))))]; exact M1.d) (by rw [upd_ne _ (fun q => fhr (.inr (.inl q.symm)))]; exact M1.f) (by rw [upd_ne _ (fun q => fhr (.inr (.inr (.inl q.symm))))]; exact M1.p)
  have e2 : (upd He hr (.list (due ++ [.ref t7]))) hr = some (.list (due ++ [.ref t7])) := upd_same _ _ _
  have i2 : Items cx (upd He hr (.list (due ++ [.ref t7]))) (due ++ [.ref t7]) := fun u hu => by
    rcases List.mem_append.mp hu with q | q
    · exact (items_of due1 u q).imp id fun ⟨t, ht⟩ => ⟨t, ThAt.set dhr1 ht⟩
    · rw [List.mem_singleton] at q
      exact .inr ⟨(false, 7), ThAt.set dhr1 ⟨t7, q, lk_of e7'⟩⟩
  have dl2 : (due ++ [V.ref t7]).length ≤ 1001 := by simp; first | lia | omega
  generalize upd He hr (.list (due ++ [.ref t7])) = Hf at M2 e2 i2
  generalize due ++ [V.ref t7] = ws at e2 i2 dl2
  walk_at "st"
  simp only [lk_of M2.t, st_len, st_4]
  refine ⟨by decide, by decide, ?_⟩
  walk_at "st"
  simp only [M2.p, lk_of e2]
  refine ⟨trivial, by first | lia | omega, fun r1 hr1 => ⟨by simp, fun tb htb => ?_⟩⟩
  have x3 := (Ext.new hr1 (.list ws)).new' htb (.tup [.ref hr, .ref r1])
  have e1' := (Ext.new htb (.tup [.ref hr, .ref r1])).lk (lk_same (cx := cx) (H := Hf) (r := r1) (o := .list ws))
  have et : lk cx (upd (upd Hf r1 (.list ws)) tb (.tup [.ref hr, .ref r1])) tb = some (.tup [.ref hr, .ref r1]) := lk_same
  generalize upd (upd Hf r1 (.list ws)) tb (.tup [.ref hr, .ref r1]) = Hg at x3 e1' et
  have M3 := M2.ext x3
  simp only [M3.p]
  refine ⟨by first | lia | omega, S_cons ?_⟩
  have ndx : ∀ {X : HP} {ol fv pv : List V} {dl : List (Int × V)} {a : Addr} {vs : List V}, Mid cx C N rm st oa da fa pa dx ra ra' B ts th tv ol fv pv dl H3 X → X a = some (.list vs) → a ≠ dx ∧ a ≠ da := fun M q => ⟨fun e => (by rw [e, M.R.d] at q; cases q), fun e => (by rw [e, M.d] at q; cases q)⟩
  have nth : ∀ {a : Addr}, MM oa fa pa ra dx da a → a ≠ th := fun q e => fH (e ▸ q)
  have hr1M : ∀ a, MM oa fa pa ra dx da a → a ≠ ra → r1 ≠ a := by
    rintro a (q | q | q | q | q | q) n <;> subst q
    · exact Ne.symm (hr1.ne' M2.o)
    · exact Ne.symm (hr1.ne' M2.f)
    · exact Ne.symm (hr1.ne' M2.p)
    · exact absurd rfl n
    · exact Ne.symm (hr1.ne' M2.R.d)
    · exact Ne.symm (hr1.ne' M2.d)
  have M4 := M3.upd (v := .list (ps ++ [.ref tb])) M3.p (by intro vs q; cases q) (by intro a b q; cases q) (ndx M3 M3.p).1 (nra Sc.p) (nth (.inr (.inr (.inl rfl)))) (.inl (.inr (.inr (.inl rfl))))
    (by rw [upd_ne _ S.n2]; exact M3.o) (by rw [upd_ne _ (Ne.symm (ndx M3 M3.p).2)]; exact M3.d) (by rw [upd_ne _ S.n4]; exact M3.f) (upd_same _ _ _)
  have et4 : lk cx (upd Hg pa (.list (ps ++ [.ref tb]))) tb = some (.tup [.ref hr, .ref r1]) := by rw [lk_ne (fun q => by rw [q, lk_of M3.p] at et; cases et)]; exact et
  have eh4 : lk cx (upd Hg pa (.list (ps ++ [.ref tb]))) hr = some (.list ws) := by rw [lk_ne (fun q => fhr (.inr (.inr (.inl q))))]; exact x3.lk (lk_of e2)
  have er4 : lk cx (upd Hg pa (.list (ps ++ [.ref tb]))) r1 = some (.list ws) := by rw [lk_ne (hr1M _ (.inr (.inr (.inl rfl))) S.n6)]; exact e1'
  have i4 : Items cx (upd Hg pa (.list (ps ++ [.ref tb]))) ws := (i2.ext fun _ _ => ThAt.ext x3).ext fun _ _ q => ThAt.set M3.p q
  generalize upd Hg pa (.list (ps ++ [.ref tb])) = Hh at M4 et4 eh4 er4 i4
  walk_at "st"
  simp only [lk_of M4.th, htvl, lk_of M4.t, st_len, st_2]
  walk_at "st"
  rw [show decide ((N : Int) < (pl B B.length : Int) + 1 + (ts.length : Int)) = false from decide_eq_false (by first | lia | omega)]
  walk_at "st"
  refine ⟨by first | lia | omega, by decide, by decide, hint _ _ _ ?_⟩
  walk_at "st"
  refine S_nil (S_cons ?_)
  walk_at "st"
  simp only [lk_of M4.t, st_len, st_3]
  refine ⟨by decide, by decide, ?_⟩
  walk_at "st"
  simp only [lk_of M4.f, List.length_singleton, show ∀ x : V, ([x] : List V)[Int.toNat 0]? = some x from fun _ => rfl]
  refine ⟨by decide, by decide, S_cons ?_⟩
  walk_at "st"
  simp only [lk_of M4.t, st_len, st_3]
  refine ⟨by decide, by decide, ?_⟩
  walk_at "st"
  simp only [M4.f, List.length_singleton, show ∀ x y : V, ([x] : List V).set (Int.toNat 0) y = [y] from fun _ _ => rfl]
  refine ⟨by decide, by decide, by decide, S_cons ?_⟩
  rw [show (B.length : Int) + 1 = (((B ++ [ts]).length : Nat) : Int) from by simp]
  have M5 := M4.upd (v := .list [.int ((B ++ [ts]).length : Nat)]) M4.f (by intro vs q; cases q) (by intro a b q; cases q) (ndx M4 M4.f).1 (nra Sc.f) (nth (.inr (.inl rfl))) (.inl (.inr (.inl rfl)))
    (by rw [upd_ne _ S.n1]; exact M4.o) (by rw [upd_ne _ (Ne.symm (ndx M4 M4.f).2)]; exact M4.d) (upd_same _ _ _) (by rw [upd_ne _ (Ne.symm S.n4)]; exact M4.p)
  have et5 : lk cx (upd Hh fa (.list [.int ((B ++ [ts]).length : Nat)])) tb = some (.tup [.ref hr, .ref r1]) := by rw [lk_ne (fun q => by rw [q, lk_of M4.f] at et4; cases et4)]; exact et4
  have eh5 : lk cx (upd Hh fa (.list [.int ((B ++ [ts]).length : Nat)])) hr = some (.list ws) := by rw [lk_ne (fun q => fhr (.inr (.inl q)))]; exact eh4
  have er5 : lk cx (upd Hh fa (.list [.int ((B ++ [ts]).length : Nat)])) r1 = some (.list ws) := by rw [lk_ne (hr1M _ (.inr (.inl rfl)) S.n5)]; exact er4
  have i5 : Items cx (upd Hh fa (.list [.int ((B ++ [ts]).length : Nat)])) ws := i4.ext fun _ _ q => ThAt.set M4.f q
  generalize upd Hh fa (.list [.int ((B ++ [ts]).length : Nat)]) = Hi at M5 et5 eh5 er5 i5
  walk_at "st"
  simp only [M5.o, natsV_length, List.length_range]
  rw [natsV_snoc, ← List.range_succ]
  refine ⟨trivial, by first | lia | omega, S_cons ?_⟩
  have M6 := M5.upd (v := .list (natsV (List.range (B.length + 1)))) M5.o (by intro vs q; cases q) (by intro a b q; cases q) (ndx M5 M5.o).1 (nra Sc.o) (nth (.inl rfl)) (.inl (.inl rfl))
    (upd_same _ _ _) (by rw [upd_ne _ (Ne.symm (ndx M5 M5.o).2)]; exact M5.d) (by rw [upd_ne _ (Ne.symm S.n1)]; exact M5.f) (by rw [upd_ne _ (Ne.symm S.n2)]; exact M5.p)
  have et6 : lk cx (upd Hi oa (.list (natsV (List.range (B.length + 1))))) tb = some (.tup [.ref hr, .ref r1]) := by rw [lk_ne (fun q => by rw [q, lk_of M5.o] at et5; cases et5)]; exact et5
  have eh6 : lk cx (upd Hi oa (.list (natsV (List.range (B.length + 1))))) hr = some (.list ws) := by rw [lk_ne (fun q => fhr (.inl q))]; exact eh5
  have er6 : lk cx (upd Hi oa (.list (natsV (List.range (B.length + 1))))) r1 = some (.list ws) := by rw [lk_ne (hr1M _ (.inl rfl) S.n3)]; exact er5
  have i6 : Items cx (upd Hi oa (.list (natsV (List.range (B.length + 1))))) ws := i5.ext fun _ _ q => ThAt.set M5.o q
  generalize upd Hi oa (.list (natsV (List.range (B.length + 1)))) = Hj at M6 et6 eh6 er6 i6
  walk_at "st"
  have hfll : fl.length = B.length := S.A.1
  simp only [M6.d, enumV_length]
  have hput := putK_new fl (.ref th)
  rw [hfll] at hput
  rw [hput]
  refine ⟨by first | lia | omega, S_cons ?_⟩
  have hdno : ∀ {X : HP} {ol fv pv : List V} {dl : List (Int × V)} {a : Addr} {vs : List V}, Mid cx C N rm st oa da fa pa dx ra ra' B ts th tv ol fv pv dl H3 X → X a = some (.list vs) → a ≠ da := fun M q => (ndx M q).2
  have M7 := M6.upd (v := .dct (enumV (fl ++ [.ref th]))) M6.d (by intro vs q; cases q) (by intro a b q; cases q) (fun q => by have := M6.R.d; rw [← q, M6.d] at this; cases this) (nra Sc.d) (nth (.inr (.inr (.inr (.inr (.inr rfl)))))) (.inl (.inr (.inr (.inr (.inr (.inr rfl))))))
    (by rw [upd_ne _ (hdno M6 M6.o)]; exact M6.o) (upd_same _ _ _) (by rw [upd_ne _ (hdno M6 M6.f)]; exact M6.f) (by rw [upd_ne _ (hdno M6 M6.p)]; exact M6.p)
  have hP : PairM cx (MM oa fa pa ra' dx da) (upd Hj da (.dct (enumV (fl ++ [.ref th])))) (.ref tb) := by
    refine ⟨tb, hr, r1, ws, rfl, by rw [lk_ne (fun q => by rw [q, lk_of M6.d] at et6; cases et6)]; exact et6, by rw [lk_ne (fun q => by rw [q, lk_of M6.d] at eh6; cases eh6)]; exact eh6, by rw [lk_ne (fun q => by rw [q, lk_of M6.d] at er6; cases er6)]; exact er6, ?_, ?_, i6.ext fun v t ⟨b, q1, q2⟩ => ⟨b, q1, by rw [lk_ne (fun q => by rw [q, lk_of M6.d] at q2; cases q2)]; exact q2⟩⟩
    · rintro (q | q | q | q | q | q)
      · exact fhr (.inl q)
      · exact fhr (.inr (.inl q))
      · exact fhr (.inr (.inr (.inl q)))
      · exact nra ec q
      · exact fhr (.inr (.inr (.inr (.inr (.inl q)))))
      · exact fhr (.inr (.inr (.inr (.inr (.inr q)))))
    · rintro (q | q | q | q | q | q)
      · exact hr1M _ (.inl rfl) S.n3 q
      · exact hr1M _ (.inr (.inl rfl)) S.n5 q
      · exact hr1M _ (.inr (.inr (.inl rfl))) S.n6 q
      · exact hr1.ne' M2.R.r q.symm
      · exact hr1M _ (.inr (.inr (.inr (.inr (.inl rfl))))) S.R.nda q
      · exact hr1M _ (.inr (.inr (.inr (.inr (.inr rfl))))) (fun z => by have := S.d; rw [z, S.R.r] at this; cases this) q
  walk_at "st"
  refine RQ.here (hQ ra' (B ++ [ts]) (fl ++ [.ref th]) (ps ++ [.ref tb]) _ (S.made (H' := upd Hj da (.dct (enumV (fl ++ [.ref th])))) ⟨M7.kp, M7.kz, S.tup, S.z⟩ M7.R (xHc.fresh hraf) ?_ M7.d M7.f M7.p hthH (nra e7c) M7.th M7.A hP) (by simp) M7.kz)
  rw [List.length_append, List.length_singleton]; exact M7.o
noncomputable def LMadeSpec (cx : Cx) (C : Addr) (n : Nat) (g : Addr) : Prop := ∀ (N : Nat) (rm st oa da fa pa dx ra : Addr) (B : Bx) (fl ps : List V) (cell seed : Int) (H : HP) (Q : V → HP → Prop), StAt cx C N rm st oa da fa pa dx ra B fl ps H → ps.length ≤ 900 →
  (∀ ra' B' fl' ps' H', StAt cx C N rm st oa da fa pa dx ra' B' fl' ps' H' → ps'.length ≤ ps.length + 1 → KZ cx H H' → Q (.bool true) H') → CallP cx n g [.ref rm, .ref st, .int cell, .int seed] H Q
end
end Mine
end

section
namespace Mine
open PySem PyProof.Rows
section
variable {cx : Cx} {C rm st oa da fa pa dx ra : Addr} {N : Nat} {B : Bx} {fl ps : List V} {H H' H1 : HP} {n : Nat} {a b c r : Addr} {o o' : O} {Q : V → HP → Prop}
noncomputable def m_law_begun (f_law_at c_Room f_Room_init : Addr) : MSs :=
  (.cons (.assign 1 (.bin .Mod (.callf f_law_at (.cons (.loc 0) (.cons (.cint (0)) .nil))) (.cint (21))))
  (.cons (.assign 2 (.bin .Add (.bin .Add (.cint (1)) (.loc 1)) (.bin .Mod (.bin .Mod (.bin .Mult (.callf f_law_at (.cons (.loc 0) (.cons (.cint (0)) .nil))) (.cint (48271))) (.cint (999983))) (.cint (100)))))
  (.cons (.ite (.cmp (.bin .Mod (.bin .FloorDiv (.callf f_law_at (.cons (.loc 0) (.cons (.cint (0)) .nil))) (.cint (21))) (.cint (3))) .Eq (.cint (0))) (.cons (.assign 2 (.bin .Sub (.cint (400)) (.bin .Mod (.bin .Mod (.bin .Mult (.callf f_law_at (.cons (.loc 0) (.cons (.cint (0)) .nil))) (.cint (48271))) (.cint (999983))) (.cint (370)))))
    .nil) .nil)
  (.cons (.assign 3 (.done (0) (.bin .Mult (.list (.cons (.tup (.cons (.cstr (Str.ofString "number")) (.cons (.cint (0)) .nil))) .nil)) (.loc 1))))
  (.cons (.ret (.tup (.cons (.mk c_Room f_Room_init (.cons (.loc 2) (.cons (.loc 1) .nil))) (.cons (.tup (.cons (.list (.cons (.cint (0)) .nil)) (.cons (.loc 3) (.cons (.loc 2) (.cons (.list (.cons (.cint (1)) .nil)) (.cons (.list .nil) .nil)))))) .nil))))
  .nil)))))
theorem rep_one (m : Nat) (v : V) : (List.replicate m [v]).flatten = List.replicate m v := by
  induction m with
  | zero => rfl
  | succ m ih => rw [List.replicate_succ, List.replicate_succ, List.flatten_cons, ih]; rfl
theorem all2_rep {P : V → Th → Prop} {v : V} {t : Th} (h : P v t) : ∀ m, All2 P (List.replicate m v) (List.replicate m t)
  | 0 => All2.nil
  | m + 1 => by rw [List.replicate_succ', List.replicate_succ']; exact (all2_rep h m).snoc h
theorem begun_ms {f_law_at f_Room_init sa : Addr} {ns : List Int} (hn : 0 < n) (hi : InitSpec cx C (n - 1) f_Room_init) (hat : AtSpec cx n f_law_at sa ns) (hs : lk cx H sa = some (.list (intsV ns)))
    (hQ : ∀ N rm st oa da fa pa dx ra B fl tp H', StAt cx C N rm st oa da fa pa dx ra B fl [] H' → H' tp = some (.tup [.ref rm, .ref st]) → KZ cx H H' → Q (.ref tp) H') :
    mwpSs cx n (m_law_begun f_law_at C f_Room_init) [.ref sa, .unb, .unb, .unb] H (NQ Q) (RQ Q) := by
  refine S_cons ?_
  walk_at "st"
  refine hat _ _ _ hs (by decide) fun v0 _ => ?_
  walk_at "st"
  refine ⟨by decide, S_cons ?_⟩
  obtain ⟨b1, b2⟩ := fmod_pos_bounds v0 (b := 21) (by decide)
  rw [show v0.fmod 21 = ((v0.fmod 21).toNat : Int) from by first | lia | omega]
  generalize hd : (v0.fmod 21).toNat = d
  have hd20 : d ≤ 20 := by first | lia | omega
  walk_at "st"
  refine hat _ _ _ hs (by decide) fun v1 _ => ?_
  walk_at "st"
  obtain ⟨c1, c2⟩ := fmod_pos_bounds ((v1 * 48271).fmod 999983) (b := 100) (by decide)
  generalize ((v1 * 48271).fmod 999983).fmod 100 = x1 at c1 c2
  refine ⟨mulOk_r (by decide), by decide, by decide, S_cons ?_⟩
  have main : ∀ N : Nat, d + 1 ≤ N → N ≤ 400 → mwpSs cx n
      (.cons (.assign 3 (.done (0) (.bin .Mult (.list (.cons (.tup (.cons (.cstr (Str.ofString "number")) (.cons (.cint (0)) .nil))) .nil)) (.loc 1))))
      (.cons (.ret (.tup (.cons (.mk C f_Room_init (.cons (.loc 2) (.cons (.loc 1) .nil))) (.cons (.tup (.cons (.list (.cons (.cint (0)) .nil)) (.cons (.loc 3) (.cons (.loc 2) (.cons (.list (.cons (.cint (1)) .nil)) (.cons (.list .nil) .nil)))))) .nil))))
      .nil)) [.ref sa, .int d, .int N, .unb] H (NQ Q) (RQ Q) := by
    intro N hN1 hN4
    refine S_cons ?_
    walk_at "st"
    refine fun D hD => ⟨by simp, fun t ht => ⟨by simp, fun l1 hl1 => ?_⟩⟩
    simp only [lk_same, List.length_singleton, Int.toNat_natCast, rep_one]
    refine ⟨by first | lia | omega, by first | lia | omega, by first | lia | omega, fun l2 hl2 => ?_⟩
    have x2 := (((Ext.new hD (.dct [])).new' ht (.tup [V.str (Str.ofString "number"), V.int 0])).new' hl1 (.list [V.ref t])).new' hl2 (.list (List.replicate d (V.ref t)))
    have e1 : (upd (upd (upd (upd H D (.dct [])) t (.tup [V.str (Str.ofString "number"), V.int 0])) l1 (.list [V.ref t])) l2 (.list (List.replicate d (V.ref t)))) D = some (.dct []) := (((Ext.new ht _).new' hl1 _).new' hl2 _).le _ _ (upd_same _ _ _)
    have e2 : (upd (upd (upd (upd H D (.dct [])) t (.tup [V.str (Str.ofString "number"), V.int 0])) l1 (.list [V.ref t])) l2 (.list (List.replicate d (V.ref t)))) t = some (.tup (thV (false, 0))) := ((Ext.new hl1 _).new' hl2 _).le _ _ (upd_same _ _ _)
    have e3 : (upd (upd (upd (upd H D (.dct [])) t (.tup [V.str (Str.ofString "number"), V.int 0])) l1 (.list [V.ref t])) l2 (.list (List.replicate d (V.ref t)))) l2 = some (.list (List.replicate d (V.ref t))) := upd_same _ _ _
    generalize upd (upd (upd (upd H D (.dct [])) t (.tup [V.str (Str.ofString "number"), V.int 0])) l1 (.list [V.ref t])) l2 (.list (List.replicate d (V.ref t))) = Ha at x2 e1 e2 e3
    refine ⟨e1, S_cons ?_⟩
    have n2 : l2 ≠ D := fun q => by rw [q, e1] at e3; cases e3
    have nt : t ≠ D := fun q => by rw [q, e1] at e2; cases e2
    have f1 : (upd Ha D (.dct [(0, .ref l2)])) D = some (.dct (enumV [.ref l2])) := upd_same _ _ _
    have f2 : (upd Ha D (.dct [(0, .ref l2)])) t = some (.tup (thV (false, 0))) := by rw [upd_ne _ nt]; exact e2
    have f3 : (upd Ha D (.dct [(0, .ref l2)])) l2 = some (.list (List.replicate d (V.ref t))) := by rw [upd_ne _ n2]; exact e3
    have kz : KZ cx H (upd Ha D (.dct [(0, .ref l2)])) := KZ.upd x2.z e1
    generalize upd Ha D (.dct [(0, .ref l2)]) = Hb at f1 f2 f3 kz
    walk_at "st"
    refine ⟨hn, fun dx hdx rm hrm => hi _ _ _ _ _ _ (upd_same _ _ _) ?_ hd20 hN1 hN4 fun ra H1 R hra bu kz1 => ⟨rfl, ⟨by simp, fun oa hoa => ⟨by simp, fun fa hfa => ⟨by simp, fun pa hpa => ⟨by simp, fun st hst => ⟨by simp, fun tp htp => RQ.here (hQ N rm st oa D fa pa dx ra [List.replicate d (false, 0)] [.ref l2] tp _ ?_ (upd_same _ _ _) ?_)⟩⟩⟩⟩⟩⟩⟩
    · rw [upd_ne _ (hrm.ne' (upd_same _ _ _)), upd_same]
    · have y0 := (Ext.new hdx (.flds [])).new' hrm (.inst C dx)
      have g1 := bu _ _ (hdx.ne' f1) (y0.le _ _ f1)
      have g2 := bu _ _ (hdx.ne' f2) (y0.le _ _ f2)
      have g3 := bu _ _ (hdx.ne' f3) (y0.le _ _ f3)
      have x5 := (((((Ext.new hoa (.list [V.int 0])).new' hfa (.list [V.int 1])).new' hpa (.list [])).new' hst (.tup [.ref oa, .ref D, .int N, .ref fa, .ref pa])).new' htp (.tup [.ref rm, .ref st])).le
      refine ⟨R.ext x5, (Ext.new htp _).le _ _ (upd_same _ _ _), ?_, x5 _ _ g1, ?_, ((Ext.new hst _).new' htp _).le _ _ (upd_same _ _ _), All2.nil.snoc ⟨l2, _, rfl, lk_of (x5 _ _ g3), all2_rep ⟨t, rfl, lk_of (x5 _ _ g2)⟩ d, ?_⟩, fun _ q => (nomatch q), ?_, ?_, ?_, ?_, ?_, ?_, ?_⟩
      · exact (((((Ext.new hfa _).new' hpa _).new' hst _).new' htp _)).le _ _ (upd_same _ _ _)
      · exact ((((Ext.new hpa _).new' hst _).new' htp _)).le _ _ (upd_same _ _ _)
      · rintro (q | q | q | q | q | q)
        · exact hoa.ne' g3 q
        · exact hfa.ne' ((Ext.new hoa _).le _ _ g3) q
        · exact hpa.ne' (((Ext.new hoa _).new' hfa _).le _ _ g3) q
        · exact hra.ne' (y0.le _ _ f3) q
        · exact hdx.ne' f3 q
        · exact n2 q
      · exact hfa.ne' (upd_same _ _ _)
      · exact hpa.ne' ((Ext.new hfa _).le _ _ (upd_same _ _ _))
      · exact Ne.symm (hoa.ne' R.r)
      · exact hpa.ne' (upd_same _ _ _)
      · exact Ne.symm (hfa.ne' ((Ext.new hoa _).le _ _ R.r))
      · exact Ne.symm (hpa.ne' (((Ext.new hoa _).new' hfa _).le _ _ R.r))
      · rintro a l e (q | q | q | q | q | q) <;> rw [q] at e
        · rw [hoa.2.2] at e; cases e
        · rw [hfa.2.2] at e; cases e
        · rw [hpa.2.2] at e; cases e
        · rw [hra.2.2] at e; cases e
        · rw [hdx.2.2] at e; cases e
        · rw [hD.2.2] at e; cases e
    · exact ((kz.trans ((Ext.new hdx _).new' hrm _).z).trans kz1).trans (((((Ext.new hoa _).new' hfa _).new' hpa _).new' hst _).new' htp _).z
  walk_at "st"
  refine hat _ _ _ hs (by decide) fun v2 _ => ?_
  walk_at "st"
  refine ⟨by decide, by decide, fun _ => S_cons ?_, fun _ => S_nil ?_⟩
  · walk_at "st"
    refine hat _ _ _ hs (by decide) fun v3 _ => ?_
    walk_at "st"
    obtain ⟨e1, e2⟩ := fmod_pos_bounds ((v3 * 48271).fmod 999983) (b := 370) (by decide)
    generalize ((v3 * 48271).fmod 999983).fmod 370 = x3 at e1 e2
    refine ⟨mulOk_r (by decide), by decide, by decide, S_nil ?_⟩
    rw [show (400 : Int) - x3 = ((400 - x3).toNat : Int) from by first | lia | omega]
    exact main _ (by first | lia | omega) (by first | lia | omega)
  · rw [show (1 : Int) + (d : Int) + x1 = ((1 + (d : Int) + x1).toNat : Int) from by first | lia | omega]
    exact main _ (by first | lia | omega) (by first | lia | omega)
noncomputable def BegunSpec (cx : Cx) (C : Addr) (n : Nat) (g sa : Addr) (ns : List Int) : Prop := ∀ (H : HP) (Q : V → HP → Prop), lk cx H sa = some (.list (intsV ns)) →
  (∀ N rm st oa da fa pa dx ra B fl tp H', StAt cx C N rm st oa da fa pa dx ra B fl [] H' → H' tp = some (.tup [.ref rm, .ref st]) → KZ cx H H' → Q (.ref tp) H') → CallP cx n g [.ref sa] H Q
end
end Mine
end

section
namespace Mine
open PySem PyProof.Rows
section
variable {cx : Cx} {C rm st oa da fa pa dx ra : Addr} {N : Nat} {B : Bx} {fl ps : List V} {H H' H1 : HP} {n : Nat} {a b c r : Addr} {o o' : O} {Q : V → HP → Prop}
noncomputable def m_law7 (f_law_begun f_law_stands f_law_made f_law_put : Addr) : MSs :=
  (.cons (.assign 1 (.callf f_law_begun (.cons (.loc 0) .nil)))
  (.cons (.assign 2 (.sub (.loc 1) (.cint (0))))
  (.cons (.assign 3 (.sub (.loc 1) (.cint (1))))
  (.cons (.ite (.not (.callf f_law_stands (.cons (.loc 2) (.cons (.loc 3) .nil)))) (.cons (.ret (.cbool false))
    .nil) .nil)
  (.cons (.forR 4 (.cint (1)) (.callb .min (.cons (.cint (31)) (.cons (.callb .len (.cons (.loc 0) .nil)) .nil))) (.cons (.assign 5 (.sub (.loc 0) (.loc 4)))
    (.cons (.assign 6 (.bin .Mod (.bin .Add (.bin .Mult (.loc 5) (.cint (48271))) (.bin .Mult (.cint (7919)) (.loc 4))) (.cint (999983))))
    (.cons (.ite (.bop .And (.cons (.cmp (.bin .Mod (.loc 5) (.cint (8))) .In (.tup (.cons (.cint (0)) (.cons (.cint (1)) (.cons (.cint (7)) .nil))))) (.cons (.not (.callf f_law_made (.cons (.loc 2) (.cons (.loc 3) (.cons (.loc 5) (.cons (.loc 6) .nil)))))) .nil))) (.cons (.ret (.cbool false))
      .nil) .nil)
    (.cons (.ite (.bop .And (.cons (.cmp (.bin .Mod (.loc 5) (.cint (8))) .In (.tup (.cons (.cint (2)) (.cons (.cint (3)) (.cons (.cint (4)) (.cons (.cint (5)) .nil)))))) (.cons (.not (.callf f_law_put (.cons (.loc 2) (.cons (.loc 3) (.cons (.loc 6) .nil))))) .nil))) (.cons (.ret (.cbool false))
      .nil) .nil)
    (.cons (.ite (.bop .And (.cons (.cmp (.bin .Mod (.loc 4) (.cint (6))) .Eq (.cint (2))) (.cons (.not (.callf f_law_stands (.cons (.loc 2) (.cons (.loc 3) .nil)))) .nil))) (.cons (.ret (.cbool false))
      .nil) .nil)
    .nil))))))
  (.cons (.ret (.callf f_law_stands (.cons (.loc 2) (.cons (.loc 3) .nil))))
  .nil))))))
noncomputable def m_link_word : MSs :=
  (.cons (.ret (.bin .Add (.bin .Mult (.cint (2)) (.loc 0)) (.cint (1))))
  .nil)
theorem link_ms {p : Int} (h : Q (.int (2 * p + 1)) H) : mwpSs cx n m_link_word [.int p] H (NQ Q) (RQ Q) := by
  refine S_cons ?_
  walk_at "st"
  exact ⟨mulOk_l (by decide), RQ.here h⟩
theorem rng1_item {m : Int} {done rest : List V} {x : V} (e : intsV (rangeL 1 m) = done ++ x :: rest) : x = .int (1 + (done.length : Int)) ∧ 1 + (done.length : Int) < m := by
  have hx : (intsV (rangeL 1 m))[done.length]? = some x := by rw [e]; simp
  have hl : done.length < (m - 1).toNat := by
    have := congrArg List.length e
    simp [intsV, rangeL] at this; omega
  rw [ints_get?, rangeL, List.getElem?_map, List.getElem?_range hl] at hx
  simp at hx
  exact ⟨hx.symm, by omega⟩
theorem rng1_len (m : Int) : (intsV (rangeL 1 m)).length = (m - 1).toNat := by simp [intsV, rangeL]
theorem asInts3 (x y z : Int) : asInts [.int x, .int y, .int z] = some [x, y, z] := rfl
theorem asInts4 (x y z u : Int) : asInts [.int x, .int y, .int z, .int u] = some [x, y, z, u] := rfl
theorem turn7 {f_law_stands f_law_made f_law_put sa tp : Addr} {k v sd : Int} {L : Nat} {NN : List V → HP → Prop} {RR : V → HP → Prop} (hsd : StandsSpec cx C n f_law_stands) (hmd : LMadeSpec cx C n f_law_made) (hpt : LPutSpec cx C n f_law_put)
    (S3 : StAt cx C N rm st oa da fa pa dx ra B fl ps H1) (hl3 : ps.length ≤ L) (hL : L ≤ 890) (kz3 : KZ cx H H1)
    (fin : ∀ ra B fl ps H', StAt cx C N rm st oa da fa pa dx ra B fl ps H' → ps.length ≤ L + 7 → KZ cx H H' → NN [.ref sa, .ref tp, .ref rm, .ref st, .int k, .int v, .int sd] H') :
    mwpSs cx n (.cons (.ite (.bop .And (.cons (.cmp (.bin .Mod (.loc 5) (.cint (8))) .In (.tup (.cons (.cint (0)) (.cons (.cint (1)) (.cons (.cint (7)) .nil))))) (.cons (.not (.callf f_law_made (.cons (.loc 2) (.cons (.loc 3) (.cons (.loc 5) (.cons (.loc 6) .nil)))))) .nil))) (.cons (.ret (.cbool false)) .nil) .nil)
    (.cons (.ite (.bop .And (.cons (.cmp (.bin .Mod (.loc 5) (.cint (8))) .In (.tup (.cons (.cint (2)) (.cons (.cint (3)) (.cons (.cint (4)) (.cons (.cint (5)) .nil)))))) (.cons (.not (.callf f_law_put (.cons (.loc 2) (.cons (.loc 3) (.cons (.loc 6) .nil))))) .nil))) (.cons (.ret (.cbool false)) .nil) .nil)
    (.cons (.ite (.bop .And (.cons (.cmp (.bin .Mod (.loc 4) (.cint (6))) .Eq (.cint (2))) (.cons (.not (.callf f_law_stands (.cons (.loc 2) (.cons (.loc 3) .nil)))) .nil))) (.cons (.ret (.cbool false)) .nil) .nil) .nil))) [.ref sa, .ref tp, .ref rm, .ref st, .int k, .int v, .int sd] H1 NN RR := by
  have part3 : ∀ ra B fl ps H', StAt cx C N rm st oa da fa pa dx ra B fl ps H' → ps.length ≤ L + 1 → KZ cx H H' → mwpSs cx n (.cons (.ite (.bop .And (.cons (.cmp (.bin .Mod (.loc 4) (.cint (6))) .Eq (.cint (2))) (.cons (.not (.callf f_law_stands (.cons (.loc 2) (.cons (.loc 3) .nil)))) .nil))) (.cons (.ret (.cbool false)) .nil) .nil) .nil) [V.ref sa, .ref tp, .ref rm, .ref st, .int k, .int v, .int sd] H' NN RR := by
    intro ra B fl ps H' S l kz
    refine S_cons ?_
    walk_at "st"
    generalize (k.fmod 6 == 2) = c
    refine ⟨by decide, ?_⟩
    cases c
    · walk_at "st"
      exact S_nil (S_nil (fin _ _ _ _ _ S (by first | lia | omega) kz))
    · walk_at "st"
      refine hsd _ _ _ _ _ _ _ _ _ _ _ _ _ _ S (by first | lia | omega) fun ps4 H4 S4 hl4 kz4 => ?_
      walk_at "st"
      exact S_nil (S_nil (fin _ _ _ _ _ S4 (by first | lia | omega) (KZ.trans kz kz4)))
  have part2 : ∀ ra B fl ps H', StAt cx C N rm st oa da fa pa dx ra B fl ps H' → ps.length ≤ L + 1 → KZ cx H H' → mwpSs cx n (.cons (.ite (.bop .And (.cons (.cmp (.bin .Mod (.loc 5) (.cint (8))) .In (.tup (.cons (.cint (2)) (.cons (.cint (3)) (.cons (.cint (4)) (.cons (.cint (5)) .nil)))))) (.cons (.not (.callf f_law_put (.cons (.loc 2) (.cons (.loc 3) (.cons (.loc 6) .nil))))) .nil))) (.cons (.ret (.cbool false)) .nil) .nil)
    (.cons (.ite (.bop .And (.cons (.cmp (.bin .Mod (.loc 4) (.cint (6))) .Eq (.cint (2))) (.cons (.not (.callf f_law_stands (.cons (.loc 2) (.cons (.loc 3) .nil)))) .nil))) (.cons (.ret (.cbool false)) .nil) .nil) .nil)) [V.ref sa, .ref tp, .ref rm, .ref st, .int k, .int v, .int sd] H' NN RR := by
    intro ra B fl ps H' S l kz
    refine S_cons ?_
    walk_at "st"
    refine ⟨by decide, by simp, fun tq htq => ?_⟩
    simp only [lk_same, Option.bind_some, asInts4, Option.map_some]
    have S' := S.ext (Ext.new htq (.tup [V.int 2, .int 3, .int 4, .int 5]))
    have k' := KZ.trans kz (Ext.new htq (.tup [V.int 2, .int 3, .int 4, .int 5])).z
    generalize upd H' tq (.tup [V.int 2, .int 3, .int 4, .int 5]) = H5 at S' k'
    generalize [(2 : Int), 3, 4, 5].contains (v.fmod 8) = c
    cases c
    · walk_at "st"
      exact S_nil (part3 _ _ _ _ _ S' l k')
    · walk_at "st"
      refine hpt _ _ _ _ _ _ _ _ _ _ _ _ _ _ _ S' fun B4 fl4 H4 S4 kz4 => ?_
      walk_at "st"
      exact S_nil (part3 _ _ _ _ _ S4 l (KZ.trans k' kz4))
  refine S_cons ?_
  walk_at "st"
  refine ⟨by decide, by simp, fun tq htq => ?_⟩
  simp only [lk_same, Option.bind_some, asInts3, Option.map_some]
  have S' := S3.ext (Ext.new htq (.tup [V.int 0, .int 1, .int 7]))
  have k' := KZ.trans kz3 (Ext.new htq (.tup [V.int 0, .int 1, .int 7])).z
  generalize upd H1 tq (.tup [V.int 0, .int 1, .int 7]) = H5 at S' k'
  generalize [(0 : Int), 1, 7].contains (v.fmod 8) = c
  cases c
  · walk_at "st"
    exact S_nil (part2 _ _ _ _ _ S' (by first | lia | omega) k')
  · walk_at "st"
    refine hmd _ _ _ _ _ _ _ _ _ _ _ _ _ _ _ _ S' (by first | lia | omega) fun ra4 B4 fl4 ps4 H4 S4 hl4 kz4 => ?_
    walk_at "st"
    exact S_nil (part2 _ _ _ _ _ S4 (by first | lia | omega) (KZ.trans k' kz4))
theorem law7_ms {f_law_begun f_law_stands f_law_made f_law_put sa : Addr} {ns : List Int} (hbg : BegunSpec cx C n f_law_begun sa ns) (hsd : StandsSpec cx C n f_law_stands) (hmd : LMadeSpec cx C n f_law_made) (hpt : LPutSpec cx C n f_law_put)
    (hz : cx.Z sa = some (intsV ns)) (h0 : H sa = none) (hlen : ns.length ≤ 1000) (hQ : ∀ H', Q (.bool true) H') :
    mwpSs cx n (m_law7 f_law_begun f_law_stands f_law_made f_law_put) [.ref sa, .unb, .unb, .unb, .unb, .unb, .unb] H (NQ Q) (RQ Q) := by
  have hs : lk cx H sa = some (.list (intsV ns)) := ((KZ.refl cx H).lk h0 hz).2
  refine S_cons ?_
  walk_at "st"
  refine hbg _ _ hs fun N rm st oa da fa pa dx ra B fl tp H1 S1 htp kz1 => S_cons ?_
  walk_at "st"
  simp only [lk_of htp, pr_len, pr_0]
  refine ⟨by decide, by decide, S_cons ?_⟩
  walk_at "st"
  simp only [lk_of htp, pr_len, pr_1]
  refine ⟨by decide, by decide, S_cons ?_⟩
  walk_at "st"
  refine hsd _ _ _ _ _ _ _ _ _ _ _ _ _ _ S1 (by simp) fun ps2 H2 S2 hl2 kz2 => ?_
  walk_at "st"
  refine S_nil (S_cons ?_)
  have kz2 := KZ.trans kz1 kz2
  obtain ⟨h02, hs2⟩ := kz2.lk h0 hz
  walk_at "st"
  simp only [hs2, ints_length]
  refine ⟨by first | lia | omega, ?_⟩
  have hm : (if (ns.length : Int) < 31 then (ns.length : Int) else 31) ≤ 31 ∧ (if (ns.length : Int) < 31 then (ns.length : Int) else 31) ≤ (ns.length : Int) ∧ 0 ≤ (if (ns.length : Int) < 31 then (ns.length : Int) else 31) := by split <;> omega
  generalize (if (ns.length : Int) < 31 then (ns.length : Int) else 31) = m at hm
  refine ⟨⟨by decide, by decide⟩, ⟨by first | lia | omega, by first | lia | omega⟩, fun done μ H' => ∃ ra B fl ps z4 z5 z6, μ = [.ref sa, .ref tp, .ref rm, .ref st, z4, z5, z6] ∧ StAt cx C N rm st oa da fa pa dx ra B fl ps H' ∧ ps.length ≤ 6 + 7 * done.length ∧ KZ cx H H', ⟨ra, _, _, _, _, _, _, rfl, S2, by rw [hl2]; simp, kz2⟩, fun _ _ _ _ => trivial, ?_, ?_⟩
  · rintro done x rest μ H3 e ⟨ra3, B3, fl3, ps3, z4, z5, z6, rfl, S3, hl3, kz3⟩
    obtain ⟨rfl, hx2⟩ := rng1_item e
    obtain ⟨h03, hs3⟩ := kz3.lk h0 hz
    have hv : ns[1 + done.length]? = some (ns[1 + done.length]'(by omega)) := List.getElem?_eq_getElem _
    generalize ns[1 + done.length]'(by omega) = v at hv
    rw [show (1 : Int) + (done.length : Int) = ((1 + done.length : Nat) : Int) from by first | lia | omega]
    refine S_cons ?_
    walk_at "st"
    simp only [hs3, ints_length, ints_get?, Int.toNat_natCast, hv, Option.map_some]
    refine ⟨by first | lia | omega, by first | lia | omega, S_cons ?_⟩
    walk_at "st"
    refine ⟨mulOk_r (by decide), mulOk_l (by decide), by decide, ?_⟩
    refine turn7 (L := 6 + 7 * done.length) hsd hmd hpt S3 hl3 (by first | lia | omega) kz3 fun ra B fl ps H' S l k => ⟨_, LE.refl _, ra, B, fl, ps, _, _, _, rfl, S, by rw [List.length_append, List.length_singleton]; first | lia | omega, k⟩
  rintro μ H3 ⟨ra3, B3, fl3, ps3, z4, z5, z6, rfl, S3, hl3, kz3⟩
  rw [rng1_len] at hl3
  refine S_cons ?_
  walk_at "st"
  exact hsd _ _ _ _ _ _ _ _ _ _ _ _ _ _ S3 (by first | lia | omega) fun ps4 H4 S4 hl4 kz4 => RQ.here (hQ _)
end
end Mine
end

section
open PySem PySem.W PyProof.Rows
namespace Mine

noncomputable def fdAt (K : Frag) (f : Addr) : FuncData := match K.lookup f with
  | some ⟨_, _, .func fd, _⟩ => fd
  | _ => default
noncomputable def bodyOf (fd : FuncData) : List Stmt := match fd.body with
  | .stmts b => b
  | _ => []
noncomputable def codeOk (K : Frag) (fd : FuncData) : Bool := match fd.code with
  | .ref c => match K.lookup c with
    | some ⟨_, _, .fields vs, _⟩ => match (vs[1]? : Option Value) with
      | some (.str q _) => q == fd.qualname
      | _ => false
    | _ => false
  | _ => false
noncomputable def isStmts (fd : FuncData) : Bool := match fd.body with
  | .stmts _ => true
  | _ => false
noncomputable def isFunc (K : Frag) (f : Addr) : Bool := match K.lookup f with
  | some ⟨_, _, .func _, _⟩ => true
  | _ => false
noncomputable def defOk (K : Frag) (f : Addr) : Bool := isFunc K f && Nat.beq (fdAt K f).globals mainGlobals && Nat.beq (fdAt K f).builtins builtinsNs && (fdAt K f).closure.isEmpty && codeOk K (fdAt K f) && isStmts (fdAt K f) &&
  decide ((fdAt K f).scope.kind = .function) && !(fdAt K f).scope.isCoroutine && !(fdAt K f).scope.isGenerator

theorem def_of {cx : Cx} {K : Frag} (X : K.In cx.base) {f : Addr} (h : defOk K f = true) (ps : List Str) (hb : ∀ vs : List Value, vs.length = ps.length → bindArgs (fdAt K f) ⟨vs, []⟩ = pure (ps.zip vs)) :
    Def cx f ps (bodyOf (fdAt K f)) (fdAt K f).scope := by
  simp only [defOk, Bool.and_eq_true, Bool.not_eq_true', decide_eq_true_eq] at h
  obtain ⟨⟨⟨⟨⟨⟨⟨⟨h1, h2⟩, h3⟩, h4⟩, h5⟩, h6⟩, h7⟩, h8⟩, h9⟩ := h
  refine ⟨?_, h7, h8, h9⟩
  unfold isFunc at h1
  split at h1
  · rename_i c d fd sl e
    have efd : fdAt K f = fd := by unfold fdAt; rw [e]
    rw [efd] at h2 h3 h4 h5 h6 hb ⊢
    refine ⟨_, fd, X _ _ e, rfl, ?_, rfl, Nat.eq_of_beq_eq_true h2, Nat.eq_of_beq_eq_true h3, by simpa using h4, ?_, hb⟩
    · unfold isStmts at h6
      unfold bodyOf
      split at h6
      · rename_i q; rw [q]
      · cases h6
    · unfold codeOk at h5
      split at h5
      · rename_i cc ec
        split at h5
        · rename_i e2
          split at h5
          · rename_i q t e3
            rw [ec]
            exact ⟨cc, _, _, t, rfl, X _ _ e2, rfl, by rw [e3, eq_of_beq h5]⟩
          · cases h5
        · cases h5
      · cases h5
  · cases h1

noncomputable def GT := List (Str × Value)
noncomputable def GT.all (h : Heap) : List (Str × Value) → Prop
  | [] => True
  | (x, v) :: r => GlobAt h x v ∧ GT.all h r
theorem GT.at {h : Heap} : ∀ {l : List (Str × Value)}, GT.all h l → ∀ x v, l.lookup x = some v → GlobAt h x v
  | (y, w) :: r, a, x, v, e => by
    rw [List.lookup_cons] at e
    cases hb : x == y with
    | true => rw [hb] at e; cases e; rw [eq_of_beq hb]; exact a.1
    | false => rw [hb] at e; exact GT.at a.2 x v e

theorem glob_K {p : Program} {loose : List Str} {mean : ExcName → Option Value} {mg mb : Str → Option Value} {h : Heap} (T : Top p loose mean mg mb h) {K : Frag} (X : K.In h) {x : Str} {v : Value} (e : nsIn K mainGlobals x = some (some v)) : GlobAt h x v :=
  .inl ⟨mg, T.g, mg_of X T.g e⟩
theorem glob_B {p : Program} {loose : List Str} {mean : ExcName → Option Value} {mg mb : Str → Option Value} {h : Heap} (T : Top p loose mean mg mb h) {K : Frag} (X : K.In h) {x : Str} {v : Value} (e : nsIn K mainGlobals x = some none) (hv : bootBuiltins x = some v) (hn : x ≠ "__name__") : GlobAt h x v :=
  .inr ⟨mg, mb, T.g, mg_none_of X T.g e, T.b, (T.builtins x hn).trans hv⟩

theorem ints_of : ∀ {vs : List Value} {ns : List Int}, IntsAre vs ns → vs.map abs = intsV ns
  | _, _, .nil => rfl
  | _, _, .cons n t r => by simp only [List.map_cons, intsV, abs]; rw [ints_of r]; rfl

theorem law_good {l : OpenLaw} {cl : Str → Option Addr} {mean : ExcName → Option Value} {args : List WData} {s₁ s' : Shared} (hk : ∀ b o, s₁.heap.get? b = some o → s'.heap.get? b = some o) (hos : s'.os = s₁.os) (hg : s'.gens = #[]) :
    GoodWG l.row.claim cl mean args s₁ (.ok (.ret (.bool true))) s' :=
  GoodW.toG ⟨.inl ⟨.bool true, .bool true, [], rfl, raisesW_false (fun _ h => nomatch h), .bool true, postW_of (X := (true == true)) rfl (w_eq_bool (w_res rfl) w_lit) rfl, fun _ => ⟨.nil, fun _ h => nomatch h⟩⟩, hk, hos, hg⟩

theorem law_end {l : OpenLaw} {cl : Str → Option Addr} {mean : ExcName → Option Value} {args : List WData} {cx : Cx} {s₁ : Shared} (hb : cx.base = s₁.heap) (hg : s₁.gens = #[]) {f sa : Addr} {n : Nat} (hn : n ≤ 100)
    (h : CallP cx n f [.ref sa] (fun _ => none) fun v _ => v = .bool true) : codeAny (model cx.prog cx.w) callerA (.call (.ref f) ⟨[.ref sa], []⟩) (GoodWG l.row.claim cl mean args s₁) s₁ := by
  refine codeAny_mono (h callerA s₁ [.ref sa] ⟨⟨by show 1 + claimMargin + n < 850; unfold claimMargin; omega, by show 4 + 16 * n < 9000; omega, [], rfl⟩, rfl⟩ ⟨fun _ _ e => (nomatch e), fun b o e => by rw [hb] at e; exact e, fun _ _ e => (nomatch e)⟩ (fun l e => by cases e; exact fun e he => nomatch he) rfl) fun r s' hr => ?_
  obtain ⟨v, H', rfl, S, k, hv⟩ := hr
  have := abs_bool hv; subst this
  exact law_good (fun b o e => S.ext b o (by rw [hb]; exact e)) k.os (k.gens.trans hg)
end Mine
end

section
open PySem PySem.W PyProof.Rows
namespace Mine
noncomputable def bt : List (Str × Value) := [("len", .builtin "len"), ("list", .type "list"), ("int", .type "int"), ("tuple", .type "tuple"), ("bool", .type "bool"), ("isinstance", .builtin "isinstance"), ("range", .type "range"), ("min", .builtin "min"), ("sum", .builtin "sum")]
noncomputable def stdB : List (Str × BF) := [("len", .len), ("list", .list), ("min", .min), ("sum", .sum)]
noncomputable def stdT : List (Str × String) := [("int", "int"), ("list", "list"), ("tuple", "tuple"), ("bool", "bool")]
theorem script_obj {P : Params} {h : Heap} {sa : Addr} {vs : List Value} {ns : List Int} (hW : Well P h (.ref sa) (ofPy (PyData.list (ns.map PyData.int)))) (hL : h.IsList sa vs.toArray) (hI : IntsAre vs ns) : Rep h sa (.list (intsV ns)) := by
  generalize hd : ofPy (PyData.list (ns.map PyData.int)) = d at hW
  obtain ⟨o, ho, hc, k, hk⟩ := hL
  cases hW with
  | list e _ =>
    rw [ho] at e
    cases e
    simp only at hk
    cases hk
    exact ⟨_, _, ho, by simpa using ints_of hI⟩
  | _ => first | (rename_i e _; rw [ho] at e; cases e; simp at hc; done) | (rename_i e; rw [ho] at e; cases e; simp at hc; done) | (simp [ofPy] at hd)

theorem lookup_app {x : Str} {f : Addr} : ∀ {fns : List (Str × Addr)} {r : List (Str × Value)}, fns.lookup x = some f → (fns.map (fun p => (p.1, Value.ref p.2)) ++ r).lookup x = some (.ref f)
  | (y, g) :: l, r, e => by
    rw [List.lookup_cons] at e
    rw [List.map_cons, List.cons_append, List.lookup_cons]
    cases hb : x == y with
    | true => rw [hb] at e; cases e; rfl
    | false => rw [hb] at e; exact lookup_app e

noncomputable def isInt (i : Int) : Option Value → Bool
  | some (.int j _) => j == i
  | _ => false
theorem tbl_ok {cx : Cx} {K : Frag} (X : K.In cx.base) {fns : List (Str × Addr)} {r : List (Str × Value)} {bs : List (Str × BF)} {ts : List (Str × String)} {ats : List (Addr × Str)} {mts : List (Addr × Str × Addr)} {mks : List (Str × Addr × Addr)} {gis : List (Str × Int)} {exs : List (Str × Addr)} (hg : cx.gl = fun x => (fns.map (fun p => (p.1, Value.ref p.2)) ++ r).lookup x)
    (h1 : (fns.all fun p => isFunc K p.2) = true) (h2 : (bs.all fun p => decide ((fns.map (fun p => (p.1, Value.ref p.2)) ++ r).lookup p.1 = some p.2.val)) = true)
    (h3 : (ts.all fun p => decide ((fns.map (fun p => (p.1, Value.ref p.2)) ++ r).lookup p.1 = some (.type p.2))) = true)
    (h4 : (fns.map (fun p => (p.1, Value.ref p.2)) ++ r).lookup ("isinstance" : Str) = some (.builtin "isinstance")) (h5 : (fns.map (fun p => (p.1, Value.ref p.2)) ++ r).lookup ("range" : Str) = some (.type "range"))
    (h6 : (ats.all fun p => attrIn K p.1 p.2) = true) (h7 : (mts.all fun p => methIn K p.1 p.2.1 p.2.2) = true)
    (h8 : (mks.all fun p => decide ((fns.map (fun p => (p.1, Value.ref p.2)) ++ r).lookup p.1 = some (.ref p.2.1)) && mkIn K p.2.1 p.2.2) = true)
    (h9 : (gis.all fun p => isInt p.2 ((fns.map (fun p => (p.1, Value.ref p.2)) ++ r).lookup p.1)) = true)
    (h10 : (exs.all fun p => decide ((fns.map (fun p => (p.1, Value.ref p.2)) ++ r).lookup p.1 = some (.ref p.2))) = true) (h11 : ∀ p ∈ exs, ExcCls p.2 cx.base) : Tbl.OK cx ⟨fns, bs, ts, K, ats, mts, mks, gis, exs, false⟩ := by
  refine ⟨fun x f e => ⟨by rw [hg]; exact lookup_app e, ?_⟩, fun x b e => ?_, fun x b e => ?_, by rw [hg]; exact h4, by rw [hg]; exact h5, X, fun C x e => ?_, fun C x f e => ?_, fun x C f e => ?_, fun x i e => ?_, fun x C e => ⟨?_, h11 _ (lookup_mem e)⟩⟩
  · have := List.all_eq_true.mp h1 _ (lookup_mem e)
    unfold isFunc at this
    split at this
    · rename_i c d fd sl q
      exact ⟨_, fd, X _ _ q, rfl⟩
    · cases this
  · rw [hg]; exact of_decide_eq_true (List.all_eq_true.mp h2 _ (lookup_mem e))
  · rw [hg]; exact of_decide_eq_true (List.all_eq_true.mp h3 _ (lookup_mem e))
  · exact List.all_eq_true.mp h6 _ (List.contains_iff_mem.mp e)
  · exact List.all_eq_true.mp h7 _ (List.contains_iff_mem.mp e)
  · obtain ⟨a, b⟩ := band (List.all_eq_true.mp h8 _ (List.contains_iff_mem.mp e))
    exact ⟨by rw [hg]; exact of_decide_eq_true a, b⟩
  · have := List.all_eq_true.mp h9 _ (lookup_mem e)
    rw [hg]
    unfold isInt at this
    split at this
    · rename_i j t q
      exact ⟨t, q.trans (by rw [show j = i from beq_iff_eq.mp this])⟩
    · cases this
  · rw [hg]; exact of_decide_eq_true (List.all_eq_true.mp h10 _ (lookup_mem e))
theorem excls {p : Program} {loose : List Str} {mean : ExcName → Option Value} {mg mb : Str → Option Value} {h : Heap} (T : Top p loose mean mg mb h) {K : Frag} (X : K.In h) {x : Str} {C : Addr} (e : nsIn K mainGlobals x = some (some (.ref C))) (hs : specOf p x = some ("ValueError.__new__", bmV)) : ExcCls C h := by
  obtain ⟨D, O, _⟩ := T.ownAt hs
  have := (mg_of X T.g e).symm.trans O.bound
  cases this
  exact ⟨rfl, O.obj⟩

theorem len_succ {α : Type} {l : List α} {n : Nat} (h : l.length = n + 1) : ∃ a r, l = a :: r ∧ r.length = n := by
  cases l with
  | nil => cases h
  | cons a r => exact ⟨a, r, rfl, Nat.succ.inj h⟩
theorem arity1 {fd : FuncData} {p : Str} (h : ∀ a, bindArgs fd ⟨[a], []⟩ = pure [(p, a)]) (vs : List Value) (hl : vs.length = [p].length) : bindArgs fd ⟨vs, []⟩ = pure ([p].zip vs) := by
  obtain ⟨a, r, rfl, h1⟩ := len_succ hl; have := List.eq_nil_of_length_eq_zero h1; subst this; exact h a
theorem arity2 {fd : FuncData} {p q : Str} (h : ∀ a b, bindArgs fd ⟨[a, b], []⟩ = pure [(p, a), (q, b)]) (vs : List Value) (hl : vs.length = [p, q].length) : bindArgs fd ⟨vs, []⟩ = pure ([p, q].zip vs) := by
  obtain ⟨a, r, rfl, h1⟩ := len_succ hl; obtain ⟨b, r, rfl, h2⟩ := len_succ h1; have := List.eq_nil_of_length_eq_zero h2; subst this; exact h a b
theorem arity3 {fd : FuncData} {p q r : Str} (h : ∀ a b c, bindArgs fd ⟨[a, b, c], []⟩ = pure [(p, a), (q, b), (r, c)]) (vs : List Value) (hl : vs.length = [p, q, r].length) : bindArgs fd ⟨vs, []⟩ = pure ([p, q, r].zip vs) := by
  obtain ⟨a, r', rfl, h1⟩ := len_succ hl; obtain ⟨b, r', rfl, h2⟩ := len_succ h1; obtain ⟨c, r', rfl, h3⟩ := len_succ h2; have := List.eq_nil_of_length_eq_zero h3; subst this; exact h a b c
theorem cx_ok {pr : Program} {w : World} {s₁ : Shared} {p : Program} {loose : List Str} {mean : ExcName → Option Value} {mg mb : Str → Option Value} (T : Top p loose mean mg mb s₁.heap) (hseer : s₁.heap.NoSeer) {gl : List (Str × Value)} (hg : GT.all s₁.heap gl)
    {sa : Addr} {vs : List Value} {ns : List Int} (hW : Well w.params s₁.heap (.ref sa) (ofPy (PyData.list (ns.map PyData.int)))) (hL : s₁.heap.IsList sa vs.toArray) (hI : IntsAre vs ns) (ht : pr.given.tree = none) :
    Cx.OK ⟨pr, w, s₁.heap, fun a => if a = sa then some (intsV ns) else none, fun x => gl.lookup x⟩ := ⟨T.nolimit, hseer, ht, GT.at hg, fun a vs' e => by
    show Rep s₁.heap a (.list vs')
    have e' : (if a = sa then some (intsV ns) else none) = some vs' := e
    split at e'
    · rename_i h; subst h; cases e'; exact script_obj hW hL hI
    · cases e'⟩
end Mine
end

section
open PySem PySem.W PyProof.Rows
namespace Mine
theorem arity4 {fd : FuncData} {p q r t : Str} (h : ∀ a b c d, bindArgs fd ⟨[a, b, c, d], []⟩ = pure [(p, a), (q, b), (r, c), (t, d)]) (vs : List Value) (hl : vs.length = [p, q, r, t].length) : bindArgs fd ⟨vs, []⟩ = pure ([p, q, r, t].zip vs) := by
  obtain ⟨a, r', rfl, h1⟩ := len_succ hl; obtain ⟨b, r', rfl, h2⟩ := len_succ h1; obtain ⟨c, r', rfl, h3⟩ := len_succ h2; obtain ⟨d, r', rfl, h4⟩ := len_succ h3; have := List.eq_nil_of_length_eq_zero h4; subst this; exact h a b c d
end Mine
end

open PySem PySem.W PyProof.Rows
set_option maxRecDepth 100000
set_option maxHeartbeats 8000000
namespace Mine
noncomputable def clsI (i : Nat) : List Stmt := match PySem.Challenge.pw_uf060004_07.main.body[i]? with
  | some (.ClassDef _ _ _ b _ _ _ _ _ _ _) => b
  | _ => []
noncomputable def clsB : List Stmt := clsI 26
noncomputable def dP (i : Nat) : PySem.Arguments := match PySem.Challenge.pw_uf060004_07.main.body[i]? with
  | some (.FunctionDef _ x _ _ _ _ _ _ _ _) => x
  | _ => default
noncomputable def dPm (i : Nat) : PySem.Arguments := match clsB[i]? with
  | some (.FunctionDef _ x _ _ _ _ _ _ _ _) => x
  | _ => default
noncomputable def dB (i : Nat) : List Stmt := match PySem.Challenge.pw_uf060004_07.main.body[i]? with
  | some (.FunctionDef _ _ x _ _ _ _ _ _ _) => x
  | _ => []
noncomputable def dBm (i : Nat) : List Stmt := match clsB[i]? with
  | some (.FunctionDef _ _ x _ _ _ _ _ _ _) => x
  | _ => []
noncomputable def dS (i : Nat) : Scope := match PySem.Challenge.pw_uf060004_07.main.body[i]? with
  | some (.FunctionDef _ _ _ _ _ _ x _ _ _) => x
  | _ => default
noncomputable def dSm (i : Nat) : Scope := match clsB[i]? with
  | some (.FunctionDef _ _ _ _ _ _ x _ _ _) => x
  | _ => default
noncomputable def kk (P : PySem.Params) : Frag := [(3, { cls := PySem.Value.type "dict", data := PySem.Data.dict #[{ hash := PySem.PyData.keyHash P (PySem.Str.ofString "__name__"), key := PySem.Value.str (PySem.Str.ofString "__name__") 165, val := PySem.Value.str (PySem.Str.ofString "law_uf060004_07") 516 }, { hash := PySem.PyData.keyHash P (PySem.Str.ofString "__doc__"), key := PySem.Value.str (PySem.Str.ofString "__doc__") 166, val := PySem.Value.none }, { hash := PySem.PyData.keyHash P (PySem.Str.ofString "__package__"), key := PySem.Value.str (PySem.Str.ofString "__package__") 167, val := PySem.Value.none }, { hash := PySem.PyData.keyHash P (PySem.Str.ofString "__loader__"), key := PySem.Value.str (PySem.Str.ofString "__loader__") 168, val := PySem.Value.builtin "__main__.__loader__#opaque" }, { hash := PySem.PyData.keyHash P (PySem.Str.ofString "__spec__"), key := PySem.Value.str (PySem.Str.ofString "__spec__") 169, val := PySem.Value.none }, { hash := PySem.PyData.keyHash P (PySem.Str.ofString "__annotations__"), key := PySem.Value.str (PySem.Str.ofString "__annotations__") 170, val := PySem.Value.ref 6 }, { hash := PySem.PyData.keyHash P (PySem.Str.ofString "__builtins__"), key := PySem.Value.str (PySem.Str.ofString "__builtins__") 171, val := PySem.Value.ref 4 }, { hash := PySem.PyData.keyHash P (PySem.Str.ofString "__file__"), key := PySem.Value.str (PySem.Str.ofString "__file__") 173, val := PySem.Value.str (PySem.Str.ofString "/claim/cut.py") 172 }, { hash := PySem.PyData.keyHash P (PySem.Str.ofString "__cached__"), key := PySem.Value.str (PySem.Str.ofString "__cached__") 174, val := PySem.Value.none }, { hash := PySem.PyData.keyHash P (PySem.Str.ofString "_wall"), key := PySem.Value.str (PySem.Str.ofString "_wall") 193, val := PySem.Value.ref 21 }, { hash := PySem.PyData.keyHash P (PySem.Str.ofString "SlideError"), key := PySem.Value.str (PySem.Str.ofString "SlideError") 213, val := PySem.Value.ref 31 }, { hash := PySem.PyData.keyHash P (PySem.Str.ofString "BadSize"), key := PySem.Value.str (PySem.Str.ofString "BadSize") 229, val := PySem.Value.ref 44 }, { hash := PySem.PyData.keyHash P (PySem.Str.ofString "BadThing"), key := PySem.Value.str (PySem.Str.ofString "BadThing") 245, val := PySem.Value.ref 56 }, { hash := PySem.PyData.keyHash P (PySem.Str.ofString "NoBox"), key := PySem.Value.str (PySem.Str.ofString "NoBox") 261, val := PySem.Value.ref 68 }, { hash := PySem.PyData.keyHash P (PySem.Str.ofString "NoField"), key := PySem.Value.str (PySem.Str.ofString "NoField") 277, val := PySem.Value.ref 80 }, { hash := PySem.PyData.keyHash P (PySem.Str.ofString "NoRoom"), key := PySem.Value.str (PySem.Str.ofString "NoRoom") 293, val := PySem.Value.ref 92 }, { hash := PySem.PyData.keyHash P (PySem.Str.ofString "number_word"), key := PySem.Value.str (PySem.Str.ofString "number_word") 302, val := PySem.Value.ref 101 }, { hash := PySem.PyData.keyHash P (PySem.Str.ofString "link_word"), key := PySem.Value.str (PySem.Str.ofString "link_word") 309, val := PySem.Value.ref 108 }, { hash := PySem.PyData.keyHash P (PySem.Str.ofString "head_word"), key := PySem.Value.str (PySem.Str.ofString "head_word") 317, val := PySem.Value.ref 115 }, { hash := PySem.PyData.keyHash P (PySem.Str.ofString "is_link"), key := PySem.Value.str (PySem.Str.ofString "is_link") 324, val := PySem.Value.ref 122 }, { hash := PySem.PyData.keyHash P (PySem.Str.ofString "told_by"), key := PySem.Value.str (PySem.Str.ofString "told_by") 331, val := PySem.Value.ref 129 }, { hash := PySem.PyData.keyHash P (PySem.Str.ofString "fields_of"), key := PySem.Value.str (PySem.Str.ofString "fields_of") 338, val := PySem.Value.ref 136 }, { hash := PySem.PyData.keyHash P (PySem.Str.ofString "is_marked"), key := PySem.Value.str (PySem.Str.ofString "is_marked") 345, val := PySem.Value.ref 143 }, { hash := PySem.PyData.keyHash P (PySem.Str.ofString "heads"), key := PySem.Value.str (PySem.Str.ofString "heads") 357, val := PySem.Value.ref 150 }, { hash := PySem.PyData.keyHash P (PySem.Str.ofString "with_mark"), key := PySem.Value.str (PySem.Str.ofString "with_mark") 366, val := PySem.Value.ref 157 }, { hash := PySem.PyData.keyHash P (PySem.Str.ofString "marked"), key := PySem.Value.str (PySem.Str.ofString "marked") 378, val := PySem.Value.ref 164 }, { hash := PySem.PyData.keyHash P (PySem.Str.ofString "MOST_CELLS"), key := PySem.Value.str (PySem.Str.ofString "MOST_CELLS") 382, val := PySem.Value.int 400 381 }, { hash := PySem.PyData.keyHash P (PySem.Str.ofString "MOST_DOORS"), key := PySem.Value.str (PySem.Str.ofString "MOST_DOORS") 384, val := PySem.Value.int 20 383 }, { hash := PySem.PyData.keyHash P (PySem.Str.ofString "is_whole"), key := PySem.Value.str (PySem.Str.ofString "is_whole") 391, val := PySem.Value.ref 171 }, { hash := PySem.PyData.keyHash P (PySem.Str.ofString "need_things"), key := PySem.Value.str (PySem.Str.ofString "need_things") 399, val := PySem.Value.ref 178 }, { hash := PySem.PyData.keyHash P (PySem.Str.ofString "word_of"), key := PySem.Value.str (PySem.Str.ofString "word_of") 406, val := PySem.Value.ref 185 }, { hash := PySem.PyData.keyHash P (PySem.Str.ofString "Room"), key := PySem.Value.str (PySem.Str.ofString "Room") 515, val := PySem.Value.ref 268 }, { hash := PySem.PyData.keyHash P (PySem.Str.ofString "_law_at"), key := PySem.Value.str (PySem.Str.ofString "_law_at") 525, val := PySem.Value.ref 279 }, { hash := PySem.PyData.keyHash P (PySem.Str.ofString "_law_is_int"), key := PySem.Value.str (PySem.Str.ofString "_law_is_int") 532, val := PySem.Value.ref 286 }, { hash := PySem.PyData.keyHash P (PySem.Str.ofString "_law_words_are"), key := PySem.Value.str (PySem.Str.ofString "_law_words_are") 538, val := PySem.Value.ref 291 }, { hash := PySem.PyData.keyHash P (PySem.Str.ofString "_law_number"), key := PySem.Value.str (PySem.Str.ofString "_law_number") 545, val := PySem.Value.ref 298 }, { hash := PySem.PyData.keyHash P (PySem.Str.ofString "_law_places_of"), key := PySem.Value.str (PySem.Str.ofString "_law_places_of") 556, val := PySem.Value.ref 305 }, { hash := PySem.PyData.keyHash P (PySem.Str.ofString "_law_cells_of"), key := PySem.Value.str (PySem.Str.ofString "_law_cells_of") 569, val := PySem.Value.ref 312 }, { hash := PySem.PyData.keyHash P (PySem.Str.ofString "_law_thing"), key := PySem.Value.str (PySem.Str.ofString "_law_thing") 577, val := PySem.Value.ref 319 }, { hash := PySem.PyData.keyHash P (PySem.Str.ofString "_law_handed"), key := PySem.Value.str (PySem.Str.ofString "_law_handed") 585, val := PySem.Value.ref 326 }, { hash := PySem.PyData.keyHash P (PySem.Str.ofString "_law_come_to"), key := PySem.Value.str (PySem.Str.ofString "_law_come_to") 591, val := PySem.Value.ref 331 }, { hash := PySem.PyData.keyHash P (PySem.Str.ofString "_law_many"), key := PySem.Value.str (PySem.Str.ofString "_law_many") 599, val := PySem.Value.ref 338 }, { hash := PySem.PyData.keyHash P (PySem.Str.ofString "_law_made"), key := PySem.Value.str (PySem.Str.ofString "_law_made") 605, val := PySem.Value.ref 343 }, { hash := PySem.PyData.keyHash P (PySem.Str.ofString "_law_put"), key := PySem.Value.str (PySem.Str.ofString "_law_put") 611, val := PySem.Value.ref 348 }, { hash := PySem.PyData.keyHash P (PySem.Str.ofString "_law_told"), key := PySem.Value.str (PySem.Str.ofString "_law_told") 617, val := PySem.Value.ref 353 }, { hash := PySem.PyData.keyHash P (PySem.Str.ofString "_law_stands"), key := PySem.Value.str (PySem.Str.ofString "_law_stands") 623, val := PySem.Value.ref 358 }, { hash := PySem.PyData.keyHash P (PySem.Str.ofString "_law_begun"), key := PySem.Value.str (PySem.Str.ofString "_law_begun") 633, val := PySem.Value.ref 365 }, { hash := PySem.PyData.keyHash P (PySem.Str.ofString "law"), key := PySem.Value.str (PySem.Str.ofString "law") 646, val := PySem.Value.ref 372 }] 48 }),
  (100, { cls := PySem.Value.type "code", data := PySem.Data.fields #[PySem.Value.str (PySem.Str.ofString "number_word") 296, PySem.Value.str (PySem.Str.ofString "number_word") 297, PySem.Value.str (PySem.Str.ofString "/claim/cut.py") 298, PySem.Value.int 18 0, PySem.Value.int 1 0, PySem.Value.int 0 0, PySem.Value.int 0 0, PySem.Value.int 3 0, PySem.Value.ref 95, PySem.Value.bool true, PySem.Value.int 181 0, PySem.Value.ref 96, PySem.Value.none, PySem.Value.ref 97, PySem.Value.ref 98, PySem.Value.ref 99, PySem.Value.int 300 0, PySem.Value.int 18 0, PySem.Value.str (PySem.Str.ofString "/claim/cut.py") 301] }),
  (101, { cls := PySem.Value.type "function", data := PySem.Data.func { name := PySem.Str.ofString "number_word", qualname := PySem.Str.ofString "number_word", params := (dP 9), body := .stmts (dB 9), scope := (dS 9), globals := 3, closure := [], defaults := PySem.Value.none, kwdefaults := PySem.Value.none, pyModule := PySem.Value.str (PySem.Str.ofString "threadslide.words") 294, code := PySem.Value.ref 100 } }),
  (107, { cls := PySem.Value.type "code", data := PySem.Data.fields #[PySem.Value.str (PySem.Str.ofString "link_word") 303, PySem.Value.str (PySem.Str.ofString "link_word") 304, PySem.Value.str (PySem.Str.ofString "/claim/cut.py") 305, PySem.Value.int 20 0, PySem.Value.int 1 0, PySem.Value.int 0 0, PySem.Value.int 0 0, PySem.Value.int 3 0, PySem.Value.ref 102, PySem.Value.bool true, PySem.Value.int 181 0, PySem.Value.ref 103, PySem.Value.none, PySem.Value.ref 104, PySem.Value.ref 105, PySem.Value.ref 106, PySem.Value.int 307 0, PySem.Value.int 20 0, PySem.Value.str (PySem.Str.ofString "/claim/cut.py") 308] }),
  (108, { cls := PySem.Value.type "function", data := PySem.Data.func { name := PySem.Str.ofString "link_word", qualname := PySem.Str.ofString "link_word", params := (dP 10), body := .stmts (dB 10), scope := (dS 10), globals := 3, closure := [], defaults := PySem.Value.none, kwdefaults := PySem.Value.none, pyModule := PySem.Value.str (PySem.Str.ofString "threadslide.words") 294, code := PySem.Value.ref 107 } }),
  (114, { cls := PySem.Value.type "code", data := PySem.Data.fields #[PySem.Value.str (PySem.Str.ofString "head_word") 310, PySem.Value.str (PySem.Str.ofString "head_word") 311, PySem.Value.str (PySem.Str.ofString "/claim/cut.py") 312, PySem.Value.int 22 0, PySem.Value.int 2 0, PySem.Value.int 0 0, PySem.Value.int 0 0, PySem.Value.int 3 0, PySem.Value.ref 109, PySem.Value.bool true, PySem.Value.int 181 0, PySem.Value.ref 110, PySem.Value.none, PySem.Value.ref 111, PySem.Value.ref 112, PySem.Value.ref 113, PySem.Value.int 315 0, PySem.Value.int 22 0, PySem.Value.str (PySem.Str.ofString "/claim/cut.py") 316] }),
  (115, { cls := PySem.Value.type "function", data := PySem.Data.func { name := PySem.Str.ofString "head_word", qualname := PySem.Str.ofString "head_word", params := (dP 11), body := .stmts (dB 11), scope := (dS 11), globals := 3, closure := [], defaults := PySem.Value.none, kwdefaults := PySem.Value.none, pyModule := PySem.Value.str (PySem.Str.ofString "threadslide.words") 294, code := PySem.Value.ref 114 } }),
  (121, { cls := PySem.Value.type "code", data := PySem.Data.fields #[PySem.Value.str (PySem.Str.ofString "is_link") 318, PySem.Value.str (PySem.Str.ofString "is_link") 319, PySem.Value.str (PySem.Str.ofString "/claim/cut.py") 320, PySem.Value.int 26 0, PySem.Value.int 1 0, PySem.Value.int 0 0, PySem.Value.int 0 0, PySem.Value.int 3 0, PySem.Value.ref 116, PySem.Value.bool true, PySem.Value.int 181 0, PySem.Value.ref 117, PySem.Value.none, PySem.Value.ref 118, PySem.Value.ref 119, PySem.Value.ref 120, PySem.Value.int 322 0, PySem.Value.int 26 0, PySem.Value.str (PySem.Str.ofString "/claim/cut.py") 323] }),
  (122, { cls := PySem.Value.type "function", data := PySem.Data.func { name := PySem.Str.ofString "is_link", qualname := PySem.Str.ofString "is_link", params := (dP 12), body := .stmts (dB 12), scope := (dS 12), globals := 3, closure := [], defaults := PySem.Value.none, kwdefaults := PySem.Value.none, pyModule := PySem.Value.str (PySem.Str.ofString "threadslide.words") 294, code := PySem.Value.ref 121 } }),
  (128, { cls := PySem.Value.type "code", data := PySem.Data.fields #[PySem.Value.str (PySem.Str.ofString "told_by") 325, PySem.Value.str (PySem.Str.ofString "told_by") 326, PySem.Value.str (PySem.Str.ofString "/claim/cut.py") 327, PySem.Value.int 28 0, PySem.Value.int 1 0, PySem.Value.int 0 0, PySem.Value.int 0 0, PySem.Value.int 3 0, PySem.Value.ref 123, PySem.Value.bool true, PySem.Value.int 181 0, PySem.Value.ref 124, PySem.Value.none, PySem.Value.ref 125, PySem.Value.ref 126, PySem.Value.ref 127, PySem.Value.int 329 0, PySem.Value.int 28 0, PySem.Value.str (PySem.Str.ofString "/claim/cut.py") 330] }),
  (129, { cls := PySem.Value.type "function", data := PySem.Data.func { name := PySem.Str.ofString "told_by", qualname := PySem.Str.ofString "told_by", params := (dP 13), body := .stmts (dB 13), scope := (dS 13), globals := 3, closure := [], defaults := PySem.Value.none, kwdefaults := PySem.Value.none, pyModule := PySem.Value.str (PySem.Str.ofString "threadslide.words") 294, code := PySem.Value.ref 128 } }),
  (135, { cls := PySem.Value.type "code", data := PySem.Data.fields #[PySem.Value.str (PySem.Str.ofString "fields_of") 332, PySem.Value.str (PySem.Str.ofString "fields_of") 333, PySem.Value.str (PySem.Str.ofString "/claim/cut.py") 334, PySem.Value.int 30 0, PySem.Value.int 1 0, PySem.Value.int 0 0, PySem.Value.int 0 0, PySem.Value.int 3 0, PySem.Value.ref 130, PySem.Value.bool true, PySem.Value.int 181 0, PySem.Value.ref 131, PySem.Value.none, PySem.Value.ref 132, PySem.Value.ref 133, PySem.Value.ref 134, PySem.Value.int 336 0, PySem.Value.int 30 0, PySem.Value.str (PySem.Str.ofString "/claim/cut.py") 337] }),
  (136, { cls := PySem.Value.type "function", data := PySem.Data.func { name := PySem.Str.ofString "fields_of", qualname := PySem.Str.ofString "fields_of", params := (dP 14), body := .stmts (dB 14), scope := (dS 14), globals := 3, closure := [], defaults := PySem.Value.none, kwdefaults := PySem.Value.none, pyModule := PySem.Value.str (PySem.Str.ofString "threadslide.words") 294, code := PySem.Value.ref 135 } }),
  (142, { cls := PySem.Value.type "code", data := PySem.Data.fields #[PySem.Value.str (PySem.Str.ofString "is_marked") 339, PySem.Value.str (PySem.Str.ofString "is_marked") 340, PySem.Value.str (PySem.Str.ofString "/claim/cut.py") 341, PySem.Value.int 32 0, PySem.Value.int 1 0, PySem.Value.int 0 0, PySem.Value.int 0 0, PySem.Value.int 3 0, PySem.Value.ref 137, PySem.Value.bool true, PySem.Value.int 181 0, PySem.Value.ref 138, PySem.Value.none, PySem.Value.ref 139, PySem.Value.ref 140, PySem.Value.ref 141, PySem.Value.int 343 0, PySem.Value.int 32 0, PySem.Value.str (PySem.Str.ofString "/claim/cut.py") 344] }),
  (143, { cls := PySem.Value.type "function", data := PySem.Data.func { name := PySem.Str.ofString "is_marked", qualname := PySem.Str.ofString "is_marked", params := (dP 15), body := .stmts (dB 15), scope := (dS 15), globals := 3, closure := [], defaults := PySem.Value.none, kwdefaults := PySem.Value.none, pyModule := PySem.Value.str (PySem.Str.ofString "threadslide.words") 294, code := PySem.Value.ref 142 } }),
  (149, { cls := PySem.Value.type "code", data := PySem.Data.fields #[PySem.Value.str (PySem.Str.ofString "heads") 348, PySem.Value.str (PySem.Str.ofString "heads") 349, PySem.Value.str (PySem.Str.ofString "/claim/cut.py") 350, PySem.Value.int 35 0, PySem.Value.int 2 0, PySem.Value.int 0 0, PySem.Value.int 0 0, PySem.Value.int 3 0, PySem.Value.ref 144, PySem.Value.bool true, PySem.Value.int 181 0, PySem.Value.ref 145, PySem.Value.none, PySem.Value.ref 146, PySem.Value.ref 147, PySem.Value.ref 148, PySem.Value.int 355 0, PySem.Value.int 35 0, PySem.Value.str (PySem.Str.ofString "/claim/cut.py") 356] }),
  (150, { cls := PySem.Value.type "function", data := PySem.Data.func { name := PySem.Str.ofString "heads", qualname := PySem.Str.ofString "heads", params := (dP 17), body := .stmts (dB 17), scope := (dS 17), globals := 3, closure := [], defaults := PySem.Value.none, kwdefaults := PySem.Value.none, pyModule := PySem.Value.str (PySem.Str.ofString "threadslide.sliding") 346, code := PySem.Value.ref 149 } }),
  (156, { cls := PySem.Value.type "code", data := PySem.Data.fields #[PySem.Value.str (PySem.Str.ofString "with_mark") 358, PySem.Value.str (PySem.Str.ofString "with_mark") 359, PySem.Value.str (PySem.Str.ofString "/claim/cut.py") 360, PySem.Value.int 42 0, PySem.Value.int 2 0, PySem.Value.int 0 0, PySem.Value.int 0 0, PySem.Value.int 3 0, PySem.Value.ref 151, PySem.Value.bool true, PySem.Value.int 181 0, PySem.Value.ref 152, PySem.Value.none, PySem.Value.ref 153, PySem.Value.ref 154, PySem.Value.ref 155, PySem.Value.int 364 0, PySem.Value.int 42 0, PySem.Value.str (PySem.Str.ofString "/claim/cut.py") 365] }),
  (157, { cls := PySem.Value.type "function", data := PySem.Data.func { name := PySem.Str.ofString "with_mark", qualname := PySem.Str.ofString "with_mark", params := (dP 18), body := .stmts (dB 18), scope := (dS 18), globals := 3, closure := [], defaults := PySem.Value.none, kwdefaults := PySem.Value.none, pyModule := PySem.Value.str (PySem.Str.ofString "threadslide.sliding") 346, code := PySem.Value.ref 156 } }),
  (163, { cls := PySem.Value.type "code", data := PySem.Data.fields #[PySem.Value.str (PySem.Str.ofString "marked") 367, PySem.Value.str (PySem.Str.ofString "marked") 368, PySem.Value.str (PySem.Str.ofString "/claim/cut.py") 369, PySem.Value.int 46 0, PySem.Value.int 2 0, PySem.Value.int 0 0, PySem.Value.int 0 0, PySem.Value.int 3 0, PySem.Value.ref 158, PySem.Value.bool true, PySem.Value.int 181 0, PySem.Value.ref 159, PySem.Value.none, PySem.Value.ref 160, PySem.Value.ref 161, PySem.Value.ref 162, PySem.Value.int 376 0, PySem.Value.int 46 0, PySem.Value.str (PySem.Str.ofString "/claim/cut.py") 377] }),
  (164, { cls := PySem.Value.type "function", data := PySem.Data.func { name := PySem.Str.ofString "marked", qualname := PySem.Str.ofString "marked", params := (dP 19), body := .stmts (dB 19), scope := (dS 19), globals := 3, closure := [], defaults := PySem.Value.none, kwdefaults := PySem.Value.none, pyModule := PySem.Value.str (PySem.Str.ofString "threadslide.sliding") 346, code := PySem.Value.ref 163 } }),
  (170, { cls := PySem.Value.type "code", data := PySem.Data.fields #[PySem.Value.str (PySem.Str.ofString "is_whole") 385, PySem.Value.str (PySem.Str.ofString "is_whole") 386, PySem.Value.str (PySem.Str.ofString "/claim/cut.py") 387, PySem.Value.int 59 0, PySem.Value.int 1 0, PySem.Value.int 0 0, PySem.Value.int 0 0, PySem.Value.int 3 0, PySem.Value.ref 165, PySem.Value.bool true, PySem.Value.int 181 0, PySem.Value.ref 166, PySem.Value.none, PySem.Value.ref 167, PySem.Value.ref 168, PySem.Value.ref 169, PySem.Value.int 389 0, PySem.Value.int 59 0, PySem.Value.str (PySem.Str.ofString "/claim/cut.py") 390] }),
  (171, { cls := PySem.Value.type "function", data := PySem.Data.func { name := PySem.Str.ofString "is_whole", qualname := PySem.Str.ofString "is_whole", params := (dP 23), body := .stmts (dB 23), scope := (dS 23), globals := 3, closure := [], defaults := PySem.Value.none, kwdefaults := PySem.Value.none, pyModule := PySem.Value.str (PySem.Str.ofString "threadslide.rooms") 379, code := PySem.Value.ref 170 } }),
  (177, { cls := PySem.Value.type "code", data := PySem.Data.fields #[PySem.Value.str (PySem.Str.ofString "need_things") 392, PySem.Value.str (PySem.Str.ofString "need_things") 393, PySem.Value.str (PySem.Str.ofString "/claim/cut.py") 394, PySem.Value.int 61 0, PySem.Value.int 1 0, PySem.Value.int 0 0, PySem.Value.int 0 0, PySem.Value.int 3 0, PySem.Value.ref 172, PySem.Value.bool true, PySem.Value.int 181 0, PySem.Value.ref 173, PySem.Value.none, PySem.Value.ref 174, PySem.Value.ref 175, PySem.Value.ref 176, PySem.Value.int 397 0, PySem.Value.int 61 0, PySem.Value.str (PySem.Str.ofString "/claim/cut.py") 398] }),
  (178, { cls := PySem.Value.type "function", data := PySem.Data.func { name := PySem.Str.ofString "need_things", qualname := PySem.Str.ofString "need_things", params := (dP 24), body := .stmts (dB 24), scope := (dS 24), globals := 3, closure := [], defaults := PySem.Value.none, kwdefaults := PySem.Value.none, pyModule := PySem.Value.str (PySem.Str.ofString "threadslide.rooms") 379, code := PySem.Value.ref 177 } }),
  (184, { cls := PySem.Value.type "code", data := PySem.Data.fields #[PySem.Value.str (PySem.Str.ofString "word_of") 400, PySem.Value.str (PySem.Str.ofString "word_of") 401, PySem.Value.str (PySem.Str.ofString "/claim/cut.py") 402, PySem.Value.int 67 0, PySem.Value.int 1 0, PySem.Value.int 0 0, PySem.Value.int 0 0, PySem.Value.int 3 0, PySem.Value.ref 179, PySem.Value.bool true, PySem.Value.int 181 0, PySem.Value.ref 180, PySem.Value.none, PySem.Value.ref 181, PySem.Value.ref 182, PySem.Value.ref 183, PySem.Value.int 404 0, PySem.Value.int 67 0, PySem.Value.str (PySem.Str.ofString "/claim/cut.py") 405] }),
  (185, { cls := PySem.Value.type "function", data := PySem.Data.func { name := PySem.Str.ofString "word_of", qualname := PySem.Str.ofString "word_of", params := (dP 25), body := .stmts (dB 25), scope := (dS 25), globals := 3, closure := [], defaults := PySem.Value.none, kwdefaults := PySem.Value.none, pyModule := PySem.Value.str (PySem.Str.ofString "threadslide.rooms") 379, code := PySem.Value.ref 184 } }),
  (198, { cls := PySem.Value.type "code", data := PySem.Data.fields #[PySem.Value.str (PySem.Str.ofString "__init__") 419, PySem.Value.str (PySem.Str.ofString "Room.__init__") 420, PySem.Value.str (PySem.Str.ofString "/claim/cut.py") 421, PySem.Value.int 73 0, PySem.Value.int 3 0, PySem.Value.int 0 0, PySem.Value.int 0 0, PySem.Value.int 3 0, PySem.Value.ref 193, PySem.Value.bool true, PySem.Value.int 181 0, PySem.Value.ref 194, PySem.Value.none, PySem.Value.ref 195, PySem.Value.ref 196, PySem.Value.ref 197, PySem.Value.int 425 0, PySem.Value.int 73 0, PySem.Value.str (PySem.Str.ofString "/claim/cut.py") 426] }),
  (199, { cls := PySem.Value.type "function", data := PySem.Data.func { name := PySem.Str.ofString "__init__", qualname := PySem.Str.ofString "Room.__init__", params := (dPm 0), body := .stmts (dBm 0), scope := (dSm 0), globals := 3, closure := [], defaults := PySem.Value.none, kwdefaults := PySem.Value.none, pyModule := PySem.Value.str (PySem.Str.ofString "threadslide.rooms") 379, code := PySem.Value.ref 198 } }),
  (205, { cls := PySem.Value.type "code", data := PySem.Data.fields #[PySem.Value.str (PySem.Str.ofString "need_boxes") 428, PySem.Value.str (PySem.Str.ofString "Room.need_boxes") 429, PySem.Value.str (PySem.Str.ofString "/claim/cut.py") 430, PySem.Value.int 81 0, PySem.Value.int 2 0, PySem.Value.int 0 0, PySem.Value.int 0 0, PySem.Value.int 3 0, PySem.Value.ref 200, PySem.Value.bool true, PySem.Value.int 181 0, PySem.Value.ref 201, PySem.Value.none, PySem.Value.ref 202, PySem.Value.ref 203, PySem.Value.ref 204, PySem.Value.int 435 0, PySem.Value.int 81 0, PySem.Value.str (PySem.Str.ofString "/claim/cut.py") 436] }),
  (206, { cls := PySem.Value.type "function", data := PySem.Data.func { name := PySem.Str.ofString "need_boxes", qualname := PySem.Str.ofString "Room.need_boxes", params := (dPm 1), body := .stmts (dBm 1), scope := (dSm 1), globals := 3, closure := [], defaults := PySem.Value.none, kwdefaults := PySem.Value.none, pyModule := PySem.Value.str (PySem.Str.ofString "threadslide.rooms") 379, code := PySem.Value.ref 205 } }),
  (212, { cls := PySem.Value.type "code", data := PySem.Data.fields #[PySem.Value.str (PySem.Str.ofString "need_box") 438, PySem.Value.str (PySem.Str.ofString "Room.need_box") 439, PySem.Value.str (PySem.Str.ofString "/claim/cut.py") 440, PySem.Value.int 87 0, PySem.Value.int 2 0, PySem.Value.int 0 0, PySem.Value.int 0 0, PySem.Value.int 3 0, PySem.Value.ref 207, PySem.Value.bool true, PySem.Value.int 181 0, PySem.Value.ref 208, PySem.Value.none, PySem.Value.ref 209, PySem.Value.ref 210, PySem.Value.ref 211, PySem.Value.int 443 0, PySem.Value.int 87 0, PySem.Value.str (PySem.Str.ofString "/claim/cut.py") 444] }),
  (213, { cls := PySem.Value.type "function", data := PySem.Data.func { name := PySem.Str.ofString "need_box", qualname := PySem.Str.ofString "Room.need_box", params := (dPm 2), body := .stmts (dBm 2), scope := (dSm 2), globals := 3, closure := [], defaults := PySem.Value.none, kwdefaults := PySem.Value.none, pyModule := PySem.Value.str (PySem.Str.ofString "threadslide.rooms") 379, code := PySem.Value.ref 212 } }),
  (217, { cls := PySem.Value.type "code", data := PySem.Data.fields #[PySem.Value.str (PySem.Str.ofString "made") 446, PySem.Value.str (PySem.Str.ofString "Room.made") 447, PySem.Value.str (PySem.Str.ofString "/claim/cut.py") 448, PySem.Value.int 91 0, PySem.Value.int 2 0, PySem.Value.int 0 0, PySem.Value.int 0 0, PySem.Value.int 3 0, PySem.Value.ref 214, PySem.Value.bool true, PySem.Value.int 181 0, PySem.Value.ref 215, PySem.Value.none, PySem.Value.none, PySem.Value.none, PySem.Value.ref 216, PySem.Value.int 449 0, PySem.Value.int 91 0, PySem.Value.str (PySem.Str.ofString "/claim/cut.py") 450] }),
  (218, { cls := PySem.Value.type "function", data := PySem.Data.func { name := PySem.Str.ofString "made", qualname := PySem.Str.ofString "Room.made", params := (dPm 3), body := .stmts (dBm 3), scope := (dSm 3), globals := 3, closure := [], defaults := PySem.Value.none, kwdefaults := PySem.Value.none, pyModule := PySem.Value.str (PySem.Str.ofString "threadslide.rooms") 379, code := PySem.Value.ref 217 } }),
  (224, { cls := PySem.Value.type "code", data := PySem.Data.fields #[PySem.Value.str (PySem.Str.ofString "put") 452, PySem.Value.str (PySem.Str.ofString "Room.put") 453, PySem.Value.str (PySem.Str.ofString "/claim/cut.py") 454, PySem.Value.int 103 0, PySem.Value.int 4 0, PySem.Value.int 0 0, PySem.Value.int 0 0, PySem.Value.int 3 0, PySem.Value.ref 219, PySem.Value.bool true, PySem.Value.int 181 0, PySem.Value.ref 220, PySem.Value.none, PySem.Value.ref 221, PySem.Value.ref 222, PySem.Value.ref 223, PySem.Value.int 459 0, PySem.Value.int 103 0, PySem.Value.str (PySem.Str.ofString "/claim/cut.py") 460] }),
  (225, { cls := PySem.Value.type "function", data := PySem.Data.func { name := PySem.Str.ofString "put", qualname := PySem.Str.ofString "Room.put", params := (dPm 4), body := .stmts (dBm 4), scope := (dSm 4), globals := 3, closure := [], defaults := PySem.Value.none, kwdefaults := PySem.Value.none, pyModule := PySem.Value.str (PySem.Str.ofString "threadslide.rooms") 379, code := PySem.Value.ref 224 } }),
  (231, { cls := PySem.Value.type "code", data := PySem.Data.fields #[PySem.Value.str (PySem.Str.ofString "told") 462, PySem.Value.str (PySem.Str.ofString "Room.told") 463, PySem.Value.str (PySem.Str.ofString "/claim/cut.py") 464, PySem.Value.int 111 0, PySem.Value.int 2 0, PySem.Value.int 0 0, PySem.Value.int 0 0, PySem.Value.int 3 0, PySem.Value.ref 226, PySem.Value.bool true, PySem.Value.int 181 0, PySem.Value.ref 227, PySem.Value.none, PySem.Value.ref 228, PySem.Value.ref 229, PySem.Value.ref 230, PySem.Value.int 469 0, PySem.Value.int 111 0, PySem.Value.str (PySem.Str.ofString "/claim/cut.py") 470] }),
  (232, { cls := PySem.Value.type "function", data := PySem.Data.func { name := PySem.Str.ofString "told", qualname := PySem.Str.ofString "Room.told", params := (dPm 5), body := .stmts (dBm 5), scope := (dSm 5), globals := 3, closure := [], defaults := PySem.Value.none, kwdefaults := PySem.Value.none, pyModule := PySem.Value.str (PySem.Str.ofString "threadslide.rooms") 379, code := PySem.Value.ref 231 } }),
  (238, { cls := PySem.Value.type "code", data := PySem.Data.fields #[PySem.Value.str (PySem.Str.ofString "places") 472, PySem.Value.str (PySem.Str.ofString "Room.places") 473, PySem.Value.str (PySem.Str.ofString "/claim/cut.py") 474, PySem.Value.int 121 0, PySem.Value.int 1 0, PySem.Value.int 0 0, PySem.Value.int 0 0, PySem.Value.int 3 0, PySem.Value.ref 233, PySem.Value.bool true, PySem.Value.int 181 0, PySem.Value.ref 234, PySem.Value.none, PySem.Value.ref 235, PySem.Value.ref 236, PySem.Value.ref 237, PySem.Value.int 476 0, PySem.Value.int 121 0, PySem.Value.str (PySem.Str.ofString "/claim/cut.py") 477] }),
  (239, { cls := PySem.Value.type "function", data := PySem.Data.func { name := PySem.Str.ofString "places", qualname := PySem.Str.ofString "Room.places", params := (dPm 6), body := .stmts (dBm 6), scope := (dSm 6), globals := 3, closure := [], defaults := PySem.Value.none, kwdefaults := PySem.Value.none, pyModule := PySem.Value.str (PySem.Str.ofString "threadslide.rooms") 379, code := PySem.Value.ref 238 } }),
  (243, { cls := PySem.Value.type "code", data := PySem.Data.fields #[PySem.Value.str (PySem.Str.ofString "come_to") 479, PySem.Value.str (PySem.Str.ofString "Room.come_to") 480, PySem.Value.str (PySem.Str.ofString "/claim/cut.py") 481, PySem.Value.int 124 0, PySem.Value.int 1 0, PySem.Value.int 0 0, PySem.Value.int 0 0, PySem.Value.int 3 0, PySem.Value.ref 240, PySem.Value.bool true, PySem.Value.int 181 0, PySem.Value.ref 241, PySem.Value.none, PySem.Value.none, PySem.Value.none, PySem.Value.ref 242, PySem.Value.int 482 0, PySem.Value.int 124 0, PySem.Value.str (PySem.Str.ofString "/claim/cut.py") 483] }),
  (244, { cls := PySem.Value.type "function", data := PySem.Data.func { name := PySem.Str.ofString "come_to", qualname := PySem.Str.ofString "Room.come_to", params := (dPm 7), body := .stmts (dBm 7), scope := (dSm 7), globals := 3, closure := [], defaults := PySem.Value.none, kwdefaults := PySem.Value.none, pyModule := PySem.Value.str (PySem.Str.ofString "threadslide.rooms") 379, code := PySem.Value.ref 243 } }),
  (257, { cls := PySem.Value.type "code", data := PySem.Data.fields #[PySem.Value.str (PySem.Str.ofString "used") 492, PySem.Value.str (PySem.Str.ofString "Room.used") 493, PySem.Value.str (PySem.Str.ofString "/claim/cut.py") 494, PySem.Value.int 131 0, PySem.Value.int 1 0, PySem.Value.int 0 0, PySem.Value.int 0 0, PySem.Value.int 3 0, PySem.Value.ref 252, PySem.Value.bool true, PySem.Value.int 181 0, PySem.Value.ref 253, PySem.Value.none, PySem.Value.ref 254, PySem.Value.ref 255, PySem.Value.ref 256, PySem.Value.int 496 0, PySem.Value.int 131 0, PySem.Value.str (PySem.Str.ofString "/claim/cut.py") 497] }),
  (258, { cls := PySem.Value.type "function", data := PySem.Data.func { name := PySem.Str.ofString "used", qualname := PySem.Str.ofString "Room.used", params := (dPm 9), body := .stmts (dBm 9), scope := (dSm 9), globals := 3, closure := [], defaults := PySem.Value.none, kwdefaults := PySem.Value.none, pyModule := PySem.Value.str (PySem.Str.ofString "threadslide.rooms") 379, code := PySem.Value.ref 257 } }),
  (264, { cls := PySem.Value.type "code", data := PySem.Data.fields #[PySem.Value.str (PySem.Str.ofString "cells") 499, PySem.Value.str (PySem.Str.ofString "Room.cells") 500, PySem.Value.str (PySem.Str.ofString "/claim/cut.py") 501, PySem.Value.int 134 0, PySem.Value.int 1 0, PySem.Value.int 0 0, PySem.Value.int 0 0, PySem.Value.int 3 0, PySem.Value.ref 259, PySem.Value.bool true, PySem.Value.int 181 0, PySem.Value.ref 260, PySem.Value.none, PySem.Value.ref 261, PySem.Value.ref 262, PySem.Value.ref 263, PySem.Value.int 503 0, PySem.Value.int 134 0, PySem.Value.str (PySem.Str.ofString "/claim/cut.py") 504] }),
  (265, { cls := PySem.Value.type "function", data := PySem.Data.func { name := PySem.Str.ofString "cells", qualname := PySem.Str.ofString "Room.cells", params := (dPm 10), body := .stmts (dBm 10), scope := (dSm 10), globals := 3, closure := [], defaults := PySem.Value.none, kwdefaults := PySem.Value.none, pyModule := PySem.Value.str (PySem.Str.ofString "threadslide.rooms") 379, code := PySem.Value.ref 264 } }),
  (266, { cls := PySem.Value.type "tuple", data := PySem.Data.seq #[PySem.Value.str (PySem.Str.ofString "filled") 506, PySem.Value.str (PySem.Str.ofString "row") 507] }),
  (267, { cls := PySem.Value.type "dict", data := PySem.Data.dict #[{ hash := PySem.PyData.keyHash P (PySem.Str.ofString "__module__"), key := PySem.Value.str (PySem.Str.ofString "__module__") 414, val := PySem.Value.str (PySem.Str.ofString "threadslide.rooms") 379 }, { hash := PySem.PyData.keyHash P (PySem.Str.ofString "__firstlineno__"), key := PySem.Value.str (PySem.Str.ofString "__firstlineno__") 418, val := PySem.Value.int 71 417 }, { hash := PySem.PyData.keyHash P (PySem.Str.ofString "__init__"), key := PySem.Value.str (PySem.Str.ofString "__init__") 427, val := PySem.Value.ref 199 }, { hash := PySem.PyData.keyHash P (PySem.Str.ofString "need_boxes"), key := PySem.Value.str (PySem.Str.ofString "need_boxes") 437, val := PySem.Value.ref 206 }, { hash := PySem.PyData.keyHash P (PySem.Str.ofString "need_box"), key := PySem.Value.str (PySem.Str.ofString "need_box") 445, val := PySem.Value.ref 213 }, { hash := PySem.PyData.keyHash P (PySem.Str.ofString "made"), key := PySem.Value.str (PySem.Str.ofString "made") 451, val := PySem.Value.ref 218 }, { hash := PySem.PyData.keyHash P (PySem.Str.ofString "put"), key := PySem.Value.str (PySem.Str.ofString "put") 461, val := PySem.Value.ref 225 }, { hash := PySem.PyData.keyHash P (PySem.Str.ofString "told"), key := PySem.Value.str (PySem.Str.ofString "told") 471, val := PySem.Value.ref 232 }, { hash := PySem.PyData.keyHash P (PySem.Str.ofString "places"), key := PySem.Value.str (PySem.Str.ofString "places") 478, val := PySem.Value.ref 239 }, { hash := PySem.PyData.keyHash P (PySem.Str.ofString "come_to"), key := PySem.Value.str (PySem.Str.ofString "come_to") 484, val := PySem.Value.ref 244 }, { hash := PySem.PyData.keyHash P (PySem.Str.ofString "pushed"), key := PySem.Value.str (PySem.Str.ofString "pushed") 491, val := PySem.Value.ref 251 }, { hash := PySem.PyData.keyHash P (PySem.Str.ofString "used"), key := PySem.Value.str (PySem.Str.ofString "used") 498, val := PySem.Value.ref 258 }, { hash := PySem.PyData.keyHash P (PySem.Str.ofString "cells"), key := PySem.Value.str (PySem.Str.ofString "cells") 505, val := PySem.Value.ref 265 }, { hash := PySem.PyData.keyHash P (PySem.Str.ofString "__static_attributes__"), key := PySem.Value.str (PySem.Str.ofString "__static_attributes__") 508, val := PySem.Value.ref 266 }, { hash := PySem.PyData.keyHash P (PySem.Str.ofString "__dict__"), key := PySem.Value.str (PySem.Str.ofString "__dict__") 510, val := PySem.Value.ref 269 }, { hash := PySem.PyData.keyHash P (PySem.Str.ofString "__weakref__"), key := PySem.Value.str (PySem.Str.ofString "__weakref__") 512, val := PySem.Value.ref 270 }, { hash := PySem.PyData.keyHash P (PySem.Str.ofString "__doc__"), key := PySem.Value.str (PySem.Str.ofString "__doc__") 513, val := PySem.Value.none }] 4 }),
  (268, { cls := PySem.Value.type "type", data := PySem.Data.cls { name := PySem.Str.ofString "Room", bases := [PySem.Value.type "object"], mro := [PySem.Value.ref 268, PySem.Value.type "object"], ns := 267, qualname := PySem.Str.ofString "Room" }, slots := #[none, none, some (PySem.Value.str (PySem.Str.ofString "Room") 407), some (PySem.Value.str (PySem.Str.ofString "Room") 415), some (PySem.Value.builtin "object.__new__"), some (PySem.Value.bool true)] }),
  (269, { cls := PySem.Value.type "getset_descriptor", data := PySem.Data.fields #[PySem.Value.str (PySem.Str.ofString "__dict__") 509, PySem.Value.ref 268, PySem.Value.builtin "function.__dict__", PySem.Value.builtin "function.__dict__#set"] }),
  (270, { cls := PySem.Value.type "getset_descriptor", data := PySem.Data.fields #[PySem.Value.str (PySem.Str.ofString "__weakref__") 511, PySem.Value.ref 268, PySem.Value.builtin "ExceptionGroup.__weakref__", PySem.Value.none] }),
  (278, { cls := PySem.Value.type "code", data := PySem.Data.fields #[PySem.Value.str (PySem.Str.ofString "_law_at") 518, PySem.Value.str (PySem.Str.ofString "_law_at") 519, PySem.Value.str (PySem.Str.ofString "/claim/cut.py") 520, PySem.Value.int 137 0, PySem.Value.int 2 0, PySem.Value.int 0 0, PySem.Value.int 0 0, PySem.Value.int 3 0, PySem.Value.ref 273, PySem.Value.bool true, PySem.Value.int 181 0, PySem.Value.ref 274, PySem.Value.none, PySem.Value.ref 275, PySem.Value.ref 276, PySem.Value.ref 277, PySem.Value.int 523 0, PySem.Value.int 137 0, PySem.Value.str (PySem.Str.ofString "/claim/cut.py") 524] }),
  (279, { cls := PySem.Value.type "function", data := PySem.Data.func { name := PySem.Str.ofString "_law_at", qualname := PySem.Str.ofString "_law_at", params := (dP 28), body := .stmts (dB 28), scope := (dS 28), globals := 3, closure := [], defaults := PySem.Value.none, kwdefaults := PySem.Value.none, pyModule := PySem.Value.str (PySem.Str.ofString "law_uf060004_07") 516, code := PySem.Value.ref 278 } }),
  (285, { cls := PySem.Value.type "code", data := PySem.Data.fields #[PySem.Value.str (PySem.Str.ofString "_law_is_int") 526, PySem.Value.str (PySem.Str.ofString "_law_is_int") 527, PySem.Value.str (PySem.Str.ofString "/claim/cut.py") 528, PySem.Value.int 139 0, PySem.Value.int 1 0, PySem.Value.int 0 0, PySem.Value.int 0 0, PySem.Value.int 3 0, PySem.Value.ref 280, PySem.Value.bool true, PySem.Value.int 181 0, PySem.Value.ref 281, PySem.Value.none, PySem.Value.ref 282, PySem.Value.ref 283, PySem.Value.ref 284, PySem.Value.int 530 0, PySem.Value.int 139 0, PySem.Value.str (PySem.Str.ofString "/claim/cut.py") 531] }),
  (286, { cls := PySem.Value.type "function", data := PySem.Data.func { name := PySem.Str.ofString "_law_is_int", qualname := PySem.Str.ofString "_law_is_int", params := (dP 29), body := .stmts (dB 29), scope := (dS 29), globals := 3, closure := [], defaults := PySem.Value.none, kwdefaults := PySem.Value.none, pyModule := PySem.Value.str (PySem.Str.ofString "law_uf060004_07") 516, code := PySem.Value.ref 285 } }),
  (290, { cls := PySem.Value.type "code", data := PySem.Data.fields #[PySem.Value.str (PySem.Str.ofString "_law_words_are") 533, PySem.Value.str (PySem.Str.ofString "_law_words_are") 534, PySem.Value.str (PySem.Str.ofString "/claim/cut.py") 535, PySem.Value.int 141 0, PySem.Value.int 2 0, PySem.Value.int 0 0, PySem.Value.int 0 0, PySem.Value.int 3 0, PySem.Value.ref 287, PySem.Value.bool true, PySem.Value.int 181 0, PySem.Value.ref 288, PySem.Value.none, PySem.Value.none, PySem.Value.none, PySem.Value.ref 289, PySem.Value.int 536 0, PySem.Value.int 141 0, PySem.Value.str (PySem.Str.ofString "/claim/cut.py") 537] }),
  (291, { cls := PySem.Value.type "function", data := PySem.Data.func { name := PySem.Str.ofString "_law_words_are", qualname := PySem.Str.ofString "_law_words_are", params := (dP 30), body := .stmts (dB 30), scope := (dS 30), globals := 3, closure := [], defaults := PySem.Value.none, kwdefaults := PySem.Value.none, pyModule := PySem.Value.str (PySem.Str.ofString "law_uf060004_07") 516, code := PySem.Value.ref 290 } }),
  (297, { cls := PySem.Value.type "code", data := PySem.Data.fields #[PySem.Value.str (PySem.Str.ofString "_law_number") 539, PySem.Value.str (PySem.Str.ofString "_law_number") 540, PySem.Value.str (PySem.Str.ofString "/claim/cut.py") 541, PySem.Value.int 145 0, PySem.Value.int 1 0, PySem.Value.int 0 0, PySem.Value.int 0 0, PySem.Value.int 3 0, PySem.Value.ref 292, PySem.Value.bool true, PySem.Value.int 181 0, PySem.Value.ref 293, PySem.Value.none, PySem.Value.ref 294, PySem.Value.ref 295, PySem.Value.ref 296, PySem.Value.int 543 0, PySem.Value.int 145 0, PySem.Value.str (PySem.Str.ofString "/claim/cut.py") 544] }),
  (298, { cls := PySem.Value.type "function", data := PySem.Data.func { name := PySem.Str.ofString "_law_number", qualname := PySem.Str.ofString "_law_number", params := (dP 31), body := .stmts (dB 31), scope := (dS 31), globals := 3, closure := [], defaults := PySem.Value.none, kwdefaults := PySem.Value.none, pyModule := PySem.Value.str (PySem.Str.ofString "law_uf060004_07") 516, code := PySem.Value.ref 297 } }),
  (304, { cls := PySem.Value.type "code", data := PySem.Data.fields #[PySem.Value.str (PySem.Str.ofString "_law_places_of") 546, PySem.Value.str (PySem.Str.ofString "_law_places_of") 547, PySem.Value.str (PySem.Str.ofString "/claim/cut.py") 548, PySem.Value.int 151 0, PySem.Value.int 2 0, PySem.Value.int 0 0, PySem.Value.int 0 0, PySem.Value.int 3 0, PySem.Value.ref 299, PySem.Value.bool true, PySem.Value.int 181 0, PySem.Value.ref 300, PySem.Value.none, PySem.Value.ref 301, PySem.Value.ref 302, PySem.Value.ref 303, PySem.Value.int 554 0, PySem.Value.int 151 0, PySem.Value.str (PySem.Str.ofString "/claim/cut.py") 555] }),
  (305, { cls := PySem.Value.type "function", data := PySem.Data.func { name := PySem.Str.ofString "_law_places_of", qualname := PySem.Str.ofString "_law_places_of", params := (dP 32), body := .stmts (dB 32), scope := (dS 32), globals := 3, closure := [], defaults := PySem.Value.none, kwdefaults := PySem.Value.none, pyModule := PySem.Value.str (PySem.Str.ofString "law_uf060004_07") 516, code := PySem.Value.ref 304 } }),
  (311, { cls := PySem.Value.type "code", data := PySem.Data.fields #[PySem.Value.str (PySem.Str.ofString "_law_cells_of") 557, PySem.Value.str (PySem.Str.ofString "_law_cells_of") 558, PySem.Value.str (PySem.Str.ofString "/claim/cut.py") 559, PySem.Value.int 158 0, PySem.Value.int 3 0, PySem.Value.int 0 0, PySem.Value.int 0 0, PySem.Value.int 3 0, PySem.Value.ref 306, PySem.Value.bool true, PySem.Value.int 181 0, PySem.Value.ref 307, PySem.Value.none, PySem.Value.ref 308, PySem.Value.ref 309, PySem.Value.ref 310, PySem.Value.int 567 0, PySem.Value.int 158 0, PySem.Value.str (PySem.Str.ofString "/claim/cut.py") 568] }),
  (312, { cls := PySem.Value.type "function", data := PySem.Data.func { name := PySem.Str.ofString "_law_cells_of", qualname := PySem.Str.ofString "_law_cells_of", params := (dP 33), body := .stmts (dB 33), scope := (dS 33), globals := 3, closure := [], defaults := PySem.Value.none, kwdefaults := PySem.Value.none, pyModule := PySem.Value.str (PySem.Str.ofString "law_uf060004_07") 516, code := PySem.Value.ref 311 } }),
  (318, { cls := PySem.Value.type "code", data := PySem.Data.fields #[PySem.Value.str (PySem.Str.ofString "_law_thing") 570, PySem.Value.str (PySem.Str.ofString "_law_thing") 571, PySem.Value.str (PySem.Str.ofString "/claim/cut.py") 572, PySem.Value.int 169 0, PySem.Value.int 2 0, PySem.Value.int 0 0, PySem.Value.int 0 0, PySem.Value.int 3 0, PySem.Value.ref 313, PySem.Value.bool true, PySem.Value.int 181 0, PySem.Value.ref 314, PySem.Value.none, PySem.Value.ref 315, PySem.Value.ref 316, PySem.Value.ref 317, PySem.Value.int 575 0, PySem.Value.int 169 0, PySem.Value.str (PySem.Str.ofString "/claim/cut.py") 576] }),
  (319, { cls := PySem.Value.type "function", data := PySem.Data.func { name := PySem.Str.ofString "_law_thing", qualname := PySem.Str.ofString "_law_thing", params := (dP 34), body := .stmts (dB 34), scope := (dS 34), globals := 3, closure := [], defaults := PySem.Value.none, kwdefaults := PySem.Value.none, pyModule := PySem.Value.str (PySem.Str.ofString "law_uf060004_07") 516, code := PySem.Value.ref 318 } }),
  (325, { cls := PySem.Value.type "code", data := PySem.Data.fields #[PySem.Value.str (PySem.Str.ofString "_law_handed") 578, PySem.Value.str (PySem.Str.ofString "_law_handed") 579, PySem.Value.str (PySem.Str.ofString "/claim/cut.py") 580, PySem.Value.int 173 0, PySem.Value.int 2 0, PySem.Value.int 0 0, PySem.Value.int 0 0, PySem.Value.int 3 0, PySem.Value.ref 320, PySem.Value.bool true, PySem.Value.int 181 0, PySem.Value.ref 321, PySem.Value.none, PySem.Value.ref 322, PySem.Value.ref 323, PySem.Value.ref 324, PySem.Value.int 583 0, PySem.Value.int 173 0, PySem.Value.str (PySem.Str.ofString "/claim/cut.py") 584] }),
  (326, { cls := PySem.Value.type "function", data := PySem.Data.func { name := PySem.Str.ofString "_law_handed", qualname := PySem.Str.ofString "_law_handed", params := (dP 35), body := .stmts (dB 35), scope := (dS 35), globals := 3, closure := [], defaults := PySem.Value.none, kwdefaults := PySem.Value.none, pyModule := PySem.Value.str (PySem.Str.ofString "law_uf060004_07") 516, code := PySem.Value.ref 325 } }),
  (330, { cls := PySem.Value.type "code", data := PySem.Data.fields #[PySem.Value.str (PySem.Str.ofString "_law_come_to") 586, PySem.Value.str (PySem.Str.ofString "_law_come_to") 587, PySem.Value.str (PySem.Str.ofString "/claim/cut.py") 588, PySem.Value.int 177 0, PySem.Value.int 2 0, PySem.Value.int 0 0, PySem.Value.int 0 0, PySem.Value.int 3 0, PySem.Value.ref 327, PySem.Value.bool true, PySem.Value.int 181 0, PySem.Value.ref 328, PySem.Value.none, PySem.Value.none, PySem.Value.none, PySem.Value.ref 329, PySem.Value.int 589 0, PySem.Value.int 177 0, PySem.Value.str (PySem.Str.ofString "/claim/cut.py") 590] }),
  (331, { cls := PySem.Value.type "function", data := PySem.Data.func { name := PySem.Str.ofString "_law_come_to", qualname := PySem.Str.ofString "_law_come_to", params := (dP 36), body := .stmts (dB 36), scope := (dS 36), globals := 3, closure := [], defaults := PySem.Value.none, kwdefaults := PySem.Value.none, pyModule := PySem.Value.str (PySem.Str.ofString "law_uf060004_07") 516, code := PySem.Value.ref 330 } }),
  (337, { cls := PySem.Value.type "code", data := PySem.Data.fields #[PySem.Value.str (PySem.Str.ofString "_law_many") 592, PySem.Value.str (PySem.Str.ofString "_law_many") 593, PySem.Value.str (PySem.Str.ofString "/claim/cut.py") 594, PySem.Value.int 185 0, PySem.Value.int 2 0, PySem.Value.int 0 0, PySem.Value.int 0 0, PySem.Value.int 3 0, PySem.Value.ref 332, PySem.Value.bool true, PySem.Value.int 181 0, PySem.Value.ref 333, PySem.Value.none, PySem.Value.ref 334, PySem.Value.ref 335, PySem.Value.ref 336, PySem.Value.int 597 0, PySem.Value.int 185 0, PySem.Value.str (PySem.Str.ofString "/claim/cut.py") 598] }),
  (338, { cls := PySem.Value.type "function", data := PySem.Data.func { name := PySem.Str.ofString "_law_many", qualname := PySem.Str.ofString "_law_many", params := (dP 37), body := .stmts (dB 37), scope := (dS 37), globals := 3, closure := [], defaults := PySem.Value.none, kwdefaults := PySem.Value.none, pyModule := PySem.Value.str (PySem.Str.ofString "law_uf060004_07") 516, code := PySem.Value.ref 337 } }),
  (342, { cls := PySem.Value.type "code", data := PySem.Data.fields #[PySem.Value.str (PySem.Str.ofString "_law_made") 600, PySem.Value.str (PySem.Str.ofString "_law_made") 601, PySem.Value.str (PySem.Str.ofString "/claim/cut.py") 602, PySem.Value.int 191 0, PySem.Value.int 4 0, PySem.Value.int 0 0, PySem.Value.int 0 0, PySem.Value.int 3 0, PySem.Value.ref 339, PySem.Value.bool true, PySem.Value.int 181 0, PySem.Value.ref 340, PySem.Value.none, PySem.Value.none, PySem.Value.none, PySem.Value.ref 341, PySem.Value.int 603 0, PySem.Value.int 191 0, PySem.Value.str (PySem.Str.ofString "/claim/cut.py") 604] }),
  (343, { cls := PySem.Value.type "function", data := PySem.Data.func { name := PySem.Str.ofString "_law_made", qualname := PySem.Str.ofString "_law_made", params := (dP 38), body := .stmts (dB 38), scope := (dS 38), globals := 3, closure := [], defaults := PySem.Value.none, kwdefaults := PySem.Value.none, pyModule := PySem.Value.str (PySem.Str.ofString "law_uf060004_07") 516, code := PySem.Value.ref 342 } }),
  (347, { cls := PySem.Value.type "code", data := PySem.Data.fields #[PySem.Value.str (PySem.Str.ofString "_law_put") 606, PySem.Value.str (PySem.Str.ofString "_law_put") 607, PySem.Value.str (PySem.Str.ofString "/claim/cut.py") 608, PySem.Value.int 215 0, PySem.Value.int 3 0, PySem.Value.int 0 0, PySem.Value.int 0 0, PySem.Value.int 3 0, PySem.Value.ref 344, PySem.Value.bool true, PySem.Value.int 181 0, PySem.Value.ref 345, PySem.Value.none, PySem.Value.none, PySem.Value.none, PySem.Value.ref 346, PySem.Value.int 609 0, PySem.Value.int 215 0, PySem.Value.str (PySem.Str.ofString "/claim/cut.py") 610] }),
  (348, { cls := PySem.Value.type "function", data := PySem.Data.func { name := PySem.Str.ofString "_law_put", qualname := PySem.Str.ofString "_law_put", params := (dP 39), body := .stmts (dB 39), scope := (dS 39), globals := 3, closure := [], defaults := PySem.Value.none, kwdefaults := PySem.Value.none, pyModule := PySem.Value.str (PySem.Str.ofString "law_uf060004_07") 516, code := PySem.Value.ref 347 } }),
  (352, { cls := PySem.Value.type "code", data := PySem.Data.fields #[PySem.Value.str (PySem.Str.ofString "_law_told") 612, PySem.Value.str (PySem.Str.ofString "_law_told") 613, PySem.Value.str (PySem.Str.ofString "/claim/cut.py") 614, PySem.Value.int 235 0, PySem.Value.int 2 0, PySem.Value.int 0 0, PySem.Value.int 0 0, PySem.Value.int 3 0, PySem.Value.ref 349, PySem.Value.bool true, PySem.Value.int 181 0, PySem.Value.ref 350, PySem.Value.none, PySem.Value.none, PySem.Value.none, PySem.Value.ref 351, PySem.Value.int 615 0, PySem.Value.int 235 0, PySem.Value.str (PySem.Str.ofString "/claim/cut.py") 616] }),
  (353, { cls := PySem.Value.type "function", data := PySem.Data.func { name := PySem.Str.ofString "_law_told", qualname := PySem.Str.ofString "_law_told", params := (dP 40), body := .stmts (dB 40), scope := (dS 40), globals := 3, closure := [], defaults := PySem.Value.none, kwdefaults := PySem.Value.none, pyModule := PySem.Value.str (PySem.Str.ofString "law_uf060004_07") 516, code := PySem.Value.ref 352 } }),
  (357, { cls := PySem.Value.type "code", data := PySem.Data.fields #[PySem.Value.str (PySem.Str.ofString "_law_stands") 618, PySem.Value.str (PySem.Str.ofString "_law_stands") 619, PySem.Value.str (PySem.Str.ofString "/claim/cut.py") 620, PySem.Value.int 250 0, PySem.Value.int 2 0, PySem.Value.int 0 0, PySem.Value.int 0 0, PySem.Value.int 3 0, PySem.Value.ref 354, PySem.Value.bool true, PySem.Value.int 181 0, PySem.Value.ref 355, PySem.Value.none, PySem.Value.none, PySem.Value.none, PySem.Value.ref 356, PySem.Value.int 621 0, PySem.Value.int 250 0, PySem.Value.str (PySem.Str.ofString "/claim/cut.py") 622] }),
  (358, { cls := PySem.Value.type "function", data := PySem.Data.func { name := PySem.Str.ofString "_law_stands", qualname := PySem.Str.ofString "_law_stands", params := (dP 41), body := .stmts (dB 41), scope := (dS 41), globals := 3, closure := [], defaults := PySem.Value.none, kwdefaults := PySem.Value.none, pyModule := PySem.Value.str (PySem.Str.ofString "law_uf060004_07") 516, code := PySem.Value.ref 357 } }),
  (364, { cls := PySem.Value.type "code", data := PySem.Data.fields #[PySem.Value.str (PySem.Str.ofString "_law_begun") 624, PySem.Value.str (PySem.Str.ofString "_law_begun") 625, PySem.Value.str (PySem.Str.ofString "/claim/cut.py") 626, PySem.Value.int 269 0, PySem.Value.int 1 0, PySem.Value.int 0 0, PySem.Value.int 0 0, PySem.Value.int 3 0, PySem.Value.ref 359, PySem.Value.bool true, PySem.Value.int 181 0, PySem.Value.ref 360, PySem.Value.none, PySem.Value.ref 361, PySem.Value.ref 362, PySem.Value.ref 363, PySem.Value.int 631 0, PySem.Value.int 269 0, PySem.Value.str (PySem.Str.ofString "/claim/cut.py") 632] }),
  (365, { cls := PySem.Value.type "function", data := PySem.Data.func { name := PySem.Str.ofString "_law_begun", qualname := PySem.Str.ofString "_law_begun", params := (dP 42), body := .stmts (dB 42), scope := (dS 42), globals := 3, closure := [], defaults := PySem.Value.none, kwdefaults := PySem.Value.none, pyModule := PySem.Value.str (PySem.Str.ofString "law_uf060004_07") 516, code := PySem.Value.ref 364 } }),
  (371, { cls := PySem.Value.type "code", data := PySem.Data.fields #[PySem.Value.str (PySem.Str.ofString "law") 634, PySem.Value.str (PySem.Str.ofString "law") 635, PySem.Value.str (PySem.Str.ofString "/claim/cut.py") 636, PySem.Value.int 276 0, PySem.Value.int 1 0, PySem.Value.int 0 0, PySem.Value.int 0 0, PySem.Value.int 3 0, PySem.Value.ref 366, PySem.Value.bool true, PySem.Value.int 181 0, PySem.Value.ref 367, PySem.Value.none, PySem.Value.ref 368, PySem.Value.ref 369, PySem.Value.ref 370, PySem.Value.int 644 0, PySem.Value.int 276 0, PySem.Value.str (PySem.Str.ofString "/claim/cut.py") 645] }),
  (372, { cls := PySem.Value.type "function", data := PySem.Data.func { name := PySem.Str.ofString "law", qualname := PySem.Str.ofString "law", params := (dP 43), body := .stmts (dB 43), scope := (dS 43), globals := 3, closure := [], defaults := PySem.Value.none, kwdefaults := PySem.Value.none, pyModule := PySem.Value.str (PySem.Str.ofString "law_uf060004_07") 516, code := PySem.Value.ref 371 } })]
noncomputable def kas : List Addr := [3, 100, 101, 107, 108, 114, 115, 121, 122, 128, 129, 135, 136, 142, 143, 149, 150, 156, 157, 163, 164, 170, 171, 177, 178, 184, 185, 198, 199, 205, 206, 212, 213, 217, 218, 224, 225, 231, 232, 238, 239, 243, 244, 257, 258, 264, 265, 266, 267, 268, 269, 270, 278, 279, 285, 286, 290, 291, 297, 298, 304, 305, 311, 312, 318, 319, 325, 326, 330, 331, 337, 338, 342, 343, 347, 348, 352, 353, 357, 358, 364, 365, 371, 372]
noncomputable def fns : List (Str × Addr) := [("number_word", 101), ("link_word", 108), ("head_word", 115), ("is_link", 122), ("told_by", 129), ("fields_of", 136), ("is_marked", 143), ("heads", 150), ("with_mark", 157), ("marked", 164), ("_law_at", 279), ("_law_is_int", 286), ("_law_words_are", 291), ("_law_number", 298), ("is_whole", 171), ("need_things", 178), ("word_of", 185), ("_law_places_of", 305), ("_law_cells_of", 312), ("_law_thing", 319), ("_law_handed", 326), ("_law_come_to", 331), ("_law_many", 338), ("_law_made", 343), ("_law_put", 348), ("_law_told", 353), ("_law_stands", 358), ("_law_begun", 365), ("law", 372)]
noncomputable def exs : List (Str × Value) := [("Room", .ref 268), ("NoRoom", .ref 92), ("MOST_CELLS", .int 400 381), ("MOST_DOORS", .int 20 383)]
noncomputable def gl0 : List (Str × Value) := fns.map (fun p => (p.1, Value.ref p.2)) ++ (exs ++ bt)
noncomputable def T0 (P : PySem.Params) : Tbl := ⟨fns, stdB, stdT, kk P, [(268, Str.ofString "row"), (268, Str.ofString "filled")], [(268, Str.ofString "need_boxes", 206), (268, Str.ofString "need_box", 213), (268, Str.ofString "made", 218), (268, Str.ofString "put", 225), (268, Str.ofString "told", 232), (268, Str.ofString "places", 239), (268, Str.ofString "come_to", 244), (268, Str.ofString "used", 258), (268, Str.ofString "cells", 265)], [("Room", 268, 199)], [("MOST_CELLS", 400), ("MOST_DOORS", 20)], [("NoRoom", 92)], false⟩
noncomputable abbrev cx0 (w : World) (s₁ : Shared) (sa : Addr) (ns : List Int) : Cx := ⟨PySem.Challenge.pw_uf060004_07, w, s₁.heap, fun a => if a = sa then some (intsV ns) else none, fun x => gl0.lookup x⟩
theorem glob0 {w : World} {s₁ : Shared} {p : Program} {loose : List Str} {mean : ExcName → Option Value} {mg mb : Str → Option Value} (T : Top p loose mean mg mb s₁.heap) (KX : (kk w.params).In s₁.heap) : GT.all s₁.heap gl0 := by
  refine ⟨glob_K T KX (by kernel_rfl), glob_K T KX (by kernel_rfl), glob_K T KX (by kernel_rfl), glob_K T KX (by kernel_rfl), glob_K T KX (by kernel_rfl), glob_K T KX (by kernel_rfl), glob_K T KX (by kernel_rfl), glob_K T KX (by kernel_rfl), glob_K T KX (by kernel_rfl), glob_K T KX (by kernel_rfl), glob_K T KX (by kernel_rfl), glob_K T KX (by kernel_rfl), glob_K T KX (by kernel_rfl), glob_K T KX (by kernel_rfl), glob_K T KX (by kernel_rfl), glob_K T KX (by kernel_rfl), glob_K T KX (by kernel_rfl), glob_K T KX (by kernel_rfl), glob_K T KX (by kernel_rfl), glob_K T KX (by kernel_rfl), glob_K T KX (by kernel_rfl), glob_K T KX (by kernel_rfl), glob_K T KX (by kernel_rfl), glob_K T KX (by kernel_rfl), glob_K T KX (by kernel_rfl), glob_K T KX (by kernel_rfl), glob_K T KX (by kernel_rfl), glob_K T KX (by kernel_rfl), glob_K T KX (by kernel_rfl), glob_K T KX (by kernel_rfl), glob_K T KX (by kernel_rfl), glob_K T KX (by kernel_rfl), glob_K T KX (by kernel_rfl),
    glob_B T KX (by kernel_rfl) (by decide +kernel) (by decide), glob_B T KX (by kernel_rfl) (by decide +kernel) (by decide), glob_B T KX (by kernel_rfl) (by decide +kernel) (by decide), glob_B T KX (by kernel_rfl) (by decide +kernel) (by decide), glob_B T KX (by kernel_rfl) (by decide +kernel) (by decide), glob_B T KX (by kernel_rfl) (by decide +kernel) (by decide), glob_B T KX (by kernel_rfl) (by decide +kernel) (by decide), glob_B T KX (by kernel_rfl) (by decide +kernel) (by decide), glob_B T KX (by kernel_rfl) (by decide +kernel) (by decide), trivial⟩
section
variable {w : World} {s₁ : Shared} {sa : Addr} {ns : List Int}
theorem d_number_word (KX : (kk w.params).In s₁.heap) : Def (cx0 w s₁ sa ns) 101 ["n"] (bodyOf (fdAt (kk w.params) 101)) (fdAt (kk w.params) 101).scope := def_of KX (by kernel_rfl) _ (arity1 fun a => by kernel_rfl)
theorem d_link_word (KX : (kk w.params).In s₁.heap) : Def (cx0 w s₁ sa ns) 108 ["place"] (bodyOf (fdAt (kk w.params) 108)) (fdAt (kk w.params) 108).scope := def_of KX (by kernel_rfl) _ (arity1 fun a => by kernel_rfl)
theorem d_head_word (KX : (kk w.params).In s₁.heap) : Def (cx0 w s₁ sa ns) 115 ["many", "marked"] (bodyOf (fdAt (kk w.params) 115)) (fdAt (kk w.params) 115).scope := def_of KX (by kernel_rfl) _ (arity2 fun a b => by kernel_rfl)
theorem d_is_link (KX : (kk w.params).In s₁.heap) : Def (cx0 w s₁ sa ns) 122 ["word"] (bodyOf (fdAt (kk w.params) 122)) (fdAt (kk w.params) 122).scope := def_of KX (by kernel_rfl) _ (arity1 fun a => by kernel_rfl)
theorem d_told_by (KX : (kk w.params).In s₁.heap) : Def (cx0 w s₁ sa ns) 129 ["word"] (bodyOf (fdAt (kk w.params) 129)) (fdAt (kk w.params) 129).scope := def_of KX (by kernel_rfl) _ (arity1 fun a => by kernel_rfl)
theorem d_fields_of (KX : (kk w.params).In s₁.heap) : Def (cx0 w s₁ sa ns) 136 ["head"] (bodyOf (fdAt (kk w.params) 136)) (fdAt (kk w.params) 136).scope := def_of KX (by kernel_rfl) _ (arity1 fun a => by kernel_rfl)
theorem d_is_marked (KX : (kk w.params).In s₁.heap) : Def (cx0 w s₁ sa ns) 143 ["head"] (bodyOf (fdAt (kk w.params) 143)) (fdAt (kk w.params) 143).scope := def_of KX (by kernel_rfl) _ (arity1 fun a => by kernel_rfl)
theorem d_heads (KX : (kk w.params).In s₁.heap) : Def (cx0 w s₁ sa ns) 150 ["row", "used"] (bodyOf (fdAt (kk w.params) 150)) (fdAt (kk w.params) 150).scope := def_of KX (by kernel_rfl) _ (arity2 fun a b => by kernel_rfl)
theorem d_with_mark (KX : (kk w.params).In s₁.heap) : Def (cx0 w s₁ sa ns) 157 ["row", "at"] (bodyOf (fdAt (kk w.params) 157)) (fdAt (kk w.params) 157).scope := def_of KX (by kernel_rfl) _ (arity2 fun a b => by kernel_rfl)
theorem d_marked (KX : (kk w.params).In s₁.heap) : Def (cx0 w s₁ sa ns) 164 ["row", "used"] (bodyOf (fdAt (kk w.params) 164)) (fdAt (kk w.params) 164).scope := def_of KX (by kernel_rfl) _ (arity2 fun a b => by kernel_rfl)
theorem d_law_at (KX : (kk w.params).In s₁.heap) : Def (cx0 w s₁ sa ns) 279 ["_law_script", "_law_place"] (bodyOf (fdAt (kk w.params) 279)) (fdAt (kk w.params) 279).scope := def_of KX (by kernel_rfl) _ (arity2 fun a b => by kernel_rfl)
theorem d_law_is_int (KX : (kk w.params).In s₁.heap) : Def (cx0 w s₁ sa ns) 286 ["_law_value"] (bodyOf (fdAt (kk w.params) 286)) (fdAt (kk w.params) 286).scope := def_of KX (by kernel_rfl) _ (arity1 fun a => by kernel_rfl)
theorem d_law_words_are (KX : (kk w.params).In s₁.heap) : Def (cx0 w s₁ sa ns) 291 ["_law_found", "_law_due"] (bodyOf (fdAt (kk w.params) 291)) (fdAt (kk w.params) 291).scope := def_of KX (by kernel_rfl) _ (arity2 fun a b => by kernel_rfl)
theorem d_law_number (KX : (kk w.params).In s₁.heap) : Def (cx0 w s₁ sa ns) 298 ["_law_seed"] (bodyOf (fdAt (kk w.params) 298)) (fdAt (kk w.params) 298).scope := def_of KX (by kernel_rfl) _ (arity1 fun a => by kernel_rfl)
theorem d_is_whole (KX : (kk w.params).In s₁.heap) : Def (cx0 w s₁ sa ns) 171 ["thing"] (bodyOf (fdAt (kk w.params) 171)) (fdAt (kk w.params) 171).scope := def_of KX (by kernel_rfl) _ (arity1 fun a => by kernel_rfl)
theorem d_need_things (KX : (kk w.params).In s₁.heap) : Def (cx0 w s₁ sa ns) 178 ["things"] (bodyOf (fdAt (kk w.params) 178)) (fdAt (kk w.params) 178).scope := def_of KX (by kernel_rfl) _ (arity1 fun a => by kernel_rfl)
theorem d_word_of (KX : (kk w.params).In s₁.heap) : Def (cx0 w s₁ sa ns) 185 ["thing"] (bodyOf (fdAt (kk w.params) 185)) (fdAt (kk w.params) 185).scope := def_of KX (by kernel_rfl) _ (arity1 fun a => by kernel_rfl)
theorem d_law_places_of (KX : (kk w.params).In s₁.heap) : Def (cx0 w s₁ sa ns) 305 ["_law_order", "_law_fields"] (bodyOf (fdAt (kk w.params) 305)) (fdAt (kk w.params) 305).scope := def_of KX (by kernel_rfl) _ (arity2 fun a b => by kernel_rfl)
theorem d_law_cells_of (KX : (kk w.params).In s₁.heap) : Def (cx0 w s₁ sa ns) 312 ["_law_order", "_law_fields", "_law_size"] (bodyOf (fdAt (kk w.params) 312)) (fdAt (kk w.params) 312).scope := def_of KX (by kernel_rfl) _ (arity3 fun a b c => by kernel_rfl)
theorem d_law_thing (KX : (kk w.params).In s₁.heap) : Def (cx0 w s₁ sa ns) 319 ["_law_seed", "_law_order"] (bodyOf (fdAt (kk w.params) 319)) (fdAt (kk w.params) 319).scope := def_of KX (by kernel_rfl) _ (arity2 fun a b => by kernel_rfl)
theorem d_law_handed (KX : (kk w.params).In s₁.heap) : Def (cx0 w s₁ sa ns) 326 ["_law_thing_here", "_law_places"] (bodyOf (fdAt (kk w.params) 326)) (fdAt (kk w.params) 326).scope := def_of KX (by kernel_rfl) _ (arity2 fun a b => by kernel_rfl)
theorem d_law_come_to (KX : (kk w.params).In s₁.heap) : Def (cx0 w s₁ sa ns) 331 ["_law_order", "_law_fields"] (bodyOf (fdAt (kk w.params) 331)) (fdAt (kk w.params) 331).scope := def_of KX (by kernel_rfl) _ (arity2 fun a b => by kernel_rfl)
theorem d_law_many (KX : (kk w.params).In s₁.heap) : Def (cx0 w s₁ sa ns) 338 ["_law_cell", "_law_seed"] (bodyOf (fdAt (kk w.params) 338)) (fdAt (kk w.params) 338).scope := def_of KX (by kernel_rfl) _ (arity2 fun a b => by kernel_rfl)
theorem d_law_made (KX : (kk w.params).In s₁.heap) : Def (cx0 w s₁ sa ns) 343 ["_law_room", "_law_state", "_law_cell", "_law_seed"] (bodyOf (fdAt (kk w.params) 343)) (fdAt (kk w.params) 343).scope := def_of KX (by kernel_rfl) _ (arity4 fun a b c d => by kernel_rfl)
theorem d_law_put (KX : (kk w.params).In s₁.heap) : Def (cx0 w s₁ sa ns) 348 ["_law_room", "_law_state", "_law_seed"] (bodyOf (fdAt (kk w.params) 348)) (fdAt (kk w.params) 348).scope := def_of KX (by kernel_rfl) _ (arity3 fun a b c => by kernel_rfl)
theorem d_law_told (KX : (kk w.params).In s₁.heap) : Def (cx0 w s₁ sa ns) 353 ["_law_room", "_law_state"] (bodyOf (fdAt (kk w.params) 353)) (fdAt (kk w.params) 353).scope := def_of KX (by kernel_rfl) _ (arity2 fun a b => by kernel_rfl)
theorem d_law_stands (KX : (kk w.params).In s₁.heap) : Def (cx0 w s₁ sa ns) 358 ["_law_room", "_law_state"] (bodyOf (fdAt (kk w.params) 358)) (fdAt (kk w.params) 358).scope := def_of KX (by kernel_rfl) _ (arity2 fun a b => by kernel_rfl)
theorem d_law_begun (KX : (kk w.params).In s₁.heap) : Def (cx0 w s₁ sa ns) 365 ["_law_script"] (bodyOf (fdAt (kk w.params) 365)) (fdAt (kk w.params) 365).scope := def_of KX (by kernel_rfl) _ (arity1 fun a => by kernel_rfl)
theorem d_law (KX : (kk w.params).In s₁.heap) : Def (cx0 w s₁ sa ns) 372 ["_law_script"] (bodyOf (fdAt (kk w.params) 372)) (fdAt (kk w.params) 372).scope := def_of KX (by kernel_rfl) _ (arity1 fun a => by kernel_rfl)
theorem d_Room_init (KX : (kk w.params).In s₁.heap) : Def (cx0 w s₁ sa ns) 199 ["self", "size", "doors"] (bodyOf (fdAt (kk w.params) 199)) (fdAt (kk w.params) 199).scope := def_of KX (by kernel_rfl) _ (arity3 fun a b c => by kernel_rfl)
theorem d_Room_need_boxes (KX : (kk w.params).In s₁.heap) : Def (cx0 w s₁ sa ns) 206 ["self", "things"] (bodyOf (fdAt (kk w.params) 206)) (fdAt (kk w.params) 206).scope := def_of KX (by kernel_rfl) _ (arity2 fun a b => by kernel_rfl)
theorem d_Room_need_box (KX : (kk w.params).In s₁.heap) : Def (cx0 w s₁ sa ns) 213 ["self", "place"] (bodyOf (fdAt (kk w.params) 213)) (fdAt (kk w.params) 213).scope := def_of KX (by kernel_rfl) _ (arity2 fun a b => by kernel_rfl)
theorem d_Room_made (KX : (kk w.params).In s₁.heap) : Def (cx0 w s₁ sa ns) 218 ["self", "things"] (bodyOf (fdAt (kk w.params) 218)) (fdAt (kk w.params) 218).scope := def_of KX (by kernel_rfl) _ (arity2 fun a b => by kernel_rfl)
theorem d_Room_put (KX : (kk w.params).In s₁.heap) : Def (cx0 w s₁ sa ns) 225 ["self", "place", "field", "thing"] (bodyOf (fdAt (kk w.params) 225)) (fdAt (kk w.params) 225).scope := def_of KX (by kernel_rfl) _ (arity4 fun a b c d => by kernel_rfl)
theorem d_Room_told (KX : (kk w.params).In s₁.heap) : Def (cx0 w s₁ sa ns) 232 ["self", "place"] (bodyOf (fdAt (kk w.params) 232)) (fdAt (kk w.params) 232).scope := def_of KX (by kernel_rfl) _ (arity2 fun a b => by kernel_rfl)
theorem d_Room_places (KX : (kk w.params).In s₁.heap) : Def (cx0 w s₁ sa ns) 239 ["self"] (bodyOf (fdAt (kk w.params) 239)) (fdAt (kk w.params) 239).scope := def_of KX (by kernel_rfl) _ (arity1 fun a => by kernel_rfl)
theorem d_Room_come_to (KX : (kk w.params).In s₁.heap) : Def (cx0 w s₁ sa ns) 244 ["self"] (bodyOf (fdAt (kk w.params) 244)) (fdAt (kk w.params) 244).scope := def_of KX (by kernel_rfl) _ (arity1 fun a => by kernel_rfl)
theorem d_Room_used (KX : (kk w.params).In s₁.heap) : Def (cx0 w s₁ sa ns) 258 ["self"] (bodyOf (fdAt (kk w.params) 258)) (fdAt (kk w.params) 258).scope := def_of KX (by kernel_rfl) _ (arity1 fun a => by kernel_rfl)
theorem d_Room_cells (KX : (kk w.params).In s₁.heap) : Def (cx0 w s₁ sa ns) 265 ["self"] (bodyOf (fdAt (kk w.params) 265)) (fdAt (kk w.params) 265).scope := def_of KX (by kernel_rfl) _ (arity1 fun a => by kernel_rfl)
end
theorem walk0 {w : World} {s₁ : Shared} {p : Program} {loose : List Str} {mean : ExcName → Option Value} {mg mb : Str → Option Value} (T : Top p loose mean mg mb s₁.heap) (hseer : s₁.heap.NoSeer) (KX : (kk w.params).In s₁.heap)
    {sa : Addr} {vs : List Value} {ns : List Int} (hW : Well w.params s₁.heap (.ref sa) (ofPy (PyData.list (ns.map PyData.int)))) (hL : s₁.heap.IsList sa vs.toArray) (hI : IntsAre vs ns) (hlay : (PyData.list (ns.map PyData.int)).layable0 = true) (hlen : ns.length ≤ 63) (hX : ExcCls 92 s₁.heap) :
    CallP (cx0 w s₁ sa ns) 9 372 [.ref sa] (fun _ => none) fun v _ => v = .bool true := by
  have C : (cx0 w s₁ sa ns).OK := cx_ok T hseer (glob0 T KX) hW hL hI rfl
  have TO : Tbl.OK (cx0 w s₁ sa ns) (T0 w.params) := tbl_ok KX rfl (by kernel_rfl) (by kernel_rfl) (by kernel_rfl) (by kernel_rfl) (by kernel_rfl) (by kernel_rfl) (by kernel_rfl) (by kernel_rfl) (by kernel_rfl) (by kernel_rfl) (fun p hp => by rw [List.mem_singleton] at hp; subst hp; exact hX)
  have hbits : ∀ v, (v ∈ ns ∨ v = 0) → Builtin.Int.intBits v ≤ 1048576 := fun v h => h.elim (fun h => intBits_le_of_item h hlay) (fun h => by subst h; decide)
  have s_told : ∀ n, Fn1 (cx0 w s₁ sa ns) (n + 1) 129 fun w => .int (w.fdiv 2) := fun n w' H Q h => call_intro C TO (d_told_by KX) (rest := []) (ms := m_told_by) (by decide) (by kernel_rfl) (by kernel_rfl) rfl (told_ms h)
  have s_islink : ∀ n, Fn1 (cx0 w s₁ sa ns) (n + 1) 122 fun w => .bool (w.fmod 2 == 1) := fun n p H Q h => call_intro C TO (d_is_link KX) (rest := []) (ms := m_is_link) (by decide) (by kernel_rfl) (by kernel_rfl) rfl (islink_ms h)
  have s_fields : ∀ n, Fn1 (cx0 w s₁ sa ns) (n + 1) 136 fun w => .int (w.fdiv 4) := fun n p H Q h => call_intro C TO (d_fields_of KX) (rest := []) (ms := m_fields_of) (by decide) (by kernel_rfl) (by kernel_rfl) rfl (fields_ms h)
  have s_ismarked : ∀ n, Fn1 (cx0 w s₁ sa ns) (n + 1) 143 fun w => .bool ((w.fdiv 2).fmod 2 == 1) := fun n p H Q h => call_intro C TO (d_is_marked KX) (rest := []) (ms := m_is_marked) (by decide) (by kernel_rfl) (by kernel_rfl) rfl (ismarked_ms h)
  have s_numw : ∀ n, Fn1 (cx0 w s₁ sa ns) (n + 1) 101 fun p => .int (2 * p) := fun n p H Q h => call_intro C TO (d_number_word KX) (rest := []) (ms := m_number_word) (by decide) (by kernel_rfl) (by kernel_rfl) rfl (numw_ms h)
  have s_link : ∀ n, Fn1 (cx0 w s₁ sa ns) (n + 1) 108 fun p => .int (2 * p + 1) := fun n p H Q h => call_intro C TO (d_link_word KX) (rest := []) (ms := m_link_word) (by decide) (by kernel_rfl) (by kernel_rfl) rfl (link_ms h)
  have s_headw : ∀ n (p : Int) (b : Bool) (H : HP) (Q : V → HP → Prop), Q (.int (4 * p + 2 * (if b then 1 else 0))) H → CallP (cx0 w s₁ sa ns) (n + 1) 115 [.int p, .bool b] H Q := fun n p b H Q h => call_intro C TO (d_head_word KX) (rest := []) (ms := m_head_word) (by decide) (by kernel_rfl) (by kernel_rfl) rfl (headw_ms h)
  have s_withmark : ∀ n, WithMarkSpec (cx0 w s₁ sa ns) (n + 2) 157 := fun n row xs p w' H Q h1 h2 h3 h4 => call_intro C TO (d_with_mark KX) (rest := ["found"]) (ms := m_with_mark 115 136) (by decide) (by kernel_rfl) (by kernel_rfl) rfl (withmark_ms (s_headw n) (s_fields n) h1 h2 h3 h4)
  have s_marked : ∀ n, MarkedSpec (cx0 w s₁ sa ns) (n + 3) 164 := fun n row xs B used H Q h1 h2 h3 h4 h5 => call_intro C TO (d_marked KX) (rest := ["found", "waiting", "at", "word"]) (ms := m_marked 157 136 122 143 129) (by decide) (by kernel_rfl) (by kernel_rfl) rfl (marked_ms (s_withmark n) (s_fields (n + 1)) (s_islink (n + 1)) (s_ismarked (n + 1)) (s_told (n + 1)) h1 h2 h3 h4 h5)
  have s_heads : ∀ n, HeadsSpec (cx0 w s₁ sa ns) (n + 2) 150 := fun n row xs B H Q h1 h2 h3 h4 => call_intro C TO (d_heads KX) (rest := ["found", "at"]) (ms := m_heads 136) (by decide) (by kernel_rfl) (by kernel_rfl) rfl (heads_ms (s_fields n) h1 h2 h3 h4)
  have s_at : ∀ n, AtSpec (cx0 w s₁ sa ns) (n + 1) 279 sa ns := fun n p H Q h1 h2 h3 => call_intro C TO (d_law_at KX) (rest := []) (ms := m_law_at) (by decide) (by kernel_rfl) (by kernel_rfl) rfl (at_ms h1 (by omega) h2 fun v hv => h3 v (hbits v hv))
  have s_isint : ∀ n v H Q, Q (.bool true) H → CallP (cx0 w s₁ sa ns) (n + 1) 286 [.int v] H Q := fun n v H Q h => call_intro C TO (d_law_is_int KX) (rest := []) (ms := m_law_is_int) (by decide) (by kernel_rfl) (by kernel_rfl) rfl (isint_ms h)
  have s_num : ∀ n, NumSpec (cx0 w s₁ sa ns) (n + 1) 298 := fun n s H Q h1 h2 => call_intro C TO (d_law_number KX) (rest := []) (ms := m_law_number) (by decide) (by kernel_rfl) (by kernel_rfl) rfl (number_ms h1 h2)
  have s_words : ∀ n, WordsSp (cx0 w s₁ sa ns) (n + 2) 291 := fun n fa da xs H Q h1 h2 h3 h4 => call_intro C TO (d_law_words_are KX) (rest := []) (ms := m_law_words_are 286) (by decide) (by kernel_rfl) (by kernel_rfl) rfl (words_ms (s_isint n) h1 h2 h3 h4)
  have s_whole : ∀ n, WholeSp (cx0 w s₁ sa ns) (n + 1) 171 := fun n i H Q h => call_intro C TO (d_is_whole KX) (rest := []) (ms := m_is_whole) (by decide) (by kernel_rfl) (by kernel_rfl) rfl (whole_ms h)
  have s_needt : ∀ n, NeedTSpec (cx0 w s₁ sa ns) (n + 2) 178 := fun n la vs ts H Q h1 h2 h3 h4 => call_intro C TO (d_need_things KX) (rest := ["thing"]) (ms := m_need_things 171) (by decide) (by kernel_rfl) (by kernel_rfl) rfl (needT_ms (s_whole n) h1 h2 h3 h4)
  have s_wordof : ∀ n, WordOfSpec (cx0 w s₁ sa ns) (n + 2) 185 := fun n b t H Q h1 h2 => call_intro C TO (d_word_of KX) (rest := []) (ms := m_word_of 101 108) (by decide) (by kernel_rfl) (by kernel_rfl) rfl (wordof_ms (s_numw n) (s_link n) h1 h2)
  have s_pl : ∀ n, PlSpec (cx0 w s₁ sa ns) 268 (n + 3) 239 := fun n N rm dx ra B H Q h1 h2 => call_intro C TO (d_Room_places KX) (rest := []) (ms := m_Room_places 150 268) (by decide) (by kernel_rfl) (by kernel_rfl) rfl (places_ms (s_heads n) h1 h2)
  have s_needb : ∀ n, NeedBSpec (cx0 w s₁ sa ns) 268 (n + 4) 206 := fun n N rm dx ra la B vs ts H Q h1 h2 h3 h4 h5 h6 => call_intro C TO (d_Room_need_boxes KX) (rest := ["known", "thing"]) (ms := m_Room_need_boxes 268 239) (by decide) (by kernel_rfl) (by kernel_rfl) rfl (needB_ms (s_pl n) h1 h2 h3 h4 h5 h6)
  have s_needx : ∀ n, NeedXSpec (cx0 w s₁ sa ns) 268 (n + 4) 213 := fun n N rm dx ra B k H Q h1 h2 h3 => call_intro C TO (d_Room_need_box KX) (rest := []) (ms := m_Room_need_box 171 268 239) (by decide) (by kernel_rfl) (by kernel_rfl) rfl (needX_ms (s_whole (n + 2)) (s_pl n) h1 h2 h3)
  have s_tolds : ∀ n, ToldSpec (cx0 w s₁ sa ns) 268 (n + 5) 232 := fun n N rm dx ra B k fl H Q h1 h2 h3 => call_intro C TO (d_Room_told KX) (rest := ["found", "word"]) (ms := m_Room_told 268 213 136 122 129) (by decide) (by kernel_rfl) (by kernel_rfl) rfl (told9_ms (s_needx n) (s_fields (n + 3)) (s_islink (n + 3)) (s_told (n + 3)) h1 h2 h3)
  have s_made : ∀ n, MadeSpec (cx0 w s₁ sa ns) 268 92 (n + 5) 218 := fun n N rm dx ra la B vs ts H Q h1 h2 h3 h4 h5 h6 h7 => call_introX C TO (d_Room_made KX) (rest := ["place", "behind", "words"]) (ms := m_Room_made 178 268 206 92 115 185) (by decide) (by kernel_rfl) (by kernel_rfl) rfl (made_ms (s_needt (n + 2)) (s_needb n) (s_headw (n + 3)) (s_wordof (n + 2)) h1 h2 h3 h4 h5 h6 h7)
  have s_put : ∀ n, PutSpec (cx0 w s₁ sa ns) 268 (n + 5) 225 := fun n N rm dx ra b B k j f t H Q h1 h2 h3 h4 h5 h6 => call_intro C TO (d_Room_put KX) (rest := []) (ms := m_Room_put 268 213 171 136 178 206 185) (by decide) (by kernel_rfl) (by kernel_rfl) rfl (put_ms (s_needx n) (s_whole (n + 3)) (s_fields (n + 3)) (s_needt (n + 2)) (s_needb n) (s_wordof (n + 2)) h1 h2 h3 h4 h5 h6)
  have s_come : ∀ n, ComeSpec (cx0 w s₁ sa ns) 268 (n + 4) 244 := fun n N rm dx ra B H Q h1 h2 => call_intro C TO (d_Room_come_to KX) (rest := ["row"]) (ms := m_Room_come_to 164 268 143 239) (by decide) (by kernel_rfl) (by kernel_rfl) rfl (come_ms (s_marked n) (s_ismarked (n + 2)) (s_pl n) h1 h2)
  have s_used : ∀ n, UsedSpec (cx0 w s₁ sa ns) 268 (n + 1) 258 := fun n N rm dx ra B H Q h1 h2 => call_intro C TO (d_Room_used KX) (rest := []) (ms := m_Room_used 268) (by decide) (by kernel_rfl) (by kernel_rfl) rfl (used_ms h1 h2)
  have s_cells : ∀ n, CellsSpec (cx0 w s₁ sa ns) 268 (n + 1) 265 := fun n N rm dx ra B H Q h1 h2 => call_intro C TO (d_Room_cells KX) (rest := []) (ms := m_Room_cells 268) (by decide) (by kernel_rfl) (by kernel_rfl) rfl (cells_ms h1 h2)
  have s_init : ∀ n, InitSpec (cx0 w s₁ sa ns) 268 (n + 2) 199 := fun n rm dx N d H Q h1 h2 h3 h4 h5 h6 => call_intro C TO (d_Room_init KX) (rest := []) (ms := m_Room_init 171 268 115) (by decide) (by kernel_rfl) (by kernel_rfl) rfl (init_ms (s_whole n) (s_headw n) h1 h2 h3 h4 h5 h6)
  have s_po : ∀ n, PlacesOfSpec (cx0 w s₁ sa ns) (n + 1) 305 := fun n oa da fl B H Q h1 h2 h3 h4 h5 => call_intro C TO (d_law_places_of KX) (rest := ["_law_found", "_law_at_here", "_law_one"]) (ms := m_law_places_of) (by decide) (by kernel_rfl) (by kernel_rfl) rfl (placesof_ms h1 h2 h3 h4 h5)
  have s_thing : ∀ n, ThingSpec (cx0 w s₁ sa ns) (n + 2) 319 := fun n oa B seed H Q h1 h2 h3 h4 h5 h6 => call_intro C TO (d_law_thing KX) (rest := []) (ms := m_law_thing 298) (by decide) (by kernel_rfl) (by kernel_rfl) rfl (thing_ms (s_num n) h1 h2 h3 h4 h5 h6)
  have s_handed : ∀ n, HandedSpec (cx0 w s₁ sa ns) (n + 1) 326 := fun n b pa B t H Q h1 h2 h3 h4 => call_intro C TO (d_law_handed KX) (rest := []) (ms := m_law_handed) (by decide) (by kernel_rfl) (by kernel_rfl) rfl (handed_ms h1 h2 h3 fun v H2 x ⟨b2, q1, q2⟩ => by subst q1; exact h4 _ _ x ⟨b2, rfl, q2⟩)
  have s_many : ∀ n, ManySpec (cx0 w s₁ sa ns) (n + 1) 338 := fun n cell seed H Q h1 => call_intro C TO (d_law_many KX) (rest := []) (ms := m_law_many) (by decide) (by kernel_rfl) (by kernel_rfl) rfl (many_ms h1)
  have s_lcome : ∀ n, LComeSpec (cx0 w s₁ sa ns) (n + 1) 331 := fun n oa da fl B H Q h1 h2 h3 h4 h5 h6 => call_intro C TO (d_law_come_to KX) (rest := ["_law_found", "_law_turn", "_law_thing_here"]) (ms := m_law_come_to) (by decide) (by kernel_rfl) (by kernel_rfl) rfl (lcome_ms h1 h2 h3 h4 h5 h6)
  have s_cellsof : ∀ n, CellsOfSpec (cx0 w s₁ sa ns) (n + 2) 312 := fun n oa da fl B N H Q h1 h2 h3 h4 h5 h6 h7 => call_intro C TO (d_law_cells_of KX) (rest := ["_law_places", "_law_row", "_law_one", "_law_thing_here"]) (ms := m_law_cells_of 305) (by decide) (by kernel_rfl) (by kernel_rfl) rfl (cellsof_ms (s_po n) h1 h2 h3 h4 h5 h6 h7)
  have s_ltold : ∀ n, LToldSpec (cx0 w s₁ sa ns) 268 (n + 6) 353 := fun n N rm st oa da fa pa dx ra B fl ps H Q h1 h2 h3 => call_intro C TO (d_law_told KX) (rest := ["_law_places", "_law_one", "_law_due", "_law_found", "_law_thing_here"]) (ms := m_law_told 305 326 268 232 286) (by decide) (by kernel_rfl) (by kernel_rfl) rfl (ltold_ms (s_po (n + 4)) (s_handed (n + 4)) (s_tolds n) (s_isint (n + 4)) h1 h2 h3)
  have s_stands : ∀ n, StandsSpec (cx0 w s₁ sa ns) 268 (n + 7) 358 := fun n N rm st oa da fa pa dx ra B fl ps H Q h1 h2 h3 => call_intro C TO (d_law_stands KX) (rest := ["_law_used", "_law_places", "_law_found"]) (ms := m_law_stands 305 291 268 258 353 239 244 331 265 232 312) (by decide) (by kernel_rfl) (by kernel_rfl) rfl (stands_ms (s_po (n + 5)) (s_words (n + 4)) (s_used (n + 5)) (s_ltold n) (s_pl (n + 3)) (s_come (n + 2)) (s_lcome (n + 5)) (s_cells (n + 5)) (s_tolds (n + 1)) (s_cellsof (n + 4)) h1 h2 h3)
  have s_lput : ∀ n, LPutSpec (cx0 w s₁ sa ns) 268 (n + 6) 348 := fun n N rm st oa da fa pa dx ra B fl ps seed H Q h1 h2 => call_intro C TO (d_law_put KX) (rest := ["_law_order", "_law_fields", "_law_one", "_law_field", "_law_thing_here", "_law_places", "_law_found", "_law_row"]) (ms := m_law_put 319 305 291 268 244 331 225 326) (by decide) (by kernel_rfl) (by kernel_rfl) rfl (lput_ms (s_thing (n + 3)) (s_po (n + 4)) (s_words (n + 3)) (s_come (n + 1)) (s_lcome (n + 4)) (s_put n) (s_handed (n + 4)) h1 h2)
  have s_lmade : ∀ n, LMadeSpec (cx0 w s₁ sa ns) 268 (n + 6) 343 := fun n N rm st oa da fa pa dx ra B fl ps cell seed H Q h1 h2 h3 => call_intro C TO (d_law_made KX) (rest := ["_law_order", "_law_fields", "_law_seeds", "_law_things", "_law_places", "_law_used", "_law_due", "_law_handed_here", "_law_found", "_law_fresh"]) (ms := m_law_made 338 319 305 326 268 218 92 286) (by decide) (by kernel_rfl) (by kernel_rfl) rfl (lmade_ms (s_many (n + 4)) (s_thing (n + 3)) (s_po (n + 4)) (s_handed (n + 4)) (s_made n) (s_isint (n + 4)) h1 h2 h3)
  have s_begun : ∀ n, BegunSpec (cx0 w s₁ sa ns) 268 (n + 4) 365 sa ns := fun n H Q h1 h2 => call_intro C TO (d_law_begun KX) (rest := ["_law_doors", "_law_size", "_law_fields"]) (ms := m_law_begun 279 268 199) (by decide) (by kernel_rfl) (by kernel_rfl) rfl (begun_ms (Nat.succ_pos _) (s_init n) (s_at (n + 2)) h1 h2)
  refine call_intro C TO (d_law KX) (rest := ["_law_begun_here", "_law_room", "_law_state", "_law_k", "_law_cell", "_law_seed"]) (ms := m_law7 365 358 343 348) (by decide) (by kernel_rfl) (by kernel_rfl) rfl ?_
  exact law7_ms (s_begun 4) (s_stands 1) (s_lmade 2) (s_lput 2) (if_pos rfl) rfl (by omega) fun _ => rfl
end Mine

set_option maxHeartbeats 0 in
set_option maxRecDepth 1000000 in
theorem Mine.said : PySem.W.OpenLaw.wellSaid PySem.Challenge.rw_uf060004_07 = true := by kernel_rfl
theorem PySem.Challenge.cw_uf060004_07_holds : PySem.Challenge.rw_uf060004_07.Holds := by
  w_on
  refine PySem.W.holds_law Mine.said fun said => ?_
  o_head (kHook Mine.kk Mine.kas (fun _ => rfl))
  (case hw => w_witness2)
  intro w s₀ s₁ mg mb G Y fa o pm cd doc dV kV ho hd hcd hD hmg hg args vals as hpre hlay hrd hwl hlo
  have KX := kIn_of Y
  refine Ground.open G ?_
  intro T B D TE TW
  wrow_args hpre hlay hrd hwl hlo
  refine enter_call ?_
  rename_i ns _ _ hlay _ _ _ _ sa vs _ hL _ hW _ hI _ hlen _
  have hfa : fa = 372 := by
    have h1 : mg ("law" : Str) = some (.ref fa) := hmg
    have h2 : mg ("law" : Str) = some (.ref 372) := mg_of KX T.g (by kernel_rfl)
    rw [h1] at h2; cases h2; rfl
  subst hfa
  exact Mine.law_end (cx := Mine.cx0 w s₁ sa ns) rfl hg (by decide) (Mine.walk0 T (T.seer (by decide +kernel)) KX hW hL hI hlay (by omega) (Mine.excls T KX (x := "NoRoom") (by kernel_rfl) (by kernel_rfl)))

