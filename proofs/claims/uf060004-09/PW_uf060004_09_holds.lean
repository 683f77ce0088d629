import PyProof.Rows.All
import Wide.All
import OpenK.KWalk
import Wide.FinOn
import KE.IntBitsLaws
import PyProof.Comp
import PyProof.CompFree
import PyProof.SliceList
import PyProof.Cells
import PyProof.Seq
import PyProof.RangeIter
import PyProof.Rules3
import PyProof.ListIndex
import PyProof.PlainList
import PyProof.Rows.Globals
import PyProof.NoPylong
import PyProof.SeqI3
import PyProof.P3Statements
import PyProof.ListOps
import PyProof.WalkInts
import PyProof.EqAt
import PyProof.IsiPairs
import PyProof.IsiHeapPairs
import PyProof.Rows.RuleB_mul
import PyProof.Rows.RuleB_mod
import PyProof.Rows.RuleB_floordiv
import PyProof.Rows.RuleB_pow
import PyProof.Rows.RuleC_int
import PyProof.Rows.RuleC_bool
import PyProof.Rows.RuleU_int
import PyProof.Rows.IntRules
import PyProof.Rows.StrRules
import PyProof.IsRules
import PyProof.Rows.StrTemp
import PyProof.Rows.TupSub
import PyProof.Rows.ListMul
import PyProof.Conv_int_bool
import PyProof.Rows.Tup
import PyProof.Rows.Chain
import PyProof.Rows.Nodes
import PyProof.EqKinds
import PyProof.Rows.EqDataRows
import PyProof.ListCopy
import PyProof.SeqI
import PyProof.FactsAll.list_0
import PyProof.FactsAll.list_3
import PyProof.CallRoads
import PyProof.Rows.TupMore
import PyProof.RulesDelMore
import PyProof.RangeFor
import PyProof.WalksMore
import PyProof.CompMap
import PyProof.CompUse
import PyProof.AssignAttr
import PyProof.Rows.Walk
import PySem.Challenge.RW_uf060004_09
set_option Elab.async false
section
namespace Mine
open PySem PyProof.Rows

inductive V where
  | unb | none | bool (b : Bool) | int (i : Int) | str (x : Str) | ref (a : Addr) | other

noncomputable def abs : Value → V
  | .none => .none
  | .bool b => .bool b
  | .int i _ => .int i
  | .str x _ => .str x
  | .ref a => .ref a
  | _ => .other

inductive O where
  | list (vs : List V)
  | tup (vs : List V)
  | inst (C dx : Addr)
  | flds (fs : List (Str × V))

noncomputable def keyS (e : DictEntry) : Option Str := match e.key with
  | .str x _ => some x
  | _ => none

noncomputable def Rep (h : Heap) (a : Addr) : O → Prop
  | .list vs => ∃ items n, h.get? a = some { cls := .type "list", data := .seq items n } ∧ items.toList.map abs = vs
  | .tup vs => ∃ items n, h.get? a = some { cls := .type "tuple", data := .seq items n } ∧ items.toList.map abs = vs
  | .inst C dx => h.get? a = some (PySem.W.instObj C dx)
  | .flds fs => ∃ es n, h.get? a = some (PySem.W.dictOf es n) ∧ es.map (fun e => (keyS e, abs e.val)) = fs.map fun p => (some p.1, p.2)

theorem Rep.get {h : Heap} {a : Addr} : ∀ {o : O}, Rep h a o → ∃ ob, h.get? a = some ob
  | .list _, ⟨_, _, e, _⟩ => ⟨_, e⟩
  | .tup _, ⟨_, _, e, _⟩ => ⟨_, e⟩
  | .inst _ _, e => ⟨_, e⟩
  | .flds _, ⟨_, _, e, _⟩ => ⟨_, e⟩

theorem Rep.of_eq {h h' : Heap} {a : Addr} (e : h'.get? a = h.get? a) : ∀ {o : O}, Rep h a o → Rep h' a o
  | .list _, ⟨i, n, q, m⟩ => ⟨i, n, e.trans q, m⟩
  | .tup _, ⟨i, n, q, m⟩ => ⟨i, n, e.trans q, m⟩
  | .inst _ _, q => Eq.trans e q
  | .flds _, ⟨i, n, q, m⟩ => ⟨i, n, e.trans q, m⟩

theorem Rep.keep {h h' : Heap} {a : Addr} (k : ∀ o, h.get? a = some o → h'.get? a = some o) {o : O} (r : Rep h a o) : Rep h' a o := by
  obtain ⟨ob, e⟩ := r.get
  exact r.of_eq ((k _ e).trans e.symm)

noncomputable abbrev HP := Addr → Option O

noncomputable def upd (H : HP) (a : Addr) (o : O) : HP := fun b => if b = a then some o else H b

theorem upd_same (H : HP) (a : Addr) (o : O) : upd H a o a = some o := by simp [upd]
theorem upd_ne {H : HP} {a b : Addr} (o : O) (h : b ≠ a) : upd H a o b = H b := by simp [upd, h]
theorem upd_upd (H : HP) (a : Addr) (o o' : O) : upd (upd H a o) a o' = upd H a o' := by
  funext b; by_cases h : b = a <;> simp [upd, h]

noncomputable def LE (H H' : HP) : Prop := ∀ a o, H a = some o → H' a = some o
theorem LE.refl (H : HP) : LE H H := fun _ _ e => e
theorem LE.trans {A B C : HP} (x : LE A B) (y : LE B C) : LE A C := fun a o e => y a o (x a o e)
theorem LE.upd {H H' : HP} (x : LE H H') (a : Addr) (o : O) : LE (Mine.upd H a o) (Mine.upd H' a o) := by
  intro b o' e
  by_cases h : b = a
  · subst h; rw [upd_same] at e ⊢; exact e
  · rw [upd_ne _ h] at e ⊢; exact x _ _ e
theorem LE.fresh {H : HP} {a : Addr} (h : H a = Option.none) (o : O) : LE H (Mine.upd H a o) := by
  intro b o' e
  by_cases hb : b = a
  · subst hb; rw [h] at e; cases e
  · rw [upd_ne _ hb]; exact e

structure Cx where
  prog : Program
  w : World
  base : Heap
  Z : Addr → Option (List V)
  gl : Str → Option Value

noncomputable def GlobAt (h : Heap) (x : Str) (v : Value) : Prop :=
  (∃ mg, h.Ns mainGlobals mg ∧ mg x = some v) ∨ ∃ mg mb, h.Ns mainGlobals mg ∧ mg x = none ∧ h.Ns builtinsNs mb ∧ mb x = some v

structure Cx.OK (cx : Cx) : Prop where
  nolimit : cx.base.NoLimit
  seer : cx.base.NoSeer
  tree : cx.prog.given.tree = none
  glob : ∀ x v, cx.gl x = some v → GlobAt cx.base x v
  z : ∀ a vs, cx.Z a = some vs → Rep cx.base a (.list vs)

noncomputable def getL : List V → Nat → V
  | [], _ => .unb
  | a :: _, 0 => a
  | _ :: l, n + 1 => getL l n
noncomputable def setL : List V → Nat → V → List V
  | [], _, _ => []
  | _ :: l, 0, v => v :: l
  | a :: l, n + 1, v => a :: setL l n v

theorem setL_length : ∀ (l : List V) (i : Nat) (v : V), (setL l i v).length = l.length
  | [], _, _ => rfl
  | _ :: _, 0, _ => rfl
  | _ :: l, n + 1, v => by simp [setL, setL_length l n v]
theorem getL_setL_same : ∀ (l : List V) (i : Nat) (v : V), i < l.length → getL (setL l i v) i = v
  | _ :: _, 0, _, _ => rfl
  | _ :: l, n + 1, v, h => getL_setL_same l n v (Nat.lt_of_succ_lt_succ h)
theorem getL_setL_ne : ∀ (l : List V) (i j : Nat) (v : V), i ≠ j → getL (setL l i v) j = getL l j
  | [], _, _, _, _ => rfl
  | _ :: _, 0, 0, _, h => absurd rfl h
  | _ :: _, 0, _ + 1, _, _ => rfl
  | _ :: _, _ + 1, 0, _, _ => rfl
  | _ :: l, n + 1, m + 1, v, h => getL_setL_ne l n m v (fun e => h (by rw [e]))

structure Fm where
  env : Env
  names : List (Option Str)

noncomputable def Fm.own (fm : Fm) (a : Addr) : Prop := a = fm.env.locals ∨ ∃ x, fm.env.cells.lookup x = some a

noncomputable def VarAt (env : Env) (h : Heap) (x : Str) (v : Option Value) : Prop :=
  (env.kindOf x = some .local ∧ ∃ m, h.Ns env.locals m ∧ m x = v) ∨ (env.kindOf x = some .cell ∧ ∃ c, env.cells.lookup x = some c ∧ h.IsCell c v)

structure Fm.OK (cx : Cx) (fm : Fm) : Prop where
  kind : fm.env.scope.kind = .function
  globals : fm.env.globals = mainGlobals
  builtins : fm.env.builtins = builtinsNs
  cellsNe : ∀ x c, fm.env.cells.lookup x = some c → c ≠ fm.env.locals
  cellsInj : ∀ x y c, fm.env.cells.lookup x = some c → fm.env.cells.lookup y = some c → x = y
  inj : ∀ (i j : Nat) (x : Str), fm.names[i]? = some (some x) → fm.names[j]? = some (some x) → i = j
  above : ∀ a, fm.own a → cx.base.get? a = none
  cellAt : ∀ x, fm.env.kindOf x = some .cell → ∃ c, fm.env.cells.lookup x = some c

structure FR (fm : Fm) (μ : List V) (h : Heap) : Prop where
  len : μ.length = fm.names.length
  live : ∀ a, fm.own a → ∃ o, h.get? a = some o
  ns : ∃ m, h.Ns fm.env.locals m
  var : ∀ (i : Nat) (x : Str), fm.names[i]? = some (some x) → ∃ ov, VarAt fm.env h x ov ∧ (getL μ i = .unb ∨ ∃ v, ov = some v ∧ abs v = getL μ i)

structure HS (cx : Cx) (H : HP) (s : Shared) : Prop where
  hr : ∀ a o, H a = some o → Rep s.heap a o
  ext : ∀ b o, cx.base.get? b = some o → s.heap.get? b = some o
  low : ∀ a o, H a = some o → cx.base.get? a = none

structure SR (cx : Cx) (fm : Fm) (H : HP) (μ : List V) (s : Shared) : Prop extends HS cx H s where
  fr : FR fm μ s.heap
  own : ∀ a o, H a = some o → ¬ fm.own a

structure Kept (ow : Addr → Prop) (s : Shared) (H : HP) (s' : Shared) (H' : HP) : Prop where
  keep : ∀ b o, s.heap.get? b = some o → H b = none → ¬ ow b → s'.heap.get? b = some o
  dom : ∀ a o, s.heap.get? a = some o → H a = none → ¬ ow a → H' a = none
  os : s'.os = s.os
  gens : s'.gens = s.gens

noncomputable abbrev KE (s : Shared) (H : HP) (s' : Shared) (H' : HP) : Prop := Kept (fun _ => False) s H s' H'

theorem Kept.refl (ow : Addr → Prop) (s : Shared) (H : HP) : Kept ow s H s H := ⟨fun _ _ e _ _ => e, fun _ _ _ e _ => e, rfl, rfl⟩
theorem Kept.trans {ow : Addr → Prop} {s s₁ s₂ : Shared} {H H₁ H₂ : HP} (x : Kept ow s H s₁ H₁) (y : Kept ow s₁ H₁ s₂ H₂) : Kept ow s H s₂ H₂ :=
  ⟨fun b o e n w => y.keep b o (x.keep b o e n w) (x.dom b o e n w) w,
    fun a o e n w => y.dom a o (x.keep a o e n w) (x.dom a o e n w) w, y.os.trans x.os, y.gens.trans x.gens⟩
theorem Kept.mono {ow ow' : Addr → Prop} (h : ∀ a, ow a → ow' a) {s s' : Shared} {H H' : HP} (x : Kept ow s H s' H') : Kept ow' s H s' H' :=
  ⟨fun b o e n w => x.keep b o e n (fun q => w (h b q)), fun b o e n w => x.dom b o e n (fun q => w (h b q)), x.os, x.gens⟩
theorem KE.any {s s' : Shared} {H H' : HP} (x : KE s H s' H') (ow : Addr → Prop) : Kept ow s H s' H' := x.mono fun _ q => q.elim

theorem HS.toks {cx : Cx} {H : HP} {s : Shared} (S : HS cx H s) (n : Nat) : HS cx H { s with toks := n } := ⟨S.hr, S.ext, S.low⟩
theorem HS.le {cx : Cx} {H H' : HP} {s : Shared} (S : HS cx H' s) (l : LE H H') : HS cx H s :=
  ⟨fun a o e => S.hr a o (l a o e), S.ext, fun a o e => S.low a o (l a o e)⟩
theorem SR.le {cx : Cx} {fm : Fm} {H H' : HP} {μ : List V} {s : Shared} (S : SR cx fm H' μ s) (l : LE H H') : SR cx fm H μ s :=
  ⟨S.toHS.le l, S.fr, fun a o e => S.own a o (l a o e)⟩
theorem Kept.le {ow : Addr → Prop} {s s' : Shared} {H H₁ H₂ : HP} (x : Kept ow s H s' H₂) (l : LE H₁ H₂) : Kept ow s H s' H₁ :=
  ⟨x.keep, fun a ob q n w => (by
    cases e : H₁ a with
    | none => rfl
    | some o => exact absurd (l a o e) (by rw [x.dom a ob q n w]; simp)), x.os, x.gens⟩

theorem lookup_mem {α β : Type} [BEq α] [LawfulBEq α] {x : α} {c : β} : ∀ {l : List (α × β)}, l.lookup x = some c → (x, c) ∈ l
  | (y, d) :: l, e => by
    rw [List.lookup_cons] at e
    cases h : x == y with
    | true => rw [h] at e; cases e; rw [eq_of_beq h]; exact List.mem_cons_self
    | false => rw [h] at e; exact List.mem_cons_of_mem _ (lookup_mem e)

theorem VarAt.keep {env : Env} {h h' : Heap} {x : Str} {v : Option Value}
    (k : ∀ b o, (b = env.locals ∨ ∃ y, env.cells.lookup y = some b) → h.get? b = some o → h'.get? b = some o) (w : VarAt env h x v) : VarAt env h' x v := by
  rcases w with ⟨k1, m, ⟨o, es, ep, e, hd⟩, hm⟩ | ⟨k1, c, hc, o, e, hd⟩
  · exact .inl ⟨k1, m, ⟨o, es, ep, k _ _ (.inl rfl) e, hd⟩, hm⟩
  · exact .inr ⟨k1, c, hc, o, k _ _ (.inr ⟨x, hc⟩) e, hd⟩

theorem FR.keep {fm : Fm} {μ : List V} {h h' : Heap} (F : FR fm μ h) (k : ∀ b o, fm.own b → h.get? b = some o → h'.get? b = some o) : FR fm μ h' :=
  ⟨F.len, fun a q => (let ⟨o, e⟩ := F.live a q; ⟨o, k a o q e⟩), by obtain ⟨m, o, es, ep, e, hd⟩ := F.ns; exact ⟨m, o, es, ep, k _ _ (.inl rfl) e, hd⟩, fun i x e => by
    obtain ⟨ov, w, q⟩ := F.var i x e
    exact ⟨ov, w.keep (fun b o => k b o), q⟩⟩

theorem SR.step {cx : Cx} {fm : Fm} {H H' : HP} {μ : List V} {s s' : Shared} (S : SR cx fm H μ s) (S' : HS cx H' s') (k : KE s H s' H') : SR cx fm H' μ s' := by
  have hn : ∀ b, fm.own b → H b = none := fun b q => by
    cases e : H b with
    | none => rfl
    | some o => exact absurd q (S.own b o e)
  refine ⟨S', S.fr.keep (fun b o q e => k.keep b o e (hn b q) id), fun a o e q => ?_⟩
  obtain ⟨ob, l⟩ := S.fr.live a q
  rw [k.dom a ob l (hn a q) id] at e
  cases e

theorem HS.grow {cx : Cx} {H : HP} {s : Shared} (S : HS cx H s) {h' : Heap} (k : ∀ b o, s.heap.get? b = some o → h'.get? b = some o) (n : Nat) :
    HS cx H { s with heap := h', toks := n } :=
  ⟨fun a o e => (S.hr a o e).keep (k a), fun b o e => k b o (S.ext b o e), S.low⟩
theorem KE.grow {s : Shared} {H : HP} {h' : Heap} (k : ∀ b o, s.heap.get? b = some o → h'.get? b = some o) (n : Nat) :
    KE s H { s with heap := h', toks := n } H := ⟨fun b o e _ _ => k b o e, fun _ _ _ e _ => e, rfl, rfl⟩
theorem KE.toks (s : Shared) (H : HP) (n : Nat) : KE s H { s with toks := n } H := ⟨fun _ _ e _ _ => e, fun _ _ _ e _ => e, rfl, rfl⟩

noncomputable def Fresh (cx : Cx) (H : HP) (r : Addr) : Prop := H r = none ∧ cx.base.get? r = none ∧ cx.Z r = none

theorem HS.none_of {cx : Cx} {H : HP} {s : Shared} (S : HS cx H s) {r : Addr} (h : s.heap.get? r = none) : H r = none := by
  cases e : H r with
  | none => rfl
  | some o =>
    obtain ⟨ob, q⟩ := (S.hr r o e).get
    rw [h] at q; cases q
theorem HS.base_none {cx : Cx} {H : HP} {s : Shared} (S : HS cx H s) {r : Addr} (h : s.heap.get? r = none) : cx.base.get? r = none := by
  cases e : cx.base.get? r with
  | none => rfl
  | some o => rw [S.ext r o e] at h; cases h
theorem HS.fresh {cx : Cx} (C : cx.OK) {H : HP} {s : Shared} (S : HS cx H s) {r : Addr} (h : s.heap.get? r = none) : Fresh cx H r :=
  ⟨S.none_of h, S.base_none h, by
    cases e : cx.Z r with
    | none => rfl
    | some vs =>
      obtain ⟨ob, q⟩ := (C.z r vs e).get
      rw [S.base_none h] at q; cases q⟩
theorem get_size (h : Heap) : h.get? h.objs.size = none := by
  cases e : h.get? h.objs.size with
  | none => rfl
  | some o => exact absurd (Heap.lt_size e) (Nat.lt_irrefl _)

theorem HS.alloc {cx : Cx} {H : HP} {s : Shared} (S : HS cx H s) {h' : Heap} {r : Addr} {o : O} (k : ∀ b o, s.heap.get? b = some o → h'.get? b = some o)
    (hr : s.heap.get? r = none) (R : Rep h' r o) (n : Nat) : HS cx (upd H r o) { s with heap := h', toks := n } := by
  have G := S.grow k n
  refine ⟨fun a o' e => ?_, G.ext, fun a o' e => ?_⟩
  · by_cases h : a = r
    · subst h; rw [upd_same] at e; cases e; exact R
    · rw [upd_ne _ h] at e; exact G.hr a o' e
  · by_cases h : a = r
    · subst h; exact S.base_none hr
    · rw [upd_ne _ h] at e; exact G.low a o' e
theorem KE.alloc {s : Shared} {H : HP} {h' : Heap} {r : Addr} {o : O} (k : ∀ b o, s.heap.get? b = some o → h'.get? b = some o)
    (hr : s.heap.get? r = none) (n : Nat) : KE s H { s with heap := h', toks := n } (upd H r o) :=
  ⟨fun b o e _ _ => k b o e, fun a ob l e _ => by rw [upd_ne _ (fun q => by subst q; rw [hr] at l; cases l)]; exact e, rfl, rfl⟩

theorem HS.change {cx : Cx} {H : HP} {s : Shared} (S : HS cx H s) {h' : Heap} {a : Addr} {o o' : O} (ha : H a = some o) (sb : ∀ b ob, b ≠ a → s.heap.get? b = some ob → h'.get? b = some ob) (R : Rep h' a o') (n : Nat) :
    HS cx (upd H a o') { s with heap := h', toks := n } := by
  refine ⟨fun b o1 e => ?_, fun b ob e => ?_, fun b o1 e => ?_⟩
  · by_cases h : b = a
    · subst h; rw [upd_same] at e; cases e; exact R
    · rw [upd_ne _ h] at e; exact (S.hr b o1 e).keep (fun ob => sb b ob h)
  · exact sb b ob (fun q => by subst q; rw [S.low _ o ha] at e; cases e) (S.ext b ob e)
  · by_cases h : b = a
    · subst h; exact S.low _ _ ha
    · rw [upd_ne _ h] at e; exact S.low b o1 e
theorem KE.change {s : Shared} {H : HP} {h' : Heap} {a : Addr} {o o' : O} (ha : H a = some o) (sb : ∀ b ob, b ≠ a → s.heap.get? b = some ob → h'.get? b = some ob) (n : Nat) :
    KE s H { s with heap := h', toks := n } (upd H a o') :=
  ⟨fun b ob e hb _ => sb b ob (fun x => by subst x; rw [ha] at hb; cases hb) e,
    fun b _ _ e _ => by rw [upd_ne _ (fun x => by subst x; rw [ha] at e; cases e)]; exact e, rfl, rfl⟩

theorem SR.aside {cx : Cx} {fm : Fm} {H : HP} {μ : List V} {s : Shared} (S : SR cx fm H μ s) {h' : Heap} {a : Addr} (ha : H a = none) (hw : ¬ fm.own a) (hb : cx.base.get? a = none) (sb : Heap.ExtBut a s.heap h') (n : Nat) :
    SR cx fm H μ { s with heap := h', toks := n } :=
  ⟨⟨fun b o e => (S.hr b o e).keep (fun ob q => sb b ob (fun x => by subst x; rw [ha] at e; cases e) q),
    fun b o e => sb b o (fun q => by subst q; rw [hb] at e; cases e) (S.ext b o e), S.low⟩, S.fr.keep (fun b o q e => sb b o (fun x => hw (x ▸ q)) e), S.own⟩

section
variable {cx : Cx} {fm : Fm} {H : HP} {μ : List V} {s : Shared} {M : Model} {A : Around} {E : Value → Shared → Prop}

theorem load_loc (W : fm.OK cx) (S : SR cx fm H μ s) {i : Nat} {x : Str} (hi : fm.names[i]? = some (some x)) (hb : getL μ i ≠ .unb) {Q : Value → Shared → Prop} (h : ∀ v, abs v = getL μ i → Q v s) :
    wpAny M A (loadName fm.env x) Q E s := by
  obtain ⟨ov, w, q⟩ := S.fr.var i x hi
  obtain ⟨v, rfl, hv⟩ := q.resolve_left hb
  rcases w with ⟨k1, m, hn, hm⟩ | ⟨k1, c, hc, hcell⟩
  · exact wpAny_loadName_local W.kind k1 hn hm (h v hv)
  · exact wpAny_loadName_cell W.kind k1 hc hcell (h v hv)

theorem ns_unique {h : Heap} {a : Addr} {m m' : Str → Option Value} (x : h.Ns a m) (y : h.Ns a m') : m = m' := by
  obtain ⟨o, es, ep, e, hd, _, hm⟩ := x
  obtain ⟨o', es', ep', e', hd', _, hm'⟩ := y
  rw [e] at e'; cases e'
  rw [hd] at hd'; cases hd'
  funext n; rw [← hm n, ← hm' n]

theorem store_loc (W : fm.OK cx) (S : SR cx fm H μ s) {i : Nat} {x : Str} (hi : fm.names[i]? = some (some x)) {v : Value} {Q : Unit → Shared → Prop}
    (h : ∀ s', SR cx fm H (setL μ i (abs v)) s' → Kept fm.own s H s' H → Q () s') : wpAny M A (storeName fm.env x v) Q E s := by
  obtain ⟨ov, w, q⟩ := S.fr.var i x hi
  have hil : i < μ.length := by rw [S.fr.len]; exact (List.getElem?_eq_some_iff.mp hi).1
  -- the rest, for any own address that is changed
  have rest : ∀ (a : Addr) (h' : Heap) (tk : Nat), fm.own a → Heap.SameBut a s.heap h' → (∃ o, h'.get? a = some o) → (∃ m, h'.Ns fm.env.locals m) →
      (∀ j y, fm.names[j]? = some (some y) → ∃ ov, VarAt fm.env h' y ov ∧ (getL (setL μ i (abs v)) j = .unb ∨ ∃ v', ov = some v' ∧ abs v' = getL (setL μ i (abs v)) j)) →
      SR cx fm H (setL μ i (abs v)) { s with heap := h', toks := tk } ∧ Kept fm.own s H { s with heap := h', toks := tk } H := by
    intro a h' tk ha sb hla hns hvar
    refine ⟨⟨⟨fun b o e => ?_, fun b o e => ?_, S.low⟩, ⟨by rw [setL_length]; exact S.fr.len, fun b q => ?_, hns, hvar⟩, S.own⟩,
      fun b o e _ hw => (sb.2 b (fun x => hw (x ▸ ha))).trans e, fun _ _ _ e _ => e, rfl, rfl⟩
    · exact (S.hr b o e).of_eq (sb.2 b (fun x => S.own b o e (x ▸ ha)))
    · exact (sb.2 b (fun q => by subst q; rw [W.above _ ha] at e; cases e)).trans (S.ext b o e)
    · by_cases h : b = a
      · subst h; exact hla
      · obtain ⟨o, e⟩ := S.fr.live b q
        exact ⟨o, (sb.2 b h).trans e⟩
  rcases w with ⟨k1, m, hn, hm⟩ | ⟨k1, c, hc, hcell⟩
  · refine wpAny_storeName_local k1 hn (fun h' hn' sb => ?_) (by rw [W.kind]; rfl)
    obtain ⟨a1, a2⟩ := rest fm.env.locals h' (s.toks + 1) (.inl rfl) sb (let ⟨o, _, _, e, _⟩ := hn'; ⟨o, e⟩) ⟨_, hn'⟩ (fun j y hj => by
      by_cases hij : i = j
      · subst hij
        rw [hi] at hj; cases hj
        exact ⟨some v, .inl ⟨k1, _, hn', by simp⟩, .inr ⟨v, rfl, (getL_setL_same μ i _ hil).symm⟩⟩
      · obtain ⟨ov', w', q'⟩ := S.fr.var j y hj
        refine ⟨ov', ?_, by rw [getL_setL_ne _ _ _ _ hij]; exact q'⟩
        have hxy : y ≠ x := fun e => hij (W.inj i j x hi (e ▸ hj))
        rcases w' with ⟨k2, m2, hn2, hm2⟩ | ⟨k2, c2, hc2, o, e2, hd2⟩
        · exact .inl ⟨k2, _, hn', by rw [if_neg hxy, ns_unique hn hn2]; exact hm2⟩
        · exact .inr ⟨k2, c2, hc2, o, (sb.2 c2 (W.cellsNe y c2 hc2)).trans e2, hd2⟩)
    exact h _ a1 a2
  · refine wpAny_storeName_cell W.kind k1 hc hcell (fun h' hc' sb => ?_)
    have hcl := W.cellsNe x c hc
    have ns' : ∀ m, s.heap.Ns fm.env.locals m → h'.Ns fm.env.locals m := fun m ⟨o, es, ep, e, r⟩ => ⟨o, es, ep, (sb.2 _ (Ne.symm hcl)).trans e, r⟩
    obtain ⟨a1, a2⟩ := rest c h' s.toks (.inr ⟨x, hc⟩) sb (let ⟨o, e, _⟩ := hc'; ⟨o, e⟩) (by obtain ⟨m, hm⟩ := S.fr.ns; exact ⟨m, ns' m hm⟩) (fun j y hj => by
      by_cases hij : i = j
      · subst hij
        rw [hi] at hj; cases hj
        exact ⟨some v, .inr ⟨k1, c, hc, hc'⟩, .inr ⟨v, rfl, (getL_setL_same μ i _ hil).symm⟩⟩
      · obtain ⟨ov', w', q'⟩ := S.fr.var j y hj
        refine ⟨ov', ?_, by rw [getL_setL_ne _ _ _ _ hij]; exact q'⟩
        have hxy : y ≠ x := fun e => hij (W.inj i j x hi (e ▸ hj))
        rcases w' with ⟨k2, m2, hn2, hm2⟩ | ⟨k2, c2, hc2, o, e2, hd2⟩
        · exact .inl ⟨k2, m2, ns' m2 hn2, hm2⟩
        · exact .inr ⟨k2, c2, hc2, o, (sb.2 c2 (fun e => hxy (W.cellsInj y x c (e ▸ hc2) hc))).trans e2, hd2⟩)
    exact h _ a1 a2
end
end Mine
end

section
namespace Mine
open PySem PyProof.Rows

inductive BF where
  | len | list | min
  deriving DecidableEq
inductive Mth where
  | append | pop
  deriving DecidableEq

mutual
inductive ME where
  | cint (i : Int) | cbool (b : Bool) | cnone | cstr (x : Str)
  | loc (i : Nat)
  | bin (op : Operator) (l r : ME)
  | not (e : ME)
  | cmp (l : ME) (op : CmpOp) (r : ME)
  | bop (op : BoolOp) (es : MEs)
  | callf (f : Addr) (args : MEs)
  | callb (b : BF) (args : MEs)
  | isi (e : ME) (t : String)
  | meth (o : ME) (m : Mth) (args : MEs)
  | sub (o i : ME)
  | slice (o lo hi : ME)
  | list (es : MEs)
  | tup (es : MEs)
  | comp (elt it cond : ME)
  | compR (elt a b cond : ME)
  | neg (e : ME)
  | cmp2 (l : ME) (o1 : CmpOp) (m : ME) (o2 : CmpOp) (r : ME)
  | ife (c t e : ME)
  | gint (i : Int)
  | attr (C : Addr) (i : Nat) (x : Str)
  | callm (C : Addr) (x : Str) (f : Addr) (i : Nat) (args : MEs)
  | mk (C f : Addr) (args : MEs)
inductive MEs where
  | nil
  | cons (e : ME) (es : MEs)
end

mutual
inductive MS where
  | assign (i : Nat) (e : ME)
  | setSub (o i v : ME)
  | expr (e : ME)
  | ite (c : ME) (t e : MSs)
  | for_ (i : Nat) (it : ME) (body : MSs)
  | forR (i : Nat) (a b : ME) (body : MSs)
  | while_ (c : ME) (body : MSs)
  | ret (e : ME)
  | setAttr (C : Addr) (i : Nat) (x : Str) (e : ME)
  | raise_
  | retN
inductive MSs where
  | nil
  | cons (s : MS) (r : MSs)
end

structure ACall (A : Around) (n : Nat) : Prop where
  handled : A.handled = none
  depth : A.depth + n < 850
  units : A.units + 16 * n < 9000
  frames : ∃ l, A.frames = some l
structure AOK (A : Around) (n : Nat) : Prop extends ACall A n where
  top : ∃ env outer, A.frames = some (env :: outer) ∧ env.scope.isGenerator = false ∧ env.scope.isCoroutine = false ∧ env.builtins = builtinsNs ∧ env.globals = mainGlobals

noncomputable def CallP (cx : Cx) (n : Nat) (f : Addr) (args : List V) (H : HP) (Q : V → HP → Prop) : Prop :=
  ∀ (A : Around) (s : Shared) (vs : List Value), ACall A n → HS cx H s → vs.map Mine.abs = args →
    codeAny (model cx.prog cx.w) A (.call (.ref f) ⟨vs, []⟩) (fun r s' => ∃ v H', r = .ok (.ret v) ∧ HS cx H' s' ∧ KE s H s' H' ∧ Q (Mine.abs v) H') s

noncomputable def lk (cx : Cx) (H : HP) (a : Addr) : Option O :=
  match H a with
  | some o => some o
  | none => (cx.Z a).map O.list
noncomputable def lst (cx : Cx) (H : HP) (a : Addr) : Option (List V) :=
  match lk cx H a with
  | some (.list vs) => some vs
  | _ => none
noncomputable def sq (cx : Cx) (H : HP) (a : Addr) : Option (List V) :=
  match lk cx H a with
  | some (.list vs) => some vs
  | some (.tup vs) => some vs
  | _ => none

noncomputable def onR (v : V) (k : Addr → Prop) : Prop := match v with
  | .ref a => k a
  | _ => False
noncomputable def onI (v : V) (k : Int → Prop) : Prop := match v with
  | .int i => k i
  | _ => False
noncomputable def TruthP (v : V) (Q : Bool → Prop) : Prop := match v with
  | .bool b => Q b
  | _ => False
noncomputable def onO {α : Type} (o : Option α) (k : α → Prop) : Prop := match o with
  | some x => k x
  | none => False
noncomputable def onHL (o : Option O) (k : List V → Prop) : Prop := match o with
  | some (.list vs) => k vs
  | _ => False
noncomputable def onSq (o : Option O) (k k' : List V → Prop) : Prop := match o with
  | some (.list vs) => k vs
  | some (.tup vs) => k' vs
  | _ => False
noncomputable def onIn (C : Addr) (o : Option O) (k : Addr → Prop) : Prop := match o with
  | some (.inst C' dx) => C' = C ∧ k dx
  | _ => False
noncomputable def onFl (o : Option O) (k : List (Str × V) → Prop) : Prop := match o with
  | some (.flds fs) => k fs
  | _ => False
noncomputable def on0 (l : List V) (k : Prop) : Prop := match l with
  | [] => k
  | _ => False
noncomputable def on1 (l : List V) (k : V → Prop) : Prop := match l with
  | [v] => k v
  | _ => False
noncomputable def on2 (l : List V) (k : V → V → Prop) : Prop := match l with
  | [v, w] => k v w
  | _ => False
theorem onR_inv {v : V} {k : Addr → Prop} (h : onR v k) : ∃ a, v = .ref a ∧ k a := by cases v <;> first | exact ⟨_, rfl, h⟩ | exact False.elim h
theorem onI_inv {v : V} {k : Int → Prop} (h : onI v k) : ∃ a, v = .int a ∧ k a := by cases v <;> first | exact ⟨_, rfl, h⟩ | exact False.elim h
theorem onO_inv {α : Type} {o : Option α} {k : α → Prop} (h : onO o k) : ∃ x, o = some x ∧ k x := by
  cases o with
  | none => exact h.elim
  | some x => exact ⟨x, rfl, h⟩
theorem onHL_inv {o : Option O} {k : List V → Prop} (h : onHL o k) : ∃ vs, o = some (.list vs) ∧ k vs := by
  cases o with
  | none => exact False.elim h
  | some x => cases x <;> first | exact ⟨_, rfl, h⟩ | exact False.elim h
theorem onSq_inv {o : Option O} {k k' : List V → Prop} (h : onSq o k k') : (∃ vs, o = some (.list vs) ∧ k vs) ∨ ∃ vs, o = some (.tup vs) ∧ k' vs := by
  cases o with
  | none => exact False.elim h
  | some x => cases x <;> first | exact .inl ⟨_, rfl, h⟩ | exact .inr ⟨_, rfl, h⟩ | exact False.elim h
theorem onIn_inv {C : Addr} {o : Option O} {k : Addr → Prop} (h : onIn C o k) : ∃ dx, o = some (.inst C dx) ∧ k dx := by
  cases o with
  | none => exact False.elim h
  | some x => cases x <;> first | exact ⟨_, by rw [h.1], h.2⟩ | exact False.elim h
theorem onFl_inv {o : Option O} {k : List (Str × V) → Prop} (h : onFl o k) : ∃ fs, o = some (.flds fs) ∧ k fs := by
  cases o with
  | none => exact False.elim h
  | some x => cases x <;> first | exact ⟨_, rfl, h⟩ | exact False.elim h
theorem on1_inv {l : List V} {k : V → Prop} (h : on1 l k) : ∃ v, l = [v] ∧ k v := match l, h with
  | [v], h => ⟨v, rfl, h⟩
theorem on2_inv {l : List V} {k : V → V → Prop} (h : on2 l k) : ∃ v w, l = [v, w] ∧ k v w := match l, h with
  | [v, w], h => ⟨v, w, rfl, h⟩
theorem onR_mono {v : V} {k k' : Addr → Prop} (h : onR v k) (q : ∀ a, k a → k' a) : onR v k' := by obtain ⟨a, rfl, h⟩ := onR_inv h; exact q a h
theorem onI_mono {v : V} {k k' : Int → Prop} (h : onI v k) (q : ∀ a, k a → k' a) : onI v k' := by obtain ⟨a, rfl, h⟩ := onI_inv h; exact q a h
theorem onO_mono {α : Type} {o : Option α} {k k' : α → Prop} (h : onO o k) (q : ∀ a, k a → k' a) : onO o k' := by obtain ⟨a, rfl, h⟩ := onO_inv h; exact q a h
theorem onHL_mono {o : Option O} {k k' : List V → Prop} (h : onHL o k) (q : ∀ a, k a → k' a) : onHL o k' := by obtain ⟨a, rfl, h⟩ := onHL_inv h; exact q a h
theorem onSq_mono {o : Option O} {k k' q q' : List V → Prop} (h : onSq o k k') (a : ∀ vs, k vs → q vs) (b : ∀ vs, k' vs → q' vs) : onSq o q q' := by
  rcases onSq_inv h with ⟨vs, rfl, h⟩ | ⟨vs, rfl, h⟩
  · exact a vs h
  · exact b vs h
theorem onIn_mono {C : Addr} {o : Option O} {k k' : Addr → Prop} (h : onIn C o k) (q : ∀ a, k a → k' a) : onIn C o k' := by obtain ⟨a, rfl, h1⟩ := onIn_inv h; exact ⟨rfl, q a h1⟩
theorem onFl_mono {o : Option O} {k k' : List (Str × V) → Prop} (h : onFl o k) (q : ∀ a, k a → k' a) : onFl o k' := by obtain ⟨a, rfl, h⟩ := onFl_inv h; exact q a h
theorem on1_mono {l : List V} {k k' : V → Prop} (h : on1 l k) (q : ∀ a, k a → k' a) : on1 l k' := by obtain ⟨a, rfl, h⟩ := on1_inv h; exact q a h
theorem on2_mono {l : List V} {k k' : V → V → Prop} (h : on2 l k) (q : ∀ a b, k a b → k' a b) : on2 l k' := by obtain ⟨a, b, rfl, h⟩ := on2_inv h; exact q a b h

noncomputable def asInts : List V → Option (List Int)
  | [] => some []
  | .int i :: r => (asInts r).map (i :: ·)
  | _ => none
noncomputable def intsV (l : List Int) : List V := l.map V.int

theorem asInts_ints : ∀ l : List Int, asInts (intsV l) = some l
  | [] => rfl
  | i :: l => by simp [intsV, asInts]; exact asInts_ints l

noncomputable def cutAt (n : Nat) (i : Int) : Option Nat := if 0 ≤ i then some (min i.toNat n) else none
noncomputable def cutLo (n : Nat) (v : V) : Option Nat := match v with
  | .none => some 0
  | .int i => cutAt n i
  | _ => none
noncomputable def cutHi (n : Nat) (v : V) : Option Nat := match v with
  | .none => some n
  | .int i => cutAt n i
  | _ => none
noncomputable def cut (vs : List V) (lo hi : Nat) : List V := (vs.take hi).drop lo

noncomputable def new (cx : Cx) (H : HP) (o : O) (Q : V → HP → Prop) : Prop := ∀ r, Fresh cx H r → Q (.ref r) (upd H r o)

noncomputable def addP (cx : Cx) (a b : V) (H : HP) (Q : V → HP → Prop) : Prop := match a with
  | .int x => onI b fun y => Q (.int (x + y)) H
  | .ref x => onR b fun y => onO (lst cx H x) fun xs => onO (lst cx H y) fun ys => xs.length + ys.length ≤ 16777216 ∧ new cx H (.list (xs ++ ys)) Q
  | _ => False
noncomputable def mulP (cx : Cx) (a b : V) (H : HP) (Q : V → HP → Prop) : Prop := match a with
  | .int x => onI b fun y => IntMulOk x y ∧ Q (.int (x * y)) H
  | .ref x => onI b fun n => onO (lst cx H x) fun xs => -16777216 < n ∧ n < 16777216 ∧ xs.length * n.toNat ≤ 16777216 ∧ new cx H (.list (List.replicate n.toNat xs).flatten) Q
  | _ => False
noncomputable def binP (cx : Cx) (op : Operator) (a b : V) (H : HP) (Q : V → HP → Prop) : Prop := match op with
  | .Add => addP cx a b H Q
  | .Sub => onI a fun x => onI b fun y => Q (.int (x - y)) H
  | .Mult => mulP cx a b H Q
  | .FloorDiv => onI a fun x => onI b fun y => y ≠ 0 ∧ Q (.int (x.fdiv y)) H
  | .Mod => onI a fun x => onI b fun y => y ≠ 0 ∧ Q (.int (x.fmod y)) H
  | .Pow => onI a fun x => onI b fun y => 0 ≤ y ∧ (Builtin.Int.intBits x : Int) * y ≤ 2 ^ 27 ∧ Q (.int (x ^ y.toNat)) H
  | _ => False

noncomputable def cmpII (op : CmpOp) (a b : Int) : Option Bool := match op with
  | .Lt => some (decide (a < b))
  | .LtE => some (decide (a ≤ b))
  | .Gt => some (decide (b < a))
  | .Eq => some (a == b)
  | .NotEq => some (a != b)
  | _ => none
noncomputable def rdS (x : Str) : Option PyData := if PyData.strOk x = true then some (.str x) else none
noncomputable def rdV (cx : Cx) (H : HP) : Nat → V → Option PyData
  | 0, v => match v with
    | .int i => some (.int i)
    | .str x => rdS x
    | _ => none
  | n + 1, v => match v with
    | .int i => some (.int i)
    | .str x => rdS x
    | .ref a => match lk cx H a with
      | some (.list vs) => (vs.mapM (rdV cx H n)).map .list
      | some (.tup vs) => (vs.mapM (rdV cx H n)).map .tuple
      | _ => none
    | _ => none
noncomputable def eqNe (op : CmpOp) (b : Bool) : Option Bool := match op with
  | .Eq => some b
  | .NotEq => some (!b)
  | _ => none
noncomputable def cmpP (cx : Cx) (op : CmpOp) (a b : V) (H : HP) : Option Bool := match a with
  | .bool a => match b with
    | .bool b => eqNe op (a == b)
    | _ => none
  | .ref a => match b with
    | .ref b => (rdV cx H 2 (.ref a)).bind fun d => (rdV cx H 2 (.ref b)).bind fun e => eqNe op (PyData.eqv d e)
    | _ => none
  | .int a => match b with
    | .int b => cmpII op a b
    | .bool _ => match op with
      | .IsNot => some true
      | _ => none
    | .ref x => match op with
      | .NotIn => (sq cx H x).bind fun vs => (asInts vs).map fun l => !l.contains a
      | _ => none
    | _ => none
  | .str a => match b with
    | .str b => eqNe op (a == b)
    | _ => none
  | _ => none

noncomputable def isiP (H : HP) (v : V) (t : String) : Option Bool := match v with
  | .int _ => if t = "int" then some true else if t = "bool" then some false else none
  | .ref a => match H a with
    | some (.list _) => if t = "list" then some true else none
    | some (.tup _) => if t = "tuple" then some true else none
    | _ => none
  | _ => none

noncomputable def callbP (cx : Cx) (b : BF) (args : List V) (H : HP) (Q : V → HP → Prop) : Prop := match b with
  | .len => on1 args fun v => onR v fun a => onO (sq cx H a) fun vs => vs.length ≤ 16777216 ∧ Q (.int vs.length) H
  | .list => on1 args fun v => onR v fun a => onO (sq cx H a) fun vs => vs.length ≤ 16777216 ∧ new cx H (.list vs) Q
  | .min => on2 args fun v w => onI v fun a => onI w fun b => Q (.int (if b < a then b else a)) H

noncomputable def methP (o : V) (m : Mth) (args : List V) (H : HP) (Q : V → HP → Prop) : Prop := onR o fun a => onHL (H a) fun vs => match m with
  | .append => on1 args fun v => vs.length ≤ 16777216 ∧ Q .none (upd H a (.list (vs ++ [v])))
  | .pop => on0 args (onO vs.getLast? fun v => vs.length ≤ 16777216 ∧ Q v (upd H a (.list vs.dropLast)))

noncomputable def listAt (o : V) (H : HP) : Prop := onR o fun a => onHL (H a) fun _ => True

noncomputable def subP (cx : Cx) (o i : V) (H : HP) (Q : V → HP → Prop) : Prop :=
  onR o fun a => onI i fun i => onO (sq cx H a) fun vs => 0 ≤ i ∧ vs.length ≤ 16777216 ∧ onO vs[i.toNat]? fun v => Q v H

noncomputable def sliceP (cx : Cx) (o lo hi : V) (H : HP) (Q : V → HP → Prop) : Prop :=
  onR o fun a => onSq (lk cx H a) (fun vs => onO (cutLo vs.length lo) fun l => onO (cutHi vs.length hi) fun h => vs.length ≤ 16777216 ∧ new cx H (.list (cut vs l h)) Q)
    fun vs => hi = .none ∧ onI lo fun i => 1 ≤ i ∧ i.toNat ≤ vs.length ∧ vs.length ≤ 16777216 ∧ new cx H (.tup (vs.drop i.toNat)) Q
noncomputable def attrP (C : Addr) (o : V) (x : Str) (H : HP) (Q : V → HP → Prop) : Prop := onR o fun a => onIn C (H a) fun dx => onFl (H dx) fun fs => onO (fs.lookup x) fun v => v ≠ .other ∧ Q v H
noncomputable def instP (C : Addr) (o : V) (x : Str) (H : HP) : Prop := onR o fun a => onIn C (H a) fun dx => onFl (H dx) fun fs => fs.lookup x = none
noncomputable def putF (x : Str) (v : V) : List (Str × V) → List (Str × V)
  | [] => [(x, v)]
  | p :: r => if p.1 == x then (p.1, v) :: r else p :: putF x v r
noncomputable def setAttrP (C : Addr) (o : V) (x : Str) (v : V) (H : HP) (Q : HP → Prop) : Prop := onR o fun a => onIn C (H a) fun dx => onFl (H dx) fun fs => fs.length < 100 ∧ Q (upd H dx (.flds (putF x v fs)))
noncomputable def mkP (cx : Cx) (n : Nat) (C f : Addr) (vs : List V) (H : HP) (Q : V → HP → Prop) : Prop :=
  0 < n ∧ ∀ dx, Fresh cx H dx → ∀ x, Fresh cx (upd H dx (.flds [])) x → CallP cx (n - 1) f (.ref x :: vs) (upd (upd H dx (.flds [])) x (.inst C dx)) fun v H => v = .none ∧ Q (.ref x) H

noncomputable def IterP (cx : Cx) (o : V) (H : HP) (Q : List V → (HP → Prop) → HP → Prop) : Prop :=
  onR o fun a => onHL (lk cx H a) fun vs => vs.length ≤ 16777216 ∧ Q vs (fun H' => lk cx H' a = some (.list vs)) H

noncomputable def rangeL (a b : Int) : List Int := (List.range (b - a).toNat).map fun (k : Nat) => a + (k : Int)

noncomputable def RngP (x y : V) (Q : List V → Prop) : Prop :=
  onI x fun x => onI y fun y => (-1152921504606846976 < x ∧ x < 1152921504606846976) ∧ (-1152921504606846976 < y ∧ y < 1152921504606846976) ∧ Q (intsV (rangeL x y))

noncomputable def setSubP (o i v : V) (H : HP) (Q : HP → Prop) : Prop :=
  onR o fun a => onI i fun i => onHL (H a) fun vs => 0 ≤ i ∧ vs.length ≤ 16777216 ∧ i.toNat < vs.length ∧ Q (upd H a (.list (vs.set i.toNat v)))

noncomputable def CompP (cx : Cx) (items : List V) (st : HP → Prop) (H₀ : HP) (turn : V → HP → (Option V → HP → Prop) → Prop) (Q : V → HP → Prop) : Prop :=
  items.length ≤ 16777216 ∧ ∃ I : List V → List V → HP → Prop, I [] [] H₀ ∧ (∀ done acc H₁, I done acc H₁ → st H₁) ∧
    (∀ done x rest acc H₁, items = done ++ x :: rest → I done acc H₁ → turn x H₁ fun ov H₂ => ∃ H₃, LE H₃ H₂ ∧ I (done ++ [x]) (acc ++ ov.toList) H₃) ∧
    (∀ acc H₁, I items acc H₁ → new cx H₁ (.list acc) Q)

mutual
noncomputable def mwpE (cx : Cx) (n : Nat) : ME → List V → HP → (V → HP → Prop) → Prop
  | .cint i, _, H, Q => Q (.int i) H
  | .cbool b, _, H, Q => Q (.bool b) H
  | .cnone, _, H, Q => Q .none H
  | .cstr x, _, H, Q => Q (.str x) H
  | .loc i, μ, H, Q => getL μ i ≠ .unb ∧ Q (getL μ i) H
  | .bin op l r, μ, H, Q => mwpE cx n l μ H fun a H => mwpE cx n r μ H fun b H => binP cx op a b H Q
  | .not e, μ, H, Q => mwpE cx n e μ H fun v H => TruthP v fun b => Q (.bool (!b)) H
  | .cmp l op r, μ, H, Q => mwpE cx n l μ H fun a H => mwpE cx n r μ H fun b H => onO (cmpP cx op a b H) fun c => Q (.bool c) H
  | .bop op es, μ, H, Q => mwpB cx n op es μ H Q
  | .callf f args, μ, H, Q => mwpEs cx n args μ H fun vs H => CallP cx n f vs H Q
  | .callb b args, μ, H, Q => mwpEs cx n args μ H fun vs H => callbP cx b vs H Q
  | .isi e t, μ, H, Q => mwpE cx n e μ H fun v H => onO (isiP H v t) fun b => Q (.bool b) H
  | .meth o m args, μ, H, Q => mwpE cx n o μ H fun ov H => listAt ov H ∧ mwpEs cx n args μ H fun vs H => methP ov m vs H Q
  | .sub o i, μ, H, Q => mwpE cx n o μ H fun ov H => mwpE cx n i μ H fun iv H => subP cx ov iv H Q
  | .slice o lo hi, μ, H, Q => mwpE cx n o μ H fun ov H => mwpE cx n lo μ H fun l H => mwpE cx n hi μ H fun h H => sliceP cx ov l h H Q
  | .list es, μ, H, Q => mwpEs cx n es μ H fun vs H => vs.length ≤ 16777216 ∧ new cx H (.list vs) Q
  | .tup es, μ, H, Q => mwpEs cx n es μ H fun vs H => vs.length ≤ 16777216 ∧ new cx H (.tup vs) Q
  | .comp elt it cond, μ, H, Q => mwpE cx n it μ H fun v H => IterP cx v H fun items st H₀ => CompP cx items st H₀ (fun x H₁ K =>
      mwpE cx n cond (μ ++ [x]) H₁ fun c H₂ => TruthP c fun b => (b = true → mwpE cx n elt (μ ++ [x]) H₂ fun v H₃ => K (some v) H₃) ∧ (b = false → K none H₂)) Q
  | .compR elt a b cond, μ, H, Q => mwpE cx n a μ H fun x H => mwpE cx n b μ H fun y H => RngP x y fun items => CompP cx items (fun _ => True) H (fun x H₁ K =>
      mwpE cx n cond (μ ++ [x]) H₁ fun c H₂ => TruthP c fun b => (b = true → mwpE cx n elt (μ ++ [x]) H₂ fun v H₃ => K (some v) H₃) ∧ (b = false → K none H₂)) Q
  | .neg e, μ, H, Q => mwpE cx n e μ H fun v H => onI v fun i => Q (.int (-i)) H
  | .cmp2 l o1 m o2 r, μ, H, Q => mwpE cx n l μ H fun a H => mwpE cx n m μ H fun b H => onO (cmpP cx o1 a b H) fun c =>
      (c = true → mwpE cx n r μ H fun d H => onO (cmpP cx o2 b d H) fun e => Q (.bool e) H) ∧ (c = false → Q (.bool false) H)
  | .ife c t e, μ, H, Q => mwpE cx n c μ H fun v H => TruthP v fun b => (b = true → mwpE cx n t μ H Q) ∧ (b = false → mwpE cx n e μ H Q)
  | .gint i, _, H, Q => Q (.int i) H
  | .attr C i x, μ, H, Q => getL μ i ≠ .unb ∧ attrP C (getL μ i) x H Q
  | .callm C x f i args, μ, H, Q => getL μ i ≠ .unb ∧ instP C (getL μ i) x H ∧ mwpEs cx n args μ H fun vs H => CallP cx n f (getL μ i :: vs) H Q
  | .mk C f args, μ, H, Q => mwpEs cx n args μ H fun vs H => mkP cx n C f vs H Q
noncomputable def mwpEs (cx : Cx) (n : Nat) : MEs → List V → HP → (List V → HP → Prop) → Prop
  | .nil, _, H, Q => Q [] H
  | .cons e es, μ, H, Q => mwpE cx n e μ H fun v H => mwpEs cx n es μ H fun vs H => Q (v :: vs) H
noncomputable def mwpB (cx : Cx) (n : Nat) (op : BoolOp) : MEs → List V → HP → (V → HP → Prop) → Prop
  | .nil, _, _, _ => False
  | .cons e es, μ, H, Q => match es with
    | .nil => mwpE cx n e μ H Q
    | .cons _ _ => mwpE cx n e μ H fun v H => TruthP v fun b => (b = (op == .And) → mwpB cx n op es μ H Q) ∧ (b = (op == .Or) → Q (.bool b) H)
end

noncomputable def ForP (items : List V) (st : HP → Prop) (μ₀ : List V) (H₀ : HP) (turn : V → List V → HP → (List V → HP → Prop) → Prop) (N : List V → HP → Prop) : Prop :=
  ∃ I : List V → List V → HP → Prop, I [] μ₀ H₀ ∧ (∀ done μ H, I done μ H → st H) ∧
    (∀ done x rest μ H, items = done ++ x :: rest → I done μ H → turn x μ H fun μ' H' => ∃ H₃, LE H₃ H' ∧ I (done ++ [x]) μ' H₃) ∧
    (∀ μ H, I items μ H → N μ H)

mutual
noncomputable def mwpS (cx : Cx) (n : Nat) : MS → List V → HP → (List V → HP → Prop) → (V → HP → Prop) → Prop
  | .assign i e, μ, H, N, _ => mwpE cx n e μ H fun v H => N (setL μ i v) H
  | .setSub o i v, μ, H, N, _ => mwpE cx n v μ H fun vv H => mwpE cx n o μ H fun ov H => mwpE cx n i μ H fun iv H => setSubP ov iv vv H fun H => N μ H
  | .expr e, μ, H, N, _ => mwpE cx n e μ H fun _ H => N μ H
  | .ite c t e, μ, H, N, R => mwpE cx n c μ H fun v H => TruthP v fun b => (b = true → mwpSs cx n t μ H N R) ∧ (b = false → mwpSs cx n e μ H N R)
  | .for_ i it body, μ, H, N, R => mwpE cx n it μ H fun v H => IterP cx v H fun items st H₀ => ForP items st μ H₀ (fun x μ H K => mwpSs cx n body (setL μ i x) H K R) N
  | .forR i a b body, μ, H, N, R => mwpE cx n a μ H fun x H => mwpE cx n b μ H fun y H => RngP x y fun items => ForP items (fun _ => True) μ H (fun x μ H K => mwpSs cx n body (setL μ i x) H K R) N
  | .while_ c body, μ, H, N, R => ∃ I : Nat → List V → HP → Prop, (∃ k, I k μ H) ∧ ∀ k μ H, I k μ H → mwpE cx n c μ H fun v H => TruthP v fun b =>
      (b = true → mwpSs cx n body μ H (fun μ' H' => ∃ H₃, LE H₃ H' ∧ ∃ m, m < k ∧ I m μ' H₃) R) ∧ (b = false → N μ H)
  | .ret e, μ, H, _, R => mwpE cx n e μ H R
  | .setAttr C i x e, μ, H, N, _ => mwpE cx n e μ H fun v H => getL μ i ≠ .unb ∧ setAttrP C (getL μ i) x v H fun H => N μ H
  | .raise_, _, _, _, _ => False
  | .retN, _, H, _, R => R .none H
noncomputable def mwpSs (cx : Cx) (n : Nat) : MSs → List V → HP → (List V → HP → Prop) → (V → HP → Prop) → Prop
  | .nil, μ, H, N, _ => N μ H
  | .cons s r, μ, H, N, R => mwpS cx n s μ H (fun μ H => mwpSs cx n r μ H N R) R
end

section
variable {cx : Cx} {n : Nat} {μ : List V} {H : HP} {Q : V → HP → Prop} {N : List V → HP → Prop} {R : V → HP → Prop} {QL : List V → HP → Prop}
theorem e_cint {i : Int} : mwpE cx n (.cint i) μ H Q = Q (.int i) H := rfl
theorem e_cbool {b : Bool} : mwpE cx n (.cbool b) μ H Q = Q (.bool b) H := rfl
theorem e_cnone : mwpE cx n .cnone μ H Q = Q .none H := rfl
theorem e_cstr {x : Str} : mwpE cx n (.cstr x) μ H Q = Q (.str x) H := rfl
theorem e_loc {i : Nat} : mwpE cx n (.loc i) μ H Q = (getL μ i ≠ .unb ∧ Q (getL μ i) H) := rfl
theorem e_bin {op : Operator} {l r : ME} : mwpE cx n (.bin op l r) μ H Q = mwpE cx n l μ H fun a H => mwpE cx n r μ H fun b H => binP cx op a b H Q := rfl
theorem e_not {e : ME} : mwpE cx n (.not e) μ H Q = mwpE cx n e μ H fun v H => TruthP v fun b => Q (.bool (!b)) H := rfl
theorem e_cmp {l r : ME} {op : CmpOp} : mwpE cx n (.cmp l op r) μ H Q = mwpE cx n l μ H fun a H => mwpE cx n r μ H fun b H => onO (cmpP cx op a b H) fun c => Q (.bool c) H := rfl
theorem e_bop {op : BoolOp} {es : MEs} : mwpE cx n (.bop op es) μ H Q = mwpB cx n op es μ H Q := rfl
theorem e_callf {f : Addr} {as : MEs} : mwpE cx n (.callf f as) μ H Q = mwpEs cx n as μ H fun vs H => CallP cx n f vs H Q := rfl
theorem e_callb {b : BF} {as : MEs} : mwpE cx n (.callb b as) μ H Q = mwpEs cx n as μ H fun vs H => callbP cx b vs H Q := rfl
theorem e_isi {e : ME} {t : String} : mwpE cx n (.isi e t) μ H Q = mwpE cx n e μ H fun v H => onO (isiP H v t) fun b => Q (.bool b) H := rfl
theorem e_meth {o : ME} {m : Mth} {as : MEs} : mwpE cx n (.meth o m as) μ H Q = mwpE cx n o μ H fun ov H => listAt ov H ∧ mwpEs cx n as μ H fun vs H => methP ov m vs H Q := rfl
theorem e_sub {o i : ME} : mwpE cx n (.sub o i) μ H Q = mwpE cx n o μ H fun ov H => mwpE cx n i μ H fun iv H => subP cx ov iv H Q := rfl
theorem e_slice {o lo hi : ME} : mwpE cx n (.slice o lo hi) μ H Q = mwpE cx n o μ H fun ov H => mwpE cx n lo μ H fun l H => mwpE cx n hi μ H fun h H => sliceP cx ov l h H Q := rfl
theorem e_list {es : MEs} : mwpE cx n (.list es) μ H Q = mwpEs cx n es μ H fun vs H => vs.length ≤ 16777216 ∧ new cx H (.list vs) Q := rfl
theorem e_tup {es : MEs} : mwpE cx n (.tup es) μ H Q = mwpEs cx n es μ H fun vs H => vs.length ≤ 16777216 ∧ new cx H (.tup vs) Q := rfl
theorem e_comp {elt it cond : ME} : mwpE cx n (.comp elt it cond) μ H Q = mwpE cx n it μ H fun v H => IterP cx v H fun items st H₀ => CompP cx items st H₀ (fun x H₁ K =>
      mwpE cx n cond (μ ++ [x]) H₁ fun c H₂ => TruthP c fun b => (b = true → mwpE cx n elt (μ ++ [x]) H₂ fun v H₃ => K (some v) H₃) ∧ (b = false → K none H₂)) Q := rfl
theorem e_compR {elt a b cond : ME} : mwpE cx n (.compR elt a b cond) μ H Q = mwpE cx n a μ H fun x H => mwpE cx n b μ H fun y H => RngP x y fun items => CompP cx items (fun _ => True) H (fun x H₁ K =>
      mwpE cx n cond (μ ++ [x]) H₁ fun c H₂ => TruthP c fun b => (b = true → mwpE cx n elt (μ ++ [x]) H₂ fun v H₃ => K (some v) H₃) ∧ (b = false → K none H₂)) Q := rfl
theorem e_neg {e : ME} : mwpE cx n (.neg e) μ H Q = mwpE cx n e μ H fun v H => onI v fun i => Q (.int (-i)) H := rfl
theorem e_cmp2 {l m r : ME} {o1 o2 : CmpOp} : mwpE cx n (.cmp2 l o1 m o2 r) μ H Q = mwpE cx n l μ H fun a H => mwpE cx n m μ H fun b H => onO (cmpP cx o1 a b H) fun c =>
      (c = true → mwpE cx n r μ H fun d H => onO (cmpP cx o2 b d H) fun e => Q (.bool e) H) ∧ (c = false → Q (.bool false) H) := rfl
theorem e_ife {c t e : ME} : mwpE cx n (.ife c t e) μ H Q = mwpE cx n c μ H fun v H => TruthP v fun b => (b = true → mwpE cx n t μ H Q) ∧ (b = false → mwpE cx n e μ H Q) := rfl
theorem e_gint {i : Int} : mwpE cx n (.gint i) μ H Q = Q (.int i) H := rfl
theorem e_attr {C : Addr} {i : Nat} {x : Str} : mwpE cx n (.attr C i x) μ H Q = (getL μ i ≠ .unb ∧ attrP C (getL μ i) x H Q) := rfl
theorem e_callm {C f : Addr} {i : Nat} {x : Str} {as : MEs} : mwpE cx n (.callm C x f i as) μ H Q = (getL μ i ≠ .unb ∧ instP C (getL μ i) x H ∧ mwpEs cx n as μ H fun vs H => CallP cx n f (getL μ i :: vs) H Q) := rfl
theorem e_mk {C f : Addr} {as : MEs} : mwpE cx n (.mk C f as) μ H Q = mwpEs cx n as μ H fun vs H => mkP cx n C f vs H Q := rfl
theorem es_nil : mwpEs cx n .nil μ H QL = QL [] H := rfl
theorem es_cons {e : ME} {es : MEs} : mwpEs cx n (.cons e es) μ H QL = mwpE cx n e μ H fun v H => mwpEs cx n es μ H fun vs H => QL (v :: vs) H := rfl
theorem b_one {op : BoolOp} {e : ME} : mwpB cx n op (.cons e .nil) μ H Q = mwpE cx n e μ H Q := rfl
theorem b_more {op : BoolOp} {e e' : ME} {es : MEs} : mwpB cx n op (.cons e (.cons e' es)) μ H Q = mwpE cx n e μ H fun v H => TruthP v fun b => (b = (op == .And) → mwpB cx n op (.cons e' es) μ H Q) ∧ (b = (op == .Or) → Q (.bool b) H) := rfl
theorem s_assign {i : Nat} {e : ME} : mwpS cx n (.assign i e) μ H N R = mwpE cx n e μ H fun v H => N (setL μ i v) H := rfl
theorem s_setSub {o i v : ME} : mwpS cx n (.setSub o i v) μ H N R = mwpE cx n v μ H fun vv H => mwpE cx n o μ H fun ov H => mwpE cx n i μ H fun iv H => setSubP ov iv vv H fun H => N μ H := rfl
theorem s_expr {e : ME} : mwpS cx n (.expr e) μ H N R = mwpE cx n e μ H fun _ H => N μ H := rfl
theorem s_ite {c : ME} {t e : MSs} : mwpS cx n (.ite c t e) μ H N R = mwpE cx n c μ H fun v H => TruthP v fun b => (b = true → mwpSs cx n t μ H N R) ∧ (b = false → mwpSs cx n e μ H N R) := rfl
theorem s_for {i : Nat} {it : ME} {body : MSs} : mwpS cx n (.for_ i it body) μ H N R = mwpE cx n it μ H fun v H => IterP cx v H fun items st H₀ => ForP items st μ H₀ (fun x μ H K => mwpSs cx n body (setL μ i x) H K R) N := rfl
theorem s_forR {i : Nat} {a b : ME} {body : MSs} : mwpS cx n (.forR i a b body) μ H N R = mwpE cx n a μ H fun x H => mwpE cx n b μ H fun y H => RngP x y fun items => ForP items (fun _ => True) μ H (fun x μ H K => mwpSs cx n body (setL μ i x) H K R) N := rfl
theorem s_while {c : ME} {body : MSs} : mwpS cx n (.while_ c body) μ H N R = ∃ I : Nat → List V → HP → Prop, (∃ k, I k μ H) ∧ ∀ k μ H, I k μ H → mwpE cx n c μ H fun v H => TruthP v fun b =>
      (b = true → mwpSs cx n body μ H (fun μ' H' => ∃ H₃, LE H₃ H' ∧ ∃ m, m < k ∧ I m μ' H₃) R) ∧ (b = false → N μ H) := rfl
theorem s_ret {e : ME} : mwpS cx n (.ret e) μ H N R = mwpE cx n e μ H R := rfl
theorem s_setAttr {C : Addr} {i : Nat} {x : Str} {e : ME} : mwpS cx n (.setAttr C i x e) μ H N R = mwpE cx n e μ H fun v H => getL μ i ≠ .unb ∧ setAttrP C (getL μ i) x v H fun H => N μ H := rfl
theorem s_raise : mwpS cx n .raise_ μ H N R = False := rfl
theorem s_retN : mwpS cx n .retN μ H N R = R .none H := rfl
theorem ss_nil : mwpSs cx n .nil μ H N R = N μ H := rfl
theorem ss_cons {s : MS} {r : MSs} : mwpSs cx n (.cons s r) μ H N R = mwpS cx n s μ H (fun μ H => mwpSs cx n r μ H N R) R := rfl
end
end Mine
end

section
namespace Mine
open PySem PyProof.Rows

noncomputable def EP (cx : Cx) (s : Shared) (H : HP) (Q : V → HP → Prop) : Value → Shared → Prop := fun v s' => ∃ H', HS cx H' s' ∧ KE s H s' H' ∧ Q (abs v) H'

theorem EP.from {cx : Cx} {s s₁ : Shared} {H H₁ : HP} {Q : V → HP → Prop} (k : KE s H s₁ H₁) {v : Value} {s' : Shared} (h : EP cx s₁ H₁ Q v s') : EP cx s H Q v s' := by
  obtain ⟨H', a, b, c⟩ := h
  exact ⟨H', a, k.trans b, c⟩
theorem ep_from {cx : Cx} {s s₁ : Shared} {H H₁ : HP} {Q : V → HP → Prop} {M : Model} {A : Around} {E : Value → Shared → Prop} {t : Sem Value} (k : KE s H s₁ H₁) (h : wpAny M A t (EP cx s₁ H₁ Q) E s₁) : wpAny M A t (EP cx s H Q) E s₁ :=
  wpAny_mono h (fun _ _ x => x.from k) fun _ _ e => e

theorem abs_bool {v : Value} {b : Bool} (h : abs v = .bool b) : v = .bool b := by cases v <;> first | (cases h; rfl) | cases h
theorem abs_int {v : Value} {i : Int} (h : abs v = .int i) : ∃ t, v = .int i t := by cases v <;> first | (cases h; exact ⟨_, rfl⟩) | cases h
theorem abs_ref {v : Value} {a : Addr} (h : abs v = .ref a) : v = .ref a := by cases v <;> first | (cases h; rfl) | cases h

section
variable {cx : Cx} {H : HP} {s : Shared} {A : Around} {E : Value → Shared → Prop} {n : Nat}

theorem lk_rep (C : cx.OK) (S : HS cx H s) {a : Addr} {o : O} (h : lk cx H a = some o) : Rep s.heap a o := by
  unfold lk at h
  split at h
  · rename_i e; cases h; exact S.hr a _ e
  · obtain ⟨vs, e, rfl⟩ := Option.map_eq_some_iff.mp h
    exact (C.z a vs e).keep (S.ext a)
theorem lst_get (C : cx.OK) (S : HS cx H s) {a : Addr} {vs : List V} (h : lst cx H a = some vs) : ∃ items k, IsL s.heap a items k ∧ items.toList.map abs = vs := by
  unfold lst at h
  split at h
  · rename_i e; cases h
    exact lk_rep C S e
  · cases h
theorem sq_get (C : cx.OK) (S : HS cx H s) {a : Addr} {vs : List V} (h : sq cx H a = some vs) :
    ∃ (T : String) (items : Array Value) (k : Nat), s.heap.get? a = some { cls := .type T, data := .seq items k } ∧ (T = "list" ∨ T = "tuple") ∧ items.toList.map abs = vs := by
  unfold sq at h
  split at h
  · rename_i e; cases h
    obtain ⟨i, k, q, m⟩ := lk_rep C S e
    exact ⟨_, i, k, q, .inl rfl, m⟩
  · rename_i e; cases h
    obtain ⟨i, k, q, m⟩ := lk_rep C S e
    exact ⟨_, i, k, q, .inr rfl, m⟩
  · cases h

theorem size_of {items : Array Value} {vs : List V} (h : items.toList.map abs = vs) : items.size = vs.length := by rw [← h]; simp

theorem ep_push (C : cx.OK) (S : HS cx H s) {Q : V → HP → Prop} {o : O} (h : new cx H o Q) {ob : Obj} (R : ∀ h : Heap, h.get? s.heap.objs.size = some ob → Rep h s.heap.objs.size o) (hf : ob.isFreed = false) (tk : Nat) :
    EP cx s H Q (.ref s.heap.objs.size) { s with heap := s.heap.push ob, toks := tk } := by
  have k : ∀ b o', s.heap.get? b = some o' → (s.heap.push ob).get? b = some o' := fun b o' e => Heap.get?_push_of_some _ e
  exact ⟨_, S.alloc k (get_size _) (R _ (Heap.get?_push_size _ hf)) tk, KE.alloc k (get_size _) tk, h _ (S.fresh C (get_size _))⟩
theorem rep_list {h : Heap} {a : Addr} {items : Array Value} {k : Nat} {vs : List V} (e : h.get? a = some { cls := .type "list", data := .seq items k }) (m : items.toList.map abs = vs) : Rep h a (.list vs) := ⟨items, k, e, m⟩
theorem rep_tup {h : Heap} {a : Addr} {items : Array Value} {k : Nat} {vs : List V} (e : h.get? a = some { cls := .type "tuple", data := .seq items k }) (m : items.toList.map abs = vs) : Rep h a (.tup vs) := ⟨items, k, e, m⟩

theorem ep_same {Q : V → HP → Prop} (S : HS cx H s) {v : Value} (tk : Nat) (h : Q (abs v) H) : EP cx s H Q v { s with toks := tk } := ⟨H, S.toks tk, KE.toks s H tk, h⟩
theorem ep_here {Q : V → HP → Prop} (S : HS cx H s) {v : Value} (h : Q (abs v) H) : EP cx s H Q v s := ⟨H, S, Kept.refl _ s H, h⟩
theorem ep_grow {Q : V → HP → Prop} (S : HS cx H s) {v : Value} {h' : Heap} {tk : Nat} (k : ∀ b o, s.heap.get? b = some o → h'.get? b = some o) (h : Q (abs v) H) :
    EP cx s H Q v { s with heap := h', toks := tk } := ⟨H, S.grow k tk, KE.grow k tk, h⟩

theorem replicate_fold (items : Array Value) (m : Nat) : (List.foldl (fun x1 x2 => x1 ++ x2) #[] (List.replicate m items)).toList = (List.replicate m items.toList).flatten := by
  have : ∀ (l : List (Array Value)) (acc : Array Value), (List.foldl (fun x1 x2 => x1 ++ x2) acc l).toList = acc.toList ++ (l.map Array.toList).flatten := by
    intro l
    induction l with
    | nil => intro acc; simp
    | cons x l ih => intro acc; rw [List.foldl_cons, ih]; simp
  rw [this]; simp

theorem pylong_room (C : cx.OK) (hA : AOK A n) (S : HS cx H s) : PylongRoom (model cx.prog cx.w) A s := by
  obtain ⟨env, outer, hf, h1, h2, h3, h4⟩ := hA.top
  refine PylongRoom.of (C.nolimit.keeps S.ext) ?_ (SeerAt.of (C.seer.keeps S.ext) C.tree hf h1 h2 h3 h4)
  have := hA.depth
  unfold recursionLimit Builtin.pylongFrames
  first | lia | omega

theorem add_ok (C : cx.OK) (S : HS cx H s) {a b : Value} {Q : V → HP → Prop} (h : addP cx (abs a) (abs b) H Q) : wpAny (model cx.prog cx.w) A (binaryOp .Add a b) (EP cx s H Q) E s := by
  cases a with
  | int x t =>
    obtain ⟨y, hb, h⟩ := onI_inv h
    obtain ⟨u, rfl⟩ := abs_int hb
    exact PyProof.Rows.add_int (ep_same S _ h)
  | ref x =>
    obtain ⟨y, hb, h⟩ := onR_inv h
    have := abs_ref hb; subst this
    obtain ⟨xs, hx, h⟩ := onO_inv h
    obtain ⟨ys, hy, h⟩ := onO_inv h
    obtain ⟨i1, k1, e1, m1⟩ := lst_get C S hx
    obtain ⟨i2, k2, e2, m2⟩ := lst_get C S hy
    refine PySem.P.add_list e1 e2 (ep_push C S h.2 (fun h e => rep_list e (by simp [m1, m2])) rfl _) ?_
    rw [size_of m1, size_of m2, sizeLine_eq]; exact h.1
  | _ => exact False.elim h
theorem mul_ok (C : cx.OK) (S : HS cx H s) {a b : Value} {Q : V → HP → Prop} (h : mulP cx (abs a) (abs b) H Q) : wpAny (model cx.prog cx.w) A (binaryOp .Mult a b) (EP cx s H Q) E s := by
  cases a with
  | int x t =>
    obtain ⟨y, hb, h⟩ := onI_inv h
    obtain ⟨u, rfl⟩ := abs_int hb
    exact PyProof.Rows.mul_int (ep_same S _ h.2) h.1
  | ref a =>
    obtain ⟨x, hb, h⟩ := onI_inv h
    obtain ⟨u, rfl⟩ := abs_int hb
    obtain ⟨xs, hx, hn0, hn, hsz, h⟩ := onO_inv h
    obtain ⟨i1, k1, e1, m1⟩ := lst_get C S hx
    rw [← size_of m1] at hsz
    refine wpAny_binaryOp_repeat_ref (T := "list") (U := "int") (by decide) ⟨_, e1, rfl⟩ (fun s' => typeIs_int s' x u) noFill_list_mul F.fills_int_mul F.slot_int_rmul repeat_list F.slot_int_index.lookup
        (call_meets F.slot_int_rmul (typeIs_int s x u) F.entry_int_rmul (F.args_int_rmul_2 _ _) (int___rmul___int_list x u _ i1 k1)
          ⟨e1, rfl, ⟨_, e1, rfl⟩, call_meets F.slot_list_mul ⟨_, e1, rfl⟩ F.entry_list_mul (F.args_list_mul_2 _ _)
            (AutoListH.list___mul___list_int_3 _ i1 k1 x u (by simp [Builtin.List.listFitsIndex]; omega) (by first | lia | omega) (by simp [Builtin.List.listTooLong, sizeLine]; omega))
            ⟨e1, ?_⟩⟩)
    refine ep_push C S h (fun h e => rep_list e ?_) rfl _
    rw [replicate_fold, ← m1]
    split
    · rename_i he
      have : i1 = #[] := by simpa using he
      subst this; simp
    · simp [List.map_flatten]
  | _ => exact False.elim h
theorem bin_ok (C : cx.OK) (hA : AOK A n) (S : HS cx H s) {op : Operator} {a b : Value} {Q : V → HP → Prop} (h : binP cx op (abs a) (abs b) H Q) :
    wpAny (model cx.prog cx.w) A (binaryOp op a b) (EP cx s H Q) E s := by
  have ii : ∀ {k : Int → Int → Prop}, (onI (abs a) fun x => onI (abs b) fun y => k x y) → ∃ x y t u, a = .int x t ∧ b = .int y u ∧ k x y := fun h => by
    obtain ⟨x, e1, h⟩ := onI_inv h
    obtain ⟨y, e2, h⟩ := onI_inv h
    obtain ⟨t, e1⟩ := abs_int e1
    obtain ⟨u, e2⟩ := abs_int e2
    exact ⟨x, y, t, u, e1, e2, h⟩
  cases op with
  | Add => exact add_ok C S h
  | Mult => exact mul_ok C S h
  | Sub =>
    obtain ⟨x, y, t, u, rfl, rfl, h⟩ := ii h
    exact PyProof.Rows.sub_int (ep_same S _ h)
  | FloorDiv =>
    obtain ⟨x, y, t, u, rfl, rfl, h1, h2⟩ := ii h
    exact PyProof.Rows.floordiv_int h1 (ep_same S _ h2) (Or.inr (pylong_room C hA S))
  | Mod =>
    obtain ⟨x, y, t, u, rfl, rfl, h1, h2⟩ := ii h
    exact PyProof.Rows.mod_int' h1 (ep_same S _ h2)
  | Pow =>
    obtain ⟨x, y, t, u, rfl, rfl, h1, h2, h3⟩ := ii h
    exact PyProof.Rows.pow_int h1 h2 (ep_same S _ h3)
  | _ => exact False.elim h
end
end Mine
end

section
namespace Mine
open PySem PyProof.Rows PySem.SeqAt

theorem asInts_some : ∀ {vs : List V} {l : List Int}, asInts vs = some l → vs = intsV l
  | [], l, h => by cases h; rfl
  | .int i :: r, l, h => by
    simp only [asInts, Option.map_eq_some_iff] at h
    obtain ⟨l', h1, rfl⟩ := h
    simp only [intsV, List.map_cons]; rw [asInts_some h1]; rfl
  | .unb :: _, _, h => by cases h
  | .none :: _, _, h => by cases h
  | .bool _ :: _, _, h => by cases h
  | .str _ :: _, _, h => by cases h
  | .ref _ :: _, _, h => by cases h
  | .other :: _, _, h => by cases h

theorem eqNe_inv {op : CmpOp} {b c : Bool} (h : eqNe op b = some c) : (op = .Eq ∧ c = b) ∨ (op = .NotEq ∧ c = !b) := by
  cases op <;> first | (cases h; exact .inl ⟨rfl, rfl⟩) | (cases h; exact .inr ⟨rfl, rfl⟩) | cases h

noncomputable def hits (x : Int) : Value → Bool
  | .int i _ => i == x
  | _ => false

theorem any_hits {x : Int} : ∀ {items : List Value} {l : List Int}, items.map abs = intsV l → items.any (hits x) = l.contains x
  | [], [], _ => rfl
  | [], _ :: _, h => by cases h
  | _ :: _, [], h => by cases h
  | v :: r, i :: l, h => by
    simp only [intsV, List.map_cons, List.cons.injEq] at h
    obtain ⟨t, rfl⟩ := abs_int h.1
    rw [List.any_cons, List.contains_cons, any_hits (l := l) (by simpa [intsV] using h.2)]
    simp only [hits]
    rw [Bool.beq_comm]
theorem mem_int {items : List Value} {l : List Int} (h : items.map abs = intsV l) {y : Value} (hy : y ∈ items) : ∃ i t, y = .int i t := by
  have : abs y ∈ intsV l := by rw [← h]; exact List.mem_map_of_mem hy
  simp only [intsV, List.mem_map] at this
  obtain ⟨i, _, e⟩ := this
  obtain ⟨t, q⟩ := abs_int e.symm
  exact ⟨i, t, q⟩

section
variable {cx : Cx} {H : HP} {s : Shared} {A : Around} {E : Value → Shared → Prop} {n : Nat}

theorem rdS_inv {h : Heap} {x : Str} {t : Tok} {n : Nat} {d : PyData} (e : rdS x = some d) : (∃ as, Reads h (.str x t) d as) ∧ d.canLay0 = true ∧ d.depth ≤ n := by
  unfold rdS at e
  split at e
  · rename_i q; cases e; exact ⟨⟨_, .str _ _⟩, q, Nat.zero_le _⟩
  · cases e
theorem rdV_reads (C : cx.OK) (S : HS cx H s) : ∀ (n : Nat) (v : Value) (d : PyData), rdV cx H n (abs v) = some d → (∃ as, Reads s.heap v d as) ∧ d.canLay0 = true ∧ d.depth ≤ n := by
  intro n
  induction n with
  | zero =>
    intro v d h
    cases v <;> first | (cases h; exact ⟨⟨_, .int _ _⟩, rfl, Nat.zero_le _⟩) | exact rdS_inv h | cases h
  | succ n ih =>
    have all : ∀ (vs : List Value) (ds : List PyData), (vs.map abs).mapM (rdV cx H n) = some ds → (∃ as, ReadsAll s.heap vs ds as) ∧ PyData.canLayAll0 ds = true ∧ PyData.depthAll ds ≤ n := by
      intro vs
      induction vs with
      | nil => intro ds h; simp at h; subst h; exact ⟨⟨_, .nil⟩, rfl, Nat.zero_le _⟩
      | cons v vs ihv =>
        intro ds h
        simp only [List.map_cons, List.mapM_cons, Option.pure_def, Option.bind_eq_bind, Option.bind_eq_some_iff] at h
        obtain ⟨d, h1, es, h2, h3⟩ := h
        cases h3
        obtain ⟨⟨as, r⟩, c, dp⟩ := ih v d h1
        obtain ⟨⟨bs, rs⟩, cs, dps⟩ := ihv es h2
        exact ⟨⟨_, .cons r rs⟩, by rw [PyData.canLayAll0, c, cs]; rfl, Nat.max_le.mpr ⟨dp, dps⟩⟩
    intro v d h
    cases v with
    | int => cases h; exact ⟨⟨_, .int _ _⟩, rfl, Nat.zero_le _⟩
    | str => exact rdS_inv h
    | ref a =>
      have h : (match lk cx H a with
        | some (.list vs) => (vs.mapM (rdV cx H n)).map .list
        | some (.tup vs) => (vs.mapM (rdV cx H n)).map .tuple
        | _ => none) = some d := h
      cases hl : lk cx H a with
      | none => rw [hl] at h; cases h
      | some o =>
        rw [hl] at h
        have R := lk_rep C S hl
        cases o with
        | list vs =>
          obtain ⟨ds, e1, rfl⟩ := Option.map_eq_some_iff.mp h
          obtain ⟨items, k, e, m⟩ := R
          rw [← m] at e1
          obtain ⟨⟨as, r⟩, c, dp⟩ := all _ _ e1
          exact ⟨⟨_, .list e rfl rfl r⟩, c, Nat.succ_le_succ dp⟩
        | tup vs =>
          obtain ⟨ds, e1, rfl⟩ := Option.map_eq_some_iff.mp h
          obtain ⟨items, k, e, m⟩ := R
          rw [← m] at e1
          obtain ⟨⟨as, r⟩, c, dp⟩ := all _ _ e1
          exact ⟨⟨_, .tuple e rfl rfl r⟩, c, Nat.succ_le_succ dp⟩
        | _ => cases h
    | _ => cases h
theorem cmpRR_ok (C : cx.OK) (hA : ACall A n) (S : HS cx H s) {op : CmpOp} {x y : Addr} {c : Bool} {Q : V → HP → Prop} (h : ((rdV cx H 2 (.ref x)).bind fun d => (rdV cx H 2 (.ref y)).bind fun e => eqNe op (PyData.eqv d e)) = some c) (hQ : Q (.bool c) H) : wpAny (model cx.prog cx.w) A (compareOp op (.ref x) (.ref y)) (EP cx s H Q) E s := by
  have fin : EP cx s H Q (.bool c) s := ep_here S hQ
  obtain ⟨d, hd, h⟩ := Option.bind_eq_some_iff.mp h
  obtain ⟨e, he, h⟩ := Option.bind_eq_some_iff.mp h
  obtain ⟨⟨as, r⟩, c1, dp⟩ := rdV_reads C S 2 (.ref x) d hd
  obtain ⟨⟨bs, r'⟩, c2, dp'⟩ := rdV_reads C S 2 (.ref y) e he
  have sh : ∀ {d : PyData}, d.canLay0 = true → d.depth ≤ 2 → shaped d = true := fun c dp => by unfold shaped; rw [c, decide_eq_true (Nat.le_trans dp (by decide))]; rfl
  have hu : A.units + 64 < cLine := by have := hA.units; unfold cLine; omega
  rcases eqNe_inv h with ⟨rfl, rfl⟩ | ⟨rfl, rfl⟩
  · exact eq_dataH r r' (sh c1 dp) (sh c2 dp') hu fin
  · exact ne_dataH r r' (sh c1 dp) (sh c2 dp') hu fin
theorem cmpII_ok (S : HS cx H s) {op : CmpOp} {x y : Int} {t u : Tok} {c : Bool} {Q : V → HP → Prop} (h : cmpII op x y = some c) (hQ : Q (.bool c) H) : wpAny (model cx.prog cx.w) A (compareOp op (.int x t) (.int y u)) (EP cx s H Q) E s := by
  have fin : EP cx s H Q (.bool c) s := ep_here S hQ
  cases op with
  | Lt => cases h; exact PyProof.Rows.lt_int fin
  | LtE => cases h; exact PyProof.Rows.le_int fin
  | Gt => cases h; exact PyProof.Rows.gt_int fin
  | Eq => cases h; exact PyProof.Rows.eq_int fin
  | NotEq => cases h; exact PyProof.Rows.ne_int fin
  | _ => cases h
theorem cmpNI_ok (C : cx.OK) (S : HS cx H s) {x : Int} {t : Tok} {a : Addr} {c : Bool} {Q : V → HP → Prop} (h : ((sq cx H a).bind fun vs => (asInts vs).map fun l => !l.contains x) = some c) (hQ : Q (.bool c) H) : wpAny (model cx.prog cx.w) A (compareOp .NotIn (.int x t) (.ref a)) (EP cx s H Q) E s := by
  have fin : EP cx s H Q (.bool c) s := ep_here S hQ
  obtain ⟨vs, hvs, h⟩ := Option.bind_eq_some_iff.mp h
  obtain ⟨l, hl, rfl⟩ := Option.map_eq_some_iff.mp h
  obtain ⟨T, items, k, e, hT, m⟩ := sq_get C S hvs
  rw [asInts_some hl] at m
  have hany : items.any (hits x) = l.contains x := by rw [← any_hits m, ← Array.any_toList]
  have he : ∀ y, y ∈ items → EqAt A.in1 s y (.int x t) (hits x y) := fun y hy => by
    obtain ⟨i, u, rfl⟩ := mem_int m (Array.mem_toList_iff.mpr hy)
    exact EqAt.int_int i u x t
  rcases hT with rfl | rfl
  · exact notIn_listAt (hits x) ⟨_, e, rfl, k, rfl⟩ he (by rw [hany]; exact fin)
  · exact notIn_tupleAt (hits x) ⟨_, e, rfl, k, rfl⟩ he (by rw [hany]; exact fin)
theorem cmp_ok (C : cx.OK) (hA : ACall A n) (S : HS cx H s) {op : CmpOp} {a b : Value} {c : Bool} {Q : V → HP → Prop} (h : cmpP cx op (abs a) (abs b) H = some c) (hQ : Q (.bool c) H) :
    wpAny (model cx.prog cx.w) A (compareOp op a b) (EP cx s H Q) E s := by
  cases a with
  | int x t => cases b with
    | int y u => exact cmpII_ok S h hQ
    | bool y => cases op with
      | IsNot => cases h; exact wpAny_isNot_other rfl (by simp) (ep_here S hQ)
      | _ => cases h
    | ref a => cases op with
      | NotIn => exact cmpNI_ok C S h hQ
      | _ => cases h
    | _ => cases h
  | str x t => cases b with
    | str y u =>
      rcases eqNe_inv h with ⟨rfl, rfl⟩ | ⟨rfl, rfl⟩
      · exact PyProof.Rows.eq_str (ep_here S hQ)
      · exact PyProof.Rows.ne_str (ep_here S hQ)
    | _ => cases h
  | bool x => cases b with
    | bool y =>
      rcases eqNe_inv h with ⟨rfl, rfl⟩ | ⟨rfl, rfl⟩
      · exact PyProof.Rows.eq_bool (ep_here S hQ)
      · exact PyProof.Rows.ne_bool (ep_here S hQ)
    | _ => cases h
  | ref x => cases b with
    | ref y => exact cmpRR_ok C hA S h hQ
    | _ => cases h
  | _ => cases h

theorem isi_ok (S : HS cx H s) {v : Value} {t : String} {b : Bool} {Q : V → HP → Prop} (h : isiP H (abs v) t = some b) (hQ : Q (.bool b) H) :
    wpAny (model cx.prog cx.w) A (call (.builtin "isinstance") [v, .type t]) (EP cx s H Q) E s := by
  have key : ∀ {u : String}, (if t = u then some true else none) = some b → t = u ∧ b = true := fun {u} h => by
    by_cases q : t = u
    · rw [if_pos q] at h; cases h; exact ⟨q, rfl⟩
    · rw [if_neg q] at h; cases h
  cases v with
  | int x u =>
    have h : (if t = "int" then some true else if t = "bool" then some false else none) = some b := h
    by_cases q : t = "int"
    · rw [if_pos q] at h; cases h; subst q; exact IsiPair.int_int (ep_here S hQ)
    · rw [if_neg q] at h
      by_cases q : t = "bool"
      · rw [if_pos q] at h; cases h; subst q; exact IsiPair.int_bool (ep_same S _ hQ)
      · rw [if_neg q] at h; cases h
  | ref a =>
    have h : (match H a with
      | some (.list _) => if t = "list" then some true else none
      | some (.tup _) => if t = "tuple" then some true else none
      | _ => none) = some b := h
    cases e : H a with
    | none => rw [e] at h; cases h
    | some o =>
      rw [e] at h
      cases o with
      | list vs =>
        obtain ⟨rfl, rfl⟩ := key h
        obtain ⟨i, k, q, m⟩ := S.hr _ _ e
        exact IsiPair.list_list q rfl (ep_here S hQ)
      | tup vs =>
        obtain ⟨rfl, rfl⟩ := key h
        obtain ⟨i, k, q, m⟩ := S.hr _ _ e
        exact IsiPair.tuple_tuple q rfl (ep_here S hQ)
      | _ => cases h
  | _ => cases h
end
end Mine
end

section
namespace Mine
open PySem PyProof.Rows PySem.SeqAt

theorem range_pick {α : Type} (xs : List α) : ∀ (c l : Nat), ((List.range c).map fun k => l + k).filterMap (fun i => xs[i]?) = (xs.drop l).take c := by
  intro c
  induction c with
  | zero => intro l; simp
  | succ c ih =>
    intro l
    rw [List.range_succ_eq_map, List.map_cons, List.map_map]
    have e : ((fun k => l + k) ∘ Nat.succ) = fun k => (l + 1) + k := by funext k; simp only [Function.comp]; omega
    rw [e, List.filterMap_cons, ih (l + 1)]
    simp only [Nat.add_zero]
    cases h : xs[l]? with
    | none =>
      have hl : xs.length ≤ l := List.getElem?_eq_none_iff.mp h
      simp [List.drop_eq_nil_of_le hl, List.drop_eq_nil_of_le (Nat.le_succ_of_le hl)]
    | some x =>
      obtain ⟨hl, hx⟩ := List.getElem?_eq_some_iff.mp h
      simp only
      rw [List.drop_eq_getElem_cons hl, List.take_succ_cons, hx]

noncomputable def partOf : V → Option (Option Int)
  | .none => some none
  | .int i => some (some i)
  | _ => none

theorem isPart_of {v : Value} {x : Option Int} (h : partOf (abs v) = some x) : IsPart v x := by
  cases v <;> simp [abs, partOf] at h <;> subst h <;> constructor

theorem min_cast {j : Int} (h : 0 ≤ j) (n : Nat) : min j (n : Int) = ((min j.toNat n : Nat) : Int) := by
  obtain ⟨k, rfl⟩ := Int.eq_ofNat_of_zero_le h
  rw [Int.toNat_natCast]
  omega
theorem bnd_none (n : Nat) (j : Int) (h0 : 0 ≤ j) : sliceBounds none (some j) none n = (0, ((min j.toNat n : Nat) : Int), 1) := by
  simp [sliceBounds, Int.not_lt.mpr h0, min_cast h0]
theorem bnd_some (n : Nat) (i j : Int) (h1 : 0 ≤ i) (h0 : 0 ≤ j) : sliceBounds (some i) (some j) none n = (((min i.toNat n : Nat) : Int), ((min j.toNat n : Nat) : Int), 1) := by
  simp [sliceBounds, Int.not_lt.mpr h0, Int.not_lt.mpr h1, min_cast h0, min_cast h1]
theorem bnd_open (n : Nat) (i : Int) (h1 : 0 ≤ i) : sliceBounds (some i) none none n = (((min i.toNat n : Nat) : Int), (n : Int), 1) := by
  simp [sliceBounds, Int.not_lt.mpr h1, min_cast h1]
theorem bnd_all (n : Nat) : sliceBounds none none none n = (0, (n : Int), 1) := by
  simp [sliceBounds]
theorem rng_cut (l h : Nat) : sliceRange (l : Int) (h : Int) 1 = (List.range (h - l)).map fun k => l + k := by
  unfold sliceRange
  simp only [show (1 : Int) > 0 from by decide, if_true, Int.one_mul]
  have ec : (if (l : Int) < h then ((h : Int) - l + 1 - 1) / 1 else 0).toNat = h - l := by
    split <;> omega
  rw [ec]
  congr 1
theorem cutAt_inv {n l : Nat} {i : Int} (h : cutAt n i = some l) : 0 ≤ i ∧ l = min i.toNat n := by
  unfold cutAt at h
  by_cases q : 0 ≤ i
  · rw [if_pos q] at h; cases h; exact ⟨q, rfl⟩
  · rw [if_neg q] at h; cases h
theorem slice_cut {items : Array Value} {vs : List V} (m : items.toList.map abs = vs) {lo hi : V} {l h : Nat} (hl : cutLo vs.length lo = some l) (hh : cutHi vs.length hi = some h) :
    ∃ pl ph, partOf lo = some pl ∧ partOf hi = some ph ∧ (slicePick items pl ph none).toList.map abs = cut vs l h := by
  have key : ∀ pl ph, sliceBounds pl ph none items.size = ((l : Int), (h : Int), 1) → (slicePick items pl ph none).toList.map abs = cut vs l h := by
    intro pl ph e
    unfold slicePick
    rw [e]
    dsimp only
    rw [rng_cut]
    have := range_pick items.toList (h - l) l
    simp only [Array.getElem?_toList] at this
    show List.map abs (List.filterMap (fun i => items[i]?) _) = _
    rw [this, ← m]
    unfold cut
    rw [List.map_take, List.map_drop, List.drop_take]
  rw [← size_of m] at hl hh
  cases hi with
  | int j =>
    obtain ⟨h0, rfl⟩ := cutAt_inv hh
    cases lo with
    | none => cases hl; exact ⟨none, some j, rfl, rfl, key _ _ (bnd_none _ _ h0)⟩
    | int i =>
      obtain ⟨h1, rfl⟩ := cutAt_inv hl
      exact ⟨some i, some j, rfl, rfl, key _ _ (bnd_some _ _ _ h1 h0)⟩
    | _ => cases hl
  | none =>
    cases hh
    cases lo with
    | none => cases hl; exact ⟨none, none, rfl, rfl, key _ _ (bnd_all _)⟩
    | int i =>
      obtain ⟨h1, rfl⟩ := cutAt_inv hl
      exact ⟨some i, none, rfl, rfl, key _ _ (bnd_open _ _ h1)⟩
    | _ => cases hl
  | _ => cases hh

noncomputable def BF.val : BF → Value
  | .len => .builtin "len"
  | .list => .type "list"
  | .min => .builtin "min"

section
variable {cx : Cx} {H : HP} {s : Shared} {A : Around} {E : Value → Shared → Prop} {n : Nat}

theorem one_arg {vs : List Value} {x : V} (e : vs.map abs = [x]) : ∃ v, vs = [v] ∧ abs v = x := by
  obtain ⟨v, vs', e1, e2, e3⟩ := List.map_eq_cons_iff.mp e
  exact ⟨v, by rw [e1, List.map_eq_nil_iff.mp e3], e2⟩
theorem callb_ok (C : cx.OK) (hA : AOK A n) (S : HS cx H s) {b : BF} {vs : List Value} {Q : V → HP → Prop} (h : callbP cx b (vs.map abs) H Q) :
    wpAny (model cx.prog cx.w) A (call b.val vs) (EP cx s H Q) E s := by
  have ref1 : ∀ {k : Addr → Prop}, (on1 (vs.map abs) fun v => onR v k) → ∃ a, vs = [.ref a] ∧ k a := fun h => by
    obtain ⟨x, e, h1⟩ := on1_inv h
    obtain ⟨a, e1, h2⟩ := onR_inv h1
    obtain ⟨v, e2, e3⟩ := one_arg e
    exact ⟨a, by rw [e2, abs_ref (e3.trans e1)], h2⟩
  cases b with
  | len =>
    obtain ⟨a, rfl, h⟩ := ref1 h
    obtain ⟨xs, hx, h1, h2⟩ := onO_inv h
    obtain ⟨T, items, k, e, hT, m⟩ := sq_get C S hx
    have hsz := size_of m
    have q : EP cx s H Q (.int items.size (s.toks + 1)) { s with toks := s.toks + 1 + 1 } := ep_same S _ (by rw [hsz]; exact h2)
    have hb : (items.size : Int) < 2 ^ 63 := by rw [hsz]; omega
    rcases hT with rfl | rfl
    · exact PyProof.Rows.len_list ⟨_, e, rfl, k, rfl⟩ hb q
    · exact PyProof.Rows.len_tuple ⟨_, e, rfl, k, rfl⟩ hb q
  | list =>
    obtain ⟨a, rfl, h⟩ := ref1 h
    obtain ⟨xs, hx, h1, h2⟩ := onO_inv h
    obtain ⟨T, items, k, e, hT, m⟩ := sq_get C S hx
    refine call_list_seq _ hT e rfl rfl (fun h' c' hk hD => ?_) (by rw [size_of m, sizeLine_eq]; exact h1)
    exact ⟨_, S.alloc hk (get_size _) (rep_list hD m) s.toks, KE.alloc hk (get_size _) s.toks, h2 _ (S.fresh C (get_size _))⟩
  | min =>
    obtain ⟨x, y, e, h⟩ := on2_inv h
    obtain ⟨a, ea, h⟩ := onI_inv h
    obtain ⟨b, eb, hm⟩ := onI_inv h
    clear h
    obtain ⟨v, vs', rfl, e1, e3⟩ := List.map_eq_cons_iff.mp e
    obtain ⟨w, rfl, e2⟩ := one_arg e3
    obtain ⟨t, rfl⟩ := abs_int (e1.trans ea); obtain ⟨u, rfl⟩ := abs_int (e2.trans eb)
    refine min_two_ints hA.handled fun h' tk hk => ep_grow S hk ?_
    by_cases c : b < a
    · rw [if_pos c] at hm ⊢; exact hm
    · rw [if_neg c] at hm ⊢; exact hm
end
end Mine
end

section
namespace Mine
open PySem PyProof.Rows PySem.SeqAt

noncomputable def notSlice : Expr → Bool
  | .Slice .. => false
  | _ => true
theorem notSlice_sub {e : Expr} (h : notSlice e = true) (o i : Value) : subscripted e false o i = operate [o, i] (getItem o i) := by
  cases e <;> first | rfl | exact (Bool.false_ne_true h).elim

section
variable {cx : Cx} {H : HP} {s : Shared} {A : Around} {E : Value → Shared → Prop} {n : Nat}

theorem item_of {items : Array Value} {vs : List V} (m : items.toList.map abs = vs) {j : Nat} {v : V} (h : vs[j]? = some v) : ∃ x, items[j]? = some x ∧ abs x = v := by
  rw [← m, List.getElem?_map] at h
  obtain ⟨x, e, q⟩ := Option.map_eq_some_iff.mp h
  exact ⟨x, by simpa using e, q⟩

theorem sub_ok (C : cx.OK) (S : HS cx H s) {value slice : Expr} (hsl : notSlice slice = true) {o i : Value} {Q : V → HP → Prop} (h : subP cx (abs o) (abs i) H Q) :
    wpAny (model cx.prog cx.w) A (subscriptTail value slice o i) (EP cx s H Q) E s := by
  obtain ⟨a, ho, h⟩ := onR_inv h
  obtain ⟨k, hi, h⟩ := onI_inv h
  have := abs_ref ho; subst this
  obtain ⟨u, rfl⟩ := abs_int hi
  obtain ⟨vs, hvs, h0, hlen, h⟩ := onO_inv h
  obtain ⟨v, hv, h⟩ := onO_inv h
  obtain ⟨T, items, kk, e, hT, m⟩ := sq_get C S hvs
  obtain ⟨x, hx, hxa⟩ := item_of m hv
  have hlt : k.toNat < vs.length := (List.getElem?_eq_some_iff.mp hv).1
  have fin : EP cx s H Q x s := ep_here S (by rw [hxa]; exact h)
  have hk : k < 2 ^ 63 := by first | lia | omega
  rcases hT with rfl | rfl
  · have hL : s.heap.IsList a items := ⟨_, e, rfl, kk, rfl⟩
    exact tail_any hL.typeIs slot_list_getitem.lookup (wpAny_getItem_list hL h0 hk hx fin) (notSlice_sub hsl _ _)
  · have hT : IsTup s.heap a items.toList.toArray := ⟨_, e, rfl, kk, rfl⟩
    refine item_tupleT hT (by first | lia | omega) hk (j := k.toNat) ?_ (by simpa using hx) fin (notSlice_sub hsl _ _)
    have hsz : items.toList.length = vs.length := by rw [← m]; simp
    unfold seqIndex?
    rw [hsz]
    simp only [Int.not_lt.mpr h0, if_false]
    rw [if_pos (by simp only [Bool.and_eq_true, decide_eq_true_eq]; omega)]

theorem slice_ok (C : cx.OK) (S : HS cx H s) {value : Expr} {lo hi : Option Expr} {p : Pos} {o l u : Value} {Q : V → HP → Prop} (h : sliceP cx (abs o) (abs l) (abs u) H Q) :
    wpAny (model cx.prog cx.w) A (subscriptTail value (.Slice lo hi none p) o (.ref s.heap.objs.size)) (EP cx s H Q) E
      { s with heap := s.heap.push { cls := .type "slice", data := .fields #[l, u, .none] } } := by
  obtain ⟨a, ho, h⟩ := onR_inv h
  have := abs_ref ho; subst this
  have k1 : ∀ b ob, s.heap.get? b = some ob → (s.heap.push { cls := .type "slice", data := .fields #[l, u, .none] }).get? b = some ob := fun b ob x => Heap.get?_push_of_some _ x
  have S' := S.grow k1 s.toks
  refine ep_from (KE.grow k1 s.toks) ?_
  rcases onSq_inv h with ⟨vs, hvs, h⟩ | ⟨vs, hvs, hu, h⟩
  case inr =>
    obtain ⟨i, hi, h1, h2, h3, h4⟩ := onI_inv h
    obtain ⟨t, rfl⟩ := abs_int hi
    have : u = .none := by cases u <;> first | rfl | cases hu
    subst this
    obtain ⟨items, k, e, m⟩ := lk_rep C S hvs
    obtain ⟨j, rfl⟩ := Int.eq_ofNat_of_zero_le (show 0 ≤ i from by omega)
    rw [Int.toNat_natCast] at h2 h4
    have hT : IsTup (s.heap.push { cls := .type "slice", data := .fields #[.int (j : Int) t, .none, .none] }) a items := ⟨_, k1 _ _ e, rfl, k, rfl⟩
    refine tail_any (s := { s with heap := s.heap.push { cls := .type "slice", data := .fields #[.int (j : Int) t, .none, .none] } }) hT.typeIs slot_tuple_getitem.lookup
      (getItem_tuple_from hT ⟨_, Heap.get?_push_size _ rfl, rfl, rfl⟩ (by omega) (by rw [size_of m]; exact h2) ?_ (by rw [size_of m, sizeLine_eq]; exact h3)) rfl
    exact ep_push C S' h4 (fun h e => rep_tup e (by rw [List.map_drop, m])) rfl _
  obtain ⟨cl, e1, h⟩ := onO_inv h
  obtain ⟨ch, e2, h1, h2⟩ := onO_inv h
  obtain ⟨items, k, e, m⟩ := lk_rep C S hvs
  obtain ⟨pl, ph, q1, q2, q3⟩ := slice_cut m e1 e2
  have hL : (s.heap.push { cls := .type "slice", data := .fields #[l, u, .none] }).IsList a items := ⟨_, k1 _ _ e, rfl, k, rfl⟩
  refine tail_any (s := { s with heap := s.heap.push { cls := .type "slice", data := .fields #[l, u, .none] } }) hL.typeIs slot_list_getitem.lookup
    (wpAny_getItem_list_slice hL ⟨_, Heap.get?_push_size _ rfl, rfl, rfl⟩ (isPart_of q1) (isPart_of q2) .none (by simp) ?_ (by rw [size_of m, sizeLine_eq]; exact h1)) rfl
  exact ep_push C S' h2 (fun h e => rep_list e q3) rfl _

noncomputable def UP (cx : Cx) (s : Shared) (H : HP) (Q : HP → Prop) : Unit → Shared → Prop := fun _ s' => ∃ H', HS cx H' s' ∧ KE s H s' H' ∧ Q H'

theorem setItem_plain {l : Addr} {items : Array Value} {c : Nat} {k : Int} {t : Tok} {v : Value} {Q : Unit → Shared → Prop} (hl : IsL s.heap l items c)
    (h0 : 0 ≤ k) (hfit : k < 2 ^ 63) (hn : k < items.size)
    (hQ : ∀ h', IsL h' l (items.setIfInBounds k.toNat v) c → Heap.SameBut l s.heap h' → Q () { s with heap := h' }) :
    wpAny (model cx.prog cx.w) A (setItem (.ref l) (.int k t) v) Q E s := by
  have hT : s.TypeIs (.ref l) "list" := ⟨_, hl, rfl⟩
  unfold setItem
  refine wpAny_holding (wpAny_bind (wpAny_sequenceKey hT (by decide) ?_))
  refine wpAny_bind (wpAny_callSpecial?_slot (name := Str.ofString "__setitem__") hT slot_list_setitem (wpAny_call_entry slot_list_setitem hT entry_list_setitem ?_ (args_list_setitem _ _ _)))
  show wpAny _ _ (Builtin.List.listSubscript? (.int k t) >>= _) _ _ s
  refine wpAny_bind (wpAny_listSubscript_int (fitsIndex_of h0 hfit) ?_)
  clear hfit
  obtain ⟨j, rfl⟩ := Int.eq_ofNat_of_zero_le h0
  have hj : j < items.size := by first | lia | omega
  have hx' : items[j]? = some items[j] := Array.getElem?_eq_getElem hj
  have hnew : IsL (s.heap.update l (Obj.mapSeq (·.setIfInBounds j v))) l (items.setIfInBounds j v) c := by
    have := hl.update (fun xs => xs.setIfInBounds j v)
    simpa using this
  show wpAny _ _ ((seqItemAt l j >>= fun r => pure (r.map (j, ·))) >>= _) _ _ s
  refine wpAny_bind (wpAny_bind (wpAny_seqItemAt hl rfl (wpAny_pure ?_)))
  rw [hx']
  show wpAny _ _ (setSeqItemAt l j v >>= _) _ _ s
  refine wpAny_bind (wpAny_setSeqItemAt hl rfl ?_)
  have fin : Q () { s with heap := s.heap.update l (Obj.mapSeq (·.setIfInBounds j v)) } := hQ _ hnew (Heap.SameBut.update ..)
  first
    | exact wpAny_pure ⟨.none, rfl, wpAny_pure fin⟩
    | exact wpAny_bind (wpAny_pure (wpAny_pure ⟨.none, rfl, wpAny_pure fin⟩))

theorem setSub_ok (S : HS cx H s) {o i v : Value} {Q : HP → Prop} (h : setSubP (abs o) (abs i) (abs v) H Q) :
    wpAny (model cx.prog cx.w) A (setItem o i v) (UP cx s H Q) E s := by
  obtain ⟨a, ho, h⟩ := onR_inv h
  obtain ⟨k, hi, h⟩ := onI_inv h
  have := abs_ref ho; subst this
  obtain ⟨u, rfl⟩ := abs_int hi
  obtain ⟨vs, hvs, h0, hlen, hlt, h⟩ := onHL_inv h
  obtain ⟨items, c, e, m⟩ := S.hr _ _ hvs
  rw [← size_of m] at hlt hlen
  refine setItem_plain e h0 (by first | lia | omega) (by first | lia | omega) fun h' hL sb => ?_
  exact ⟨_, S.change hvs (fun b ob hb q => (sb.2 b hb).trans q) (rep_list hL (by rw [Array.toList_setIfInBounds, List.map_set, m])) s.toks, KE.change hvs (fun b ob hb q => (sb.2 b hb).trans q) s.toks, h⟩
end
end Mine
end

section
namespace Mine
open PySem PySem.W PyProof.Rows

noncomputable abbrev FE (es : List DictEntry) (fs : List (Str × V)) : Prop := es.map (fun e => (keyS e, abs e.val)) = fs.map fun p => (some p.1, p.2)

theorem keyS_is {e : DictEntry} {x y : Str} (h : keyS e = some x) : e.key.isStr y = (x == y) ∧ e.refKey = false := by
  obtain ⟨hs, k, v⟩ := e
  cases k <;> first | (cases h; exact ⟨rfl, rfl⟩) | cases h
theorem fe_cons {e : DictEntry} {es : List DictEntry} {fs : List (Str × V)} (h : FE (e :: es) fs) : ∃ x r, fs = (x, abs e.val) :: r ∧ keyS e = some x ∧ FE es r := by
  cases fs with
  | nil => cases h
  | cons p r =>
    obtain ⟨x, v⟩ := p
    simp only [FE, List.map_cons, List.cons.injEq, Prod.mk.injEq] at h
    obtain ⟨⟨h1, h2⟩, h3⟩ := h
    exact ⟨x, r, by rw [h2], h1, h3⟩
theorem fe_find (x : Str) : ∀ {es : List DictEntry} {fs : List (Str × V)}, FE es fs → (es.find? (·.key.isStr x)).map (fun e => abs e.val) = fs.lookup x ∧ es.any (·.refKey) = false
  | [], [], _ => ⟨rfl, rfl⟩
  | [], _ :: _, h => by cases h
  | e :: es, fs, h => by
    obtain ⟨y, r, rfl, h1, h2⟩ := fe_cons h
    obtain ⟨a, b⟩ := fe_find x h2
    obtain ⟨c, d⟩ := keyS_is (y := x) h1
    rw [List.find?_cons, List.any_cons, List.lookup_cons, c, d, b, show (x == y) = (y == x) from Bool.beq_comm]
    cases (y == x)
    · exact ⟨a, rfl⟩
    · exact ⟨rfl, rfl⟩
theorem fe_put (x : Str) (hs : Int) (t : Tok) (w : Value) : ∀ {es : List DictEntry} {fs : List (Str × V)}, FE es fs → FE (putL x hs (.str x t) w es) (putF x (abs w) fs)
  | [], [], _ => rfl
  | [], _ :: _, h => by cases h
  | e :: es, fs, h => by
    obtain ⟨y, r, rfl, h1, h2⟩ := fe_cons h
    have ih := fe_put x hs t w h2
    obtain ⟨c, d⟩ := keyS_is (y := x) h1
    unfold putL putF
    rw [c]
    cases q : (y == x)
    · simp only [Bool.false_eq_true, if_false, FE, List.map_cons, h1]
      rw [show List.map (fun e => (keyS e, abs e.val)) (putL x hs (.str x t) w es) = _ from ih]
    · simp only [if_true, FE, List.map_cons]
      rw [show List.map (fun e => (keyS e, abs e.val)) es = _ from h2]
      rw [show keyS ⟨e.hash, e.key, w⟩ = some y from h1]
theorem putL_len (x : Str) (hs : Int) (k w : Value) : ∀ es : List DictEntry, (putL x hs k w es).length ≤ es.length + 1
  | [] => Nat.le_refl _
  | e :: es => by
    unfold putL
    split
    · exact Nat.le_succ _
    · exact Nat.succ_le_succ (putL_len x hs k w es)

noncomputable def attrIn (K : Frag) (C : Addr) (x : Str) : Bool := plainGet K C x && (hasDictIn K C && (findIn K (.ref C) x == some none && (findIn K (.ref C) "__setattr__" == some (some (.builtin "object.__setattr__")) && plainOver K C)))
noncomputable def methIn (K : Frag) (C : Addr) (x : Str) (f : Addr) : Bool := plainGet K C x && (findIn K (.ref C) x == some (some (.ref f)) && (isFn K (.ref f) && keepIn K (.ref f)))
noncomputable def mkIn (K : Frag) (C f : Addr) : Bool := makesIn K C && (findIn K (.ref C) "__init__" == some (some (.ref f)) && (isFn K (.ref f) && keepIn K (.ref C)))
theorem band {a b : Bool} (h : (a && b) = true) : a = true ∧ b = true := by cases a <;> cases b <;> first | exact ⟨rfl, rfl⟩ | cases h

section
variable {cx : Cx} {K : Frag} {H : HP} {s : Shared} {A : Around} {E : Value → Shared → Prop} {n : Nat} {C : Addr} {x : Str}

theorem handed_abs {w : Value} (h : abs w ≠ .other) : handedIn w = true := by
  cases w <;> first | rfl | exact absurd rfl h
theorem inst_at (S : HS cx H s) {a dx : Addr} {fs : List (Str × V)} (h1 : H a = some (.inst C dx)) (h2 : H dx = some (.flds fs)) :
    ∃ es n, s.heap.get? dx = some (dictOf es n) ∧ FE es fs ∧ InstAt s.heap a (instObj C dx) C (some (dictOf es n)) := by
  obtain ⟨es, k, e, m⟩ := S.hr _ _ h2
  exact ⟨es, k, e, m, S.hr _ _ h1, rfl, rfl, e⟩
theorem attr_ok (X : K.In cx.base) (hT : attrIn K C x = true) (S : HS cx H s) {o : Value} {Q : V → HP → Prop} (h : attrP C (abs o) x H Q) : wpAny (model cx.prog cx.w) A (getAttr o x true) (EP cx s H Q) E s := by
  obtain ⟨a, ha, h⟩ := onR_inv h
  have := abs_ref ha; subst this
  obtain ⟨dx, hi, h⟩ := onIn_inv h
  obtain ⟨fs, hf, h⟩ := onFl_inv h
  obtain ⟨v, hv, hne, hq⟩ := onO_inv h
  obtain ⟨es, k, e, m, I⟩ := inst_at S hi hf
  obtain ⟨h1, h2⟩ := band hT
  obtain ⟨h2, h3⟩ := band h2
  obtain ⟨h3, h4⟩ := band h3
  obtain ⟨f1, f2⟩ := fe_find x m
  rw [hv] at f1
  obtain ⟨en, f3, f4⟩ := Option.map_eq_some_iff.mp f1
  refine get_value (v := en.val) (X.keeps S.ext) I (plainGet_of h1).1 (findObj_own (attr := none) h2 (beq_iff_eq.mp h3) rfl ?_) (handed_abs (by rw [f4]; exact hne)) (ep_same S _ (by rw [f4]; exact hq))
  rw [lookIn_dict]
  unfold W.getL
  rw [f3]
theorem meth_ok (X : K.In cx.base) {f : Addr} (hT : methIn K C x f = true) (S : HS cx H s) {o : Value} {pl : Sem Bool} (h : instP C (abs o) x H) {Q : Value × List Value → Shared → Prop} (q : Q (.ref f, [o]) s) :
    wpAny (model cx.prog cx.w) A (getMethod o x pl) Q E s := by
  obtain ⟨a, ha, h⟩ := onR_inv h
  have := abs_ref ha; subst this
  obtain ⟨dx, hi, h⟩ := onIn_inv h
  obtain ⟨fs, hf, h⟩ := onFl_inv h
  obtain ⟨es, k, e, m, I⟩ := inst_at S hi hf
  obtain ⟨h1, h2⟩ := band hT
  obtain ⟨h2, h3⟩ := band h2
  obtain ⟨h3, h4⟩ := band h3
  obtain ⟨f1, f2⟩ := fe_find x m
  rw [h] at f1
  refine method_fn (X.keeps S.ext) I (plainGet_of h1).1 (plainGet_of h1).2 (beq_iff_eq.mp h2) (beq_iff_eq.mp h3) ?_ q
  show (lookIn x (dictOf es k)).map _ = _
  rw [lookIn_dict]
  unfold W.getL
  rw [Option.map_eq_none_iff.mp f1, f2]
  rfl
theorem setAttr_ok (X : K.In cx.base) (hT : attrIn K C x = true) (S : HS cx H s) {o v : Value} {Q : HP → Prop} (h : setAttrP C (abs o) x (abs v) H Q) : wpAny (model cx.prog cx.w) A (setAttr o x v) (UP cx s H Q) E s := by
  obtain ⟨a, ha, h⟩ := onR_inv h
  have := abs_ref ha; subst this
  obtain ⟨dx, hi, h⟩ := onIn_inv h
  obtain ⟨fs, hf, hlen, h⟩ := onFl_inv h
  obtain ⟨es, k, e, m, I⟩ := inst_at S hi hf
  obtain ⟨h1, h2⟩ := band hT
  obtain ⟨h2, h3⟩ := band h2
  obtain ⟨h3, h4⟩ := band h3
  obtain ⟨h4, h5⟩ := band h4
  have X' := X.keeps S.ext
  have hel : es.length < 100 := by have := congrArg List.length m; rw [List.length_map, List.length_map] at this; rw [this]; exact hlen
  refine set_plain X' I (beq_iff_eq.mp h4) (osa_open (s := { s with toks := s.toks + 1 }) X' I h5 (r := none) ?_ fun b => ?_)
  · unfold takerIn; rw [beq_iff_eq.mp h3]; rfl
  obtain ⟨cd, hc, hd⟩ := any_some h2
  have D' := Heap.get?_update_self (Obj.putName x (PyData.keyHash cx.w.params x) (.str x (s.toks + 1)) v) e (by rw [putName_dict]; rfl)
  rw [putName_dict] at D'
  dsimp only
  refine wpAny_bind (wpAny_pure (wpAny_bind (wpAny_bind (wpAny_loadPart I.at_ (wpAny_bind ((looks_clsIn X' hc).keeps (h' := s.heap) (fun _ _ e => e) _ _ _ _ (fun _ _ e => e) ?_))))))
  rw [hd]
  refine wpAny_pure (a := some dx) (wpAny_bind (wpAny_pure (wpAny_bind ?_)))
  unfold nsSet
  refine wpAny_bind (wpAny_bind (wpAny_askSetting (wpAny_pure (wpAny_bind (wpAny_mkText (wpAny_bind (wpAny_loadPart e ?_)))))))
  have f2 := (fe_find x m).2
  have c : aRefKeyMayBeTheName x es.toArray = false := by
    rw [aRefKeyMayBeTheName_at, ← Array.any_toList, ← Array.any_toList]
    show (!es.any _ && es.any _) = false
    rw [f2, Bool.and_false]
  dsimp only
  rw [c]
  refine wpAny_updatePart e (wpAny_bind (wpAny_lookBehind D' (pastItsLine_dict (by rw [List.size_toArray, sizeLine_eq]; have := putL_len x (PyData.keyHash cx.w.params x) (.str x (s.toks + 1)) v es; omega)) (wpAny_pure ?_)))
  have sb : ∀ b ob, b ≠ dx → s.heap.get? b = some ob → (s.heap.update dx (Obj.putName x (PyData.keyHash cx.w.params x) (.str x (s.toks + 1)) v)).get? b = some ob := fun b ob hb q => (Heap.get?_update_other _ _ (Ne.symm hb)).trans q
  exact ⟨_, S.change (o' := .flds (putF x (abs v) fs)) hf sb ⟨_, _, D', fe_put x _ _ v m⟩ _, KE.change hf sb _, h⟩
theorem mk_ok (CO : cx.OK) (hA : ACall A n) (X : K.In cx.base) {f : Addr} (hT : mkIn K C f = true) (S : HS cx H s) {vs : List Value} {Q : V → HP → Prop} (h : mkP cx n C f (vs.map abs) H Q) :
    wpAny (model cx.prog cx.w) A (call (.ref C) vs) (EP cx s H Q) E s := by
  obtain ⟨h1, h2⟩ := band hT
  obtain ⟨h2, h3⟩ := band h2
  obtain ⟨h3, h4⟩ := band h3
  have X' := X.keeps S.ext
  obtain ⟨hn, h⟩ := h
  obtain ⟨hh, g, d, t, os⟩ := s
  refine wpAny_call (make_core (makes_of X' h1) (looks_findIn X' (beq_iff_eq.mp h2)) (fun self => bind_fn X' self (beq_iff_eq.mp h3)) (.inl rfl) ?_)
  have k1 : ∀ b o, hh.get? b = some o → (hh.push emptyDict).get? b = some o := fun b o e => Heap.get?_push_of_some _ e
  have S1 : HS cx (upd H hh.objs.size (.flds [])) ⟨hh.push emptyDict, g, d, t, os⟩ := S.alloc (o := .flds []) k1 (get_size _) ⟨[], 0, Heap.get?_push_size _ rfl, rfl⟩ t
  have k2 : ∀ b o, (hh.push emptyDict).get? b = some o → ((hh.push emptyDict).push (instObj C hh.objs.size)).get? b = some o := fun b o e => Heap.get?_push_of_some _ e
  have hs : (hh.push emptyDict).objs.size = hh.objs.size + 1 := Heap.size_push ..
  have hno : (hh.push emptyDict).get? (hh.objs.size + 1) = none := by rw [← hs]; exact get_size _
  have S2 : HS cx (upd (upd H hh.objs.size (.flds [])) (hh.objs.size + 1) (.inst C hh.objs.size)) ⟨(hh.push emptyDict).push (instObj C hh.objs.size), g, d, t, os⟩ :=
    S1.alloc k2 hno (by show Heap.get? _ _ = _; rw [← hs]; exact Heap.get?_push_size _ rfl) t
  have K1 : KE ⟨hh, g, d, t, os⟩ H ⟨hh.push emptyDict, g, d, t, os⟩ (upd H hh.objs.size (.flds [])) := KE.alloc k1 (get_size _) t
  have K2 : KE ⟨hh.push emptyDict, g, d, t, os⟩ (upd H hh.objs.size (.flds [])) ⟨(hh.push emptyDict).push (instObj C hh.objs.size), g, d, t, os⟩ (upd (upd H hh.objs.size (.flds [])) (hh.objs.size + 1) (.inst C hh.objs.size)) := KE.alloc k2 hno t
  have hu := hA.units
  have hd := hA.depth
  refine codeAny_mono (h hh.objs.size (S.fresh CO (get_size _)) (hh.objs.size + 1) (S1.fresh CO hno) _ _ (.ref (hh.objs.size + 1) :: vs) ⟨hA.handled, by show A.depth + 1 + _ < _; omega, by show A.units + 1 + _ < _; omega, hA.frames⟩ S2 rfl) fun r s' hr => ?_
  obtain ⟨v, H', rfl, a, b, c, q⟩ := hr
  refine ⟨(by cases v <;> first | rfl | cases c), H', a, K1.trans (K2.trans b), q⟩
end
end Mine
end

section
namespace Mine
open PySem PyProof.Rows PySem.SeqAt

structure Tbl where
  fns : List (Str × Addr)
  bfs : List (Str × BF)
  tys : List (Str × String)
  K : PySem.W.Frag
  ats : List (Addr × Str)
  mts : List (Addr × Str × Addr)
  mks : List (Str × Addr × Addr)
  gis : List (Str × Int)

structure Tbl.OK (cx : Cx) (T : Tbl) : Prop where
  fn : ∀ x f, T.fns.lookup x = some f → cx.gl x = some (.ref f) ∧ ∃ o fd, cx.base.get? f = some o ∧ o.data = .func fd
  bf : ∀ x b, T.bfs.lookup x = some b → cx.gl x = some b.val
  ty : ∀ x t, T.tys.lookup x = some t → cx.gl x = some (.type t)
  isi : cx.gl "isinstance" = some (.builtin "isinstance")
  rng : cx.gl "range" = some (.type "range")
  kin : T.K.In cx.base
  at_ : ∀ C x, T.ats.contains (C, x) = true → attrIn T.K C x = true
  mt : ∀ C x f, T.mts.contains (C, x, f) = true → methIn T.K C x f = true
  mkc : ∀ x C f, T.mks.contains (x, C, f) = true → cx.gl x = some (.ref C) ∧ mkIn T.K C f = true
  gi : ∀ x i, T.gis.lookup x = some i → ∃ t, cx.gl x = some (.int i t)

noncomputable def isGlob (sc : Scope) (x : Str) : Bool := sc.names.lookup x == some .globalImplicit && !(x == ("__debug__" : Str))
noncomputable def Mth.nm : Mth → Str
  | .append => "append"
  | .pop => "pop"
noncomputable def plainBase : Expr → Bool
  | .Call .. => false
  | _ => true
noncomputable def relabelS (scope outer : Scope) : Scope :=
  { scope with names := scope.names.map fun (n, k) => if (k == .free && outer.kind == .function && outer.names.lookup n == some .cell) then (n, .cell) else (n, k) }
noncomputable def compNames (scope : Scope) (nm : List (Option Str)) (x : Str) : List (Option Str) :=
  nm.map (fun o => o.filter fun y => scope.names.lookup y == some .free) ++ [some x]
noncomputable def compScopeOk (scope outer : Scope) (x : Str) : Bool :=
  scope.kind == .function && scope.names.lookup x == some .local && outer.kind == .function &&
  scope.names.all fun y => y.2 != .cell && (y.2 != .local || scope.names.lookup y.1 == some .local) && (y.2 != .free || (outer.names.lookup y.1 == some .cell && scope.names.lookup y.1 == some .free))

noncomputable def vConst (e : Expr) (k : Const → Bool) : Bool := match e with
  | .Constant c _ _ => k c
  | _ => false
theorem vConst_inv {e : Expr} {k : Const → Bool} (h : vConst e k = true) : ∃ c n p, e = .Constant c n p ∧ k c = true := by cases e <;> first | exact ⟨_, _, _, rfl, h⟩ | exact (Bool.false_ne_true h).elim
noncomputable def vName (e : Expr) (k : Str → Bool) : Bool := match e with
  | .Name x _ => k x
  | _ => false
theorem vName_inv {e : Expr} {k : Str → Bool} (h : vName e k = true) : ∃ x p, e = .Name x p ∧ k x = true := by cases e <;> first | exact ⟨_, _, rfl, h⟩ | exact (Bool.false_ne_true h).elim
noncomputable def vBin (e : Expr) (k : Expr → Operator → Expr → Bool) : Bool := match e with
  | .BinOp l op r _ => k l op r
  | _ => false
theorem vBin_inv {e : Expr} {k : Expr → Operator → Expr → Bool} (h : vBin e k = true) : ∃ l op r p, e = .BinOp l op r p ∧ k l op r = true := by cases e <;> first | exact ⟨_, _, _, _, rfl, h⟩ | exact (Bool.false_ne_true h).elim
noncomputable def vUn (e : Expr) (k : UnaryOp → Expr → Bool) : Bool := match e with
  | .UnaryOp op a _ => k op a
  | _ => false
theorem vUn_inv {e : Expr} {k : UnaryOp → Expr → Bool} (h : vUn e k = true) : ∃ op a p, e = .UnaryOp op a p ∧ k op a = true := by cases e <;> first | exact ⟨_, _, _, rfl, h⟩ | exact (Bool.false_ne_true h).elim
noncomputable def vCmp (e : Expr) (k : Expr → List CmpOp → List Expr → Bool) : Bool := match e with
  | .Compare l ops cs _ => k l ops cs
  | _ => false
theorem vCmp_inv {e : Expr} {k : Expr → List CmpOp → List Expr → Bool} (h : vCmp e k = true) : ∃ l ops cs p, e = .Compare l ops cs p ∧ k l ops cs = true := by cases e <;> first | exact ⟨_, _, _, _, rfl, h⟩ | exact (Bool.false_ne_true h).elim
noncomputable def vBool (e : Expr) (k : BoolOp → List Expr → Bool) : Bool := match e with
  | .BoolOp op es _ => k op es
  | _ => false
theorem vBool_inv {e : Expr} {k : BoolOp → List Expr → Bool} (h : vBool e k = true) : ∃ op es p, e = .BoolOp op es p ∧ k op es = true := by cases e <;> first | exact ⟨_, _, _, rfl, h⟩ | exact (Bool.false_ne_true h).elim
noncomputable def vCall (e : Expr) (k : Expr → List Expr → List Keyword → Pos → Bool) : Bool := match e with
  | .Call f as ks p => k f as ks p
  | _ => false
theorem vCall_inv {e : Expr} {k : Expr → List Expr → List Keyword → Pos → Bool} (h : vCall e k = true) : ∃ f as ks p, e = .Call f as ks p ∧ k f as ks p = true := by cases e <;> first | exact ⟨_, _, _, _, rfl, h⟩ | exact (Bool.false_ne_true h).elim
noncomputable def vAttr (e : Expr) (k : Expr → Str → Pos → Bool) : Bool := match e with
  | .Attribute o m p => k o m p
  | _ => false
theorem vAttr_inv {e : Expr} {k : Expr → Str → Pos → Bool} (h : vAttr e k = true) : ∃ o m p, e = .Attribute o m p ∧ k o m p = true := by cases e <;> first | exact ⟨_, _, _, rfl, h⟩ | exact (Bool.false_ne_true h).elim
noncomputable def vSub (e : Expr) (k : Expr → Expr → Bool) : Bool := match e with
  | .Subscript o i _ => k o i
  | _ => false
theorem vSub_inv {e : Expr} {k : Expr → Expr → Bool} (h : vSub e k = true) : ∃ o i p, e = .Subscript o i p ∧ k o i = true := by cases e <;> first | exact ⟨_, _, _, rfl, h⟩ | exact (Bool.false_ne_true h).elim
noncomputable def vSlice (e : Expr) (k : Option Expr → Option Expr → Option Expr → Bool) : Bool := match e with
  | .Slice a b c _ => k a b c
  | _ => false
theorem vSlice_inv {e : Expr} {k : Option Expr → Option Expr → Option Expr → Bool} (h : vSlice e k = true) : ∃ a b c p, e = .Slice a b c p ∧ k a b c = true := by cases e <;> first | exact ⟨_, _, _, _, rfl, h⟩ | exact (Bool.false_ne_true h).elim
noncomputable def vList (e : Expr) (k : List Expr → Bool) : Bool := match e with
  | .List es _ => k es
  | _ => false
theorem vList_inv {e : Expr} {k : List Expr → Bool} (h : vList e k = true) : ∃ es p, e = .List es p ∧ k es = true := by cases e <;> first | exact ⟨_, _, rfl, h⟩ | exact (Bool.false_ne_true h).elim
noncomputable def vTup (e : Expr) (k : List Expr → Bool) : Bool := match e with
  | .Tuple es _ _ => k es
  | _ => false
theorem vTup_inv {e : Expr} {k : List Expr → Bool} (h : vTup e k = true) : ∃ es n p, e = .Tuple es n p ∧ k es = true := by cases e <;> first | exact ⟨_, _, _, rfl, h⟩ | exact (Bool.false_ne_true h).elim
noncomputable def vComp (e : Expr) (k : Expr → List Comprehension → Scope → Bool) : Bool := match e with
  | .ListComp elt gs sc _ => k elt gs sc
  | _ => false
theorem vComp_inv {e : Expr} {k : Expr → List Comprehension → Scope → Bool} (h : vComp e k = true) : ∃ elt gs sc p, e = .ListComp elt gs sc p ∧ k elt gs sc = true := by cases e <;> first | exact ⟨_, _, _, _, rfl, h⟩ | exact (Bool.false_ne_true h).elim

noncomputable def vIfE (e : Expr) (k : Expr → Expr → Expr → Bool) : Bool := match e with
  | .IfExp c a b _ => k c a b
  | _ => false
theorem vIfE_inv {e : Expr} {k : Expr → Expr → Expr → Bool} (h : vIfE e k = true) : ∃ c a b p, e = .IfExp c a b p ∧ k c a b = true := by cases e <;> first | exact ⟨_, _, _, _, rfl, h⟩ | exact (Bool.false_ne_true h).elim

theorem and2 {a b : Bool} (h : (a && b) = true) : a = true ∧ b = true := by cases a <;> cases b <;> first | exact ⟨rfl, rfl⟩ | cases h

noncomputable def nameCall (e : Expr) (k : Str → List Expr → Bool) : Bool := vCall e fun f as ks _ => ks.isEmpty && vName f fun x => k x as
theorem nil_of {α : Type} {l : List α} (h : l.isEmpty = true) : l = [] := List.isEmpty_iff.mp h
theorem nameCall_inv {e : Expr} {k : Str → List Expr → Bool} (h : nameCall e k = true) : ∃ x np as p, e = .Call (.Name x np) as [] p ∧ k x as = true := by
  obtain ⟨f, as, ks, p, e1, h1⟩ := vCall_inv h
  obtain ⟨hk, h2⟩ := and2 h1
  obtain ⟨x, np, e2, h3⟩ := vName_inv h2
  rw [nil_of hk, e2] at e1
  exact ⟨x, np, as, p, e1, h3⟩
noncomputable def oneGen (gs : List Comprehension) (k : Expr → Expr → List Expr → Int → Bool) : Bool := match gs with
  | [⟨tg, iter, ifs, a⟩] => k tg iter ifs a
  | _ => false
theorem oneGen_inv {gs : List Comprehension} {k : Expr → Expr → List Expr → Int → Bool} (h : oneGen gs k = true) : ∃ tg iter ifs a, gs = [⟨tg, iter, ifs, a⟩] ∧ k tg iter ifs a = true := match gs, h with
  | [⟨tg, iter, ifs, a⟩], h => ⟨tg, iter, ifs, a, rfl, h⟩
noncomputable def oneComp (e : Expr) (sc : Scope) (k : Expr → Str → Expr → List Expr → Scope → Bool) : Bool := vComp e fun elt gs scope => oneGen gs fun tg iter ifs a => a == 0 && vName tg fun x => compScopeOk scope sc x && k elt x iter ifs scope
theorem oneComp_inv {e : Expr} {sc : Scope} {k : Expr → Str → Expr → List Expr → Scope → Bool} (h : oneComp e sc k = true) :
    ∃ elt x px iter ifs scope p, e = .ListComp elt [⟨.Name x px, iter, ifs, 0⟩] scope p ∧ compScopeOk scope sc x = true ∧ k elt x iter ifs scope = true := by
  obtain ⟨elt, gs, scope, p, e1, h1⟩ := vComp_inv h
  obtain ⟨tg, iter, ifs, a, e2, h2⟩ := oneGen_inv h1
  obtain ⟨ha, h3⟩ := and2 h2
  obtain ⟨x, px, e3, h4⟩ := vName_inv h3
  obtain ⟨hs, h5⟩ := and2 h4
  rw [e3, eq_of_beq ha] at e2
  rw [e2] at e1
  exact ⟨elt, x, px, iter, ifs, scope, p, e1, hs, h5⟩

noncomputable def l1 {α : Type} (l : List α) (k : α → Bool) : Bool := match l with
  | [a] => k a
  | _ => false
theorem l1_inv {α : Type} {l : List α} {k : α → Bool} (h : l1 l k = true) : ∃ a, l = [a] ∧ k a = true := match l, h with
  | [a], h => ⟨a, rfl, h⟩
noncomputable def l2 {α : Type} (l : List α) (k : α → α → Bool) : Bool := match l with
  | [a, b] => k a b
  | _ => false
theorem l2_inv {α : Type} {l : List α} {k : α → α → Bool} (h : l2 l k = true) : ∃ a b, l = [a, b] ∧ k a b = true := match l, h with
  | [a, b], h => ⟨a, b, rfl, h⟩
theorem or2 {a b : Bool} (h : (a || b) = true) : a = true ∨ b = true := by cases a <;> cases b <;> first | exact .inl rfl | exact .inr rfl | cases h

noncomputable def isNoneM : ME → Bool
  | .cnone => true
  | _ => false
noncomputable def isTrueM : ME → Bool
  | .cbool b => b
  | _ => false
noncomputable def isZeroM : ME → Bool
  | .cint i => i == 0
  | _ => false
noncomputable def cI (c : Const) (i : Int) : Bool := match c with
  | .int j => i == j
  | _ => false
noncomputable def cB (c : Const) (b : Bool) : Bool := match c with
  | .bool d => b == d
  | _ => false
noncomputable def cS (c : Const) (x : Str) : Bool := match c with
  | .str y => x == y
  | _ => false
noncomputable def so {α : Type} (o : Option α) (k : α → Bool) (n : Bool) : Bool := match o with
  | some x => k x
  | none => n
mutual
noncomputable def chkE (T : Tbl) : ME → Scope → List (Option Str) → Expr → Bool
  | .cint i, _, _, e => vConst e fun c => cI c i
  | .cbool b, _, _, e => vConst e fun c => cB c b
  | .cnone, _, _, _ => false
  | .cstr x, _, _, e => vConst e fun c => cS c x
  | .loc i, _, nm, e => vName e fun x => !(x == ("__debug__" : Str)) && nm[i]? == some (some x)
  | .bin op l r, sc, nm, e => vBin e fun a o b => o == op && (chkE T l sc nm a && chkE T r sc nm b)
  | .not m, sc, nm, e => vUn e fun o a => o == .Not && chkE T m sc nm a
  | .cmp l op r, sc, nm, e => vCmp e fun a ops cs => l1 ops fun o => l1 cs fun b => o == op && (chkE T l sc nm a && chkE T r sc nm b)
  | .bop op ms, sc, nm, e => vBool e fun o es => o == op && chkEs T ms sc nm es
  | .callf f ms, sc, nm, e => nameCall e fun x as => isGlob sc x && (T.fns.lookup x == some f && (!as.isEmpty && chkEs T ms sc nm as))
  | .callb b ms, sc, nm, e => nameCall e fun x as => isGlob sc x && (T.bfs.lookup x == some b && (!as.isEmpty && chkEs T ms sc nm as))
  | .isi m t, sc, nm, e => nameCall e fun x as => isGlob sc x && (x == ("isinstance" : Str) && l2 as fun a b => chkE T m sc nm a && vName b fun y => isGlob sc y && T.tys.lookup y == some t)
  | .meth o m ms, sc, nm, e => vCall e fun f as ks p => ks.isEmpty && vAttr f fun b x ap =>
      (ap.endLine == p.line && plainBase b) && (x == m.nm && (chkE T o sc nm b && (decide (as.length < 2) && chkEs T ms sc nm as)))
  | .sub o i, sc, nm, e => vSub e fun a b => chkE T o sc nm a && chkE T i sc nm b
  | .slice o lo hi, sc, nm, e => vSub e fun a b => chkE T o sc nm a && vSlice b fun x y z => z.isNone && (so x (fun x => chkE T lo sc nm x) (isNoneM lo) && so y (fun y => chkE T hi sc nm y) (isNoneM hi))
  | .list ms, sc, nm, e => vList e fun es => chkEs T ms sc nm es
  | .tup ms, sc, nm, e => vTup e fun es => chkEs T ms sc nm es
  | .comp el it c, sc, nm, e => oneComp e sc fun elt x iter ifs scope => chkE T el (relabelS scope sc) (compNames scope nm x) elt && (chkE T it sc nm iter &&
      (ifs.isEmpty && isTrueM c || l1 ifs fun i => chkE T c (relabelS scope sc) (compNames scope nm x) i))
  | .compR el a b c, sc, nm, e => oneComp e sc fun elt x iter ifs scope => chkE T el (relabelS scope sc) (compNames scope nm x) elt && ((nameCall iter fun y as => isGlob sc y && (y == ("range" : Str) &&
      ((l1 as fun q => isZeroM a && chkE T b sc nm q) || l2 as fun p q => chkE T a sc nm p && chkE T b sc nm q))) &&
      (ifs.isEmpty && isTrueM c || l1 ifs fun i => chkE T c (relabelS scope sc) (compNames scope nm x) i))
  | .neg m, sc, nm, e => vUn e fun o a => o == .USub && chkE T m sc nm a
  | .cmp2 l o1 m o2 r, sc, nm, e => vCmp e fun a ops cs => l2 ops fun p q => l2 cs fun b c => (p == o1 && q == o2) && (chkE T l sc nm a && (chkE T m sc nm b && chkE T r sc nm c))
  | .ife c t f, sc, nm, e => vIfE e fun d a b => chkE T c sc nm d && (chkE T t sc nm a && chkE T f sc nm b)
  | .gint i, sc, _, e => vName e fun x => isGlob sc x && T.gis.lookup x == some i
  | .attr C i x, _, nm, e => vAttr e fun o y _ => y == x && (T.ats.contains (C, x) && vName o fun z => !(z == ("__debug__" : Str)) && nm[i]? == some (some z))
  | .callm C x f i ms, sc, nm, e => vCall e fun g as ks p => ks.isEmpty && vAttr g fun o y ap => (ap.endLine == p.line && y == x) && (T.mts.contains (C, x, f) && ((vName o fun z => !(z == ("__debug__" : Str)) && nm[i]? == some (some z)) && (decide (as.length < 20) && chkEs T ms sc nm as)))
  | .mk C f ms, sc, nm, e => nameCall e fun x as => isGlob sc x && (T.mks.contains (x, C, f) && (!as.isEmpty && chkEs T ms sc nm as))
noncomputable def chkEs (T : Tbl) : MEs → Scope → List (Option Str) → List Expr → Bool
  | .nil, _, _, es => es.isEmpty
  | .cons m ms, sc, nm, es => match es with
    | e :: r => chkE T m sc nm e && chkEs T ms sc nm r
    | [] => false
end
theorem chkEs_cons {T : Tbl} {m : ME} {ms : MEs} {sc : Scope} {nm : List (Option Str)} {es : List Expr} (h : chkEs T (.cons m ms) sc nm es = true) : ∃ e r, es = e :: r ∧ chkE T m sc nm e = true ∧ chkEs T ms sc nm r = true := by
  cases es with
  | nil => cases h
  | cons e r => exact ⟨e, r, rfl, and2 h⟩
noncomputable def kindOK (e : Expr) : Bool := match e with
  | .Constant .. => true
  | .Name .. => true
  | .BinOp .. => true
  | .UnaryOp .. => true
  | .Compare .. => true
  | .BoolOp .. => true
  | .Call .. => true
  | .Subscript .. => true
  | .List .. => true
  | .Tuple .. => true
  | .ListComp .. => true
  | .IfExp .. => true
  | .Attribute .. => true
  | _ => false
end Mine
end

section
namespace Mine
open PySem PyProof.Rows PySem.SeqAt

noncomputable def BP (cx : Cx) (s : Shared) (H : HP) (Q : Bool → HP → Prop) : Bool → Shared → Prop := fun b s' => ∃ H', HS cx H' s' ∧ KE s H s' H' ∧ Q b H'
noncomputable def LP (cx : Cx) (s : Shared) (H : HP) (Q : List V → HP → Prop) : List Value → Shared → Prop := fun vs s' => ∃ H', HS cx H' s' ∧ KE s H s' H' ∧ Q (vs.map abs) H'
theorem bp_from {cx : Cx} {s s₁ : Shared} {H H₁ : HP} {Q : Bool → HP → Prop} {M : Model} {A : Around} {E : Value → Shared → Prop} {t : Sem Bool} (k : KE s H s₁ H₁) (h : wpAny M A t (BP cx s₁ H₁ Q) E s₁) : wpAny M A t (BP cx s H Q) E s₁ :=
  wpAny_mono h (fun _ _ ⟨H', a, b, c⟩ => ⟨H', a, k.trans b, c⟩) fun _ _ e => e
theorem ep_then {cx : Cx} {s : Shared} {H : HP} {Q : V → HP → Prop} {Q' : Value → Shared → Prop} {M : Model} {A : Around} {E : Value → Shared → Prop} {t : Sem Value} (h : wpAny M A t (EP cx s H Q) E s)
    (f : ∀ v s₁ H₁, HS cx H₁ s₁ → KE s H s₁ H₁ → Q (abs v) H₁ → Q' v s₁) : wpAny M A t Q' E s := wpAny_mono h (fun v s₁ ⟨H₁, a, b, c⟩ => f v s₁ H₁ a b c) fun _ _ e => e

theorem starEach_of {e : Expr} (h : kindOK e = true) (r : List Expr) (env : Env) : starEach (e :: r) env = (false, eval e env) :: starEach r env := by
  cases e <;> first | rfl | exact (Bool.false_ne_true h).elim
theorem marks_of {e : Expr} (h : kindOK e = true) (op : CmpOp) : behindInMarks op e = false := by
  cases e <;> first | rfl | exact (Bool.false_ne_true h).elim
theorem folded_of {e : Expr} (h : kindOK e = true) (env : Env) (x : Value) : foldedSetIterable e env x = pure x := by
  cases e <;> first | rfl | exact (Bool.false_ne_true h).elim
theorem notSlice_of {e : Expr} (h : kindOK e = true) : notSlice e = true := by
  cases e <;> first | rfl | exact (Bool.false_ne_true h).elim
theorem base_of {o : Expr} (h : plainBase o = true) (x : Str) (env : Env) (t : Sem Value) : attributeBase o x env t = t := by
  cases o <;> first | rfl | exact (Bool.false_ne_true h).elim
theorem truth_inv {v : Value} {Q : Bool → Prop} (h : TruthP (abs v) Q) : ∃ b, v = .bool b ∧ Q b := by
  cases v <;> first | exact ⟨_, rfl, h⟩ | exact False.elim h

section
variable {cx : Cx} {T : Tbl} {fm : Fm} {H : HP} {μ : List V} {s : Shared} {A : Around} {E : Value → Shared → Prop} {n : Nat}

theorem glob_name (C : cx.OK) (W : fm.OK cx) (S : HS cx H s) {M : Model} {x : Str} {pos : Pos} {v : Value} (hx : isGlob fm.env.scope x = true) (hg : cx.gl x = some v) {Q : Value → Shared → Prop} (h : Q v s) :
    wpAny M A (eval (.Name x pos) fm.env) Q E s := by
  obtain ⟨h1, h2⟩ := and2 hx
  refine Calls.Name_function_global W.kind (eq_of_beq h1) ?_ (by simpa using h2)
  rcases C.glob x v hg with ⟨mg, g1, g2⟩ | ⟨mg, mb, g1, g2, g3, g4⟩
  · exact Calls.loadGlobal_global (by rw [W.globals]; exact g1.keeps S.ext) g2 h
  · exact Calls.loadGlobal_builtin (by rw [W.globals]; exact g1.keeps S.ext) g2 (by rw [W.builtins]; exact g3.keeps S.ext) g4 h

theorem callf_ok (hA : AOK A n) (S : HS cx H s) {f : Addr} {vs : List Value} {Q : V → HP → Prop} (h : CallP cx n f (vs.map abs) H Q) :
    wpAny (model cx.prog cx.w) A (call (.ref f) vs) (EP cx s H Q) E s := by
  refine wpAny_call (codeAny_mono (h A s vs hA.toACall S rfl) fun r s' hr => ?_)
  obtain ⟨v, H', rfl, a, b, c⟩ := hr
  exact ⟨H', a, b, c⟩
theorem noStar (env : Env) (pos : Pos) : ∀ {es : List Expr}, (∀ e ∈ es, kindOK e = true) → (backTo pos (starEach es env)).any (·.1) = false ∧ (backTo pos (starEach es env)).all (fun x => !x.1) = true
  | [], _ => ⟨rfl, rfl⟩
  | e :: r, h => by
    rw [starEach_of (h e List.mem_cons_self)]
    exact noStar env pos fun e he => h e (List.mem_cons_of_mem _ he)
theorem compare2 {M : Model} {env : Env} {l m r : Expr} {o1 o2 : CmpOp} {pos : Pos} {Q : Value → Shared → Prop} (hm : behindInMarks o2 r = false)
    (h : wpAny M A (eval l env) (fun a s₁ => wpAny M A (eval m env) (fun b s₂ => wpAny M A (compareOp o1 a b) (fun c s₃ => wpAny M A (truthy c) (fun t s₄ =>
      if t then wpAny M A (eval r env) (fun d s₅ => wpAny M A (compareOp o2 b d) Q E s₅) E s₄ else Q c s₄) E s₃) E s₂) E s₁) E s) :
    wpAny M A (eval (.Compare l [o1, o2] [m, r] pos) env) Q E s := by
  show wpAny M A (do compareChain pos (← eval l env) [o1, o2] (markedEach [o1, o2] [m, r] [eval m env, eval r env])) Q E s
  rw [markedEach_of_false _ _ _ (show lastMarks [o1, o2] [m, r] = false from hm)]
  refine wpAny_bind (wpAny_mono h (fun a s₁ h₁ => ?_) fun _ _ e => e)
  unfold compareChain
  refine wpAny_bind (wpAny_holding (wpAny_mono h₁ (fun b s₂ h₂ => ?_) fun _ _ e => e))
  refine wpAny_bind (wpAny_standAt (wpAny_bind (wpAny_holding (wpAny_mono h₂ (fun c s₃ h₃ => ?_) fun _ _ e => e))))
  refine wpAny_bind (wpAny_release (wpAny_bind (wpAny_holding (wpAny_mono h₃ (fun t s₄ h₄ => ?_) fun _ _ e => e))))
  cases t with
  | true =>
    simp only [if_true] at h₄ ⊢
    unfold compareChain
    refine wpAny_bind (wpAny_holding (wpAny_mono h₄ (fun d s₅ h₅ => wpAny_bind (wpAny_standAt ?_)) fun _ _ e => e))
    intro Γ p hΓ
    rw [Sem.wp_operate]; exact h₅ Γ p hΓ
  | false => exact wpAny_pure h₄

theorem testChain2 {M : Model} {env : Env} {l m r : Expr} {o1 o2 : CmpOp} {pos : Pos} {whole : Sem Value} {Q : Bool → Shared → Prop} (hm : behindInMarks o2 r = false)
    (h : wpAny M A (eval l env) (fun a s₁ => wpAny M A (eval m env) (fun b s₂ => wpAny M A (compareOp o1 a b) (fun c s₃ => wpAny M A (truthy c) (fun t s₄ =>
      if t then wpAny M A (eval r env) (fun d s₅ => wpAny M A (compareOp o2 b d) (fun f s₆ => wpAny M A (truthy f) Q E s₆) E s₅) E s₄ else Q false s₄) E s₃) E s₂) E s₁) E s) :
    wpAny M A (isTrue (.Compare l [o1, o2] [m, r] pos) env whole) Q E s := by
  refine isTrue_chain (wpAny_mono h (fun a s₁ h₁ => ?_) fun _ _ e => e) hm
  unfold testChain
  refine wpAny_bind (wpAny_holding (wpAny_mono h₁ (fun b s₂ h₂ => ?_) fun _ _ e => e))
  refine wpAny_bind (wpAny_standAt (wpAny_bind (wpAny_holding (wpAny_mono h₂ (fun c s₃ h₃ => ?_) fun _ _ e => e))))
  refine wpAny_bind (wpAny_release (wpAny_bind (wpAny_holding (wpAny_mono h₃ (fun t s₄ h₄ => ?_) fun _ _ e => e))))
  cases t with
  | true =>
    simp only [if_true] at h₄ ⊢
    show wpAny M A (testChain pos b [o2] [eval r env]) Q E s₄
    unfold testChain
    refine wpAny_bind (wpAny_holding (wpAny_mono h₄ (fun d s₅ h₅ => wpAny_bind (wpAny_standAt (wpAny_bind ?_))) fun _ _ e => e))
    intro Γ p hΓ
    rw [Sem.wp_operate]
    exact Sem.wp_mono _ Γ _ (fun f p' s₆ h₆ => wpAny_holding h₆) (fun _ _ _ e => e) _ _ (h₅ Γ p hΓ)
  | false => exact wpAny_pure h₄
noncomputable def Mth.id : Mth → String
  | .append => "list.append"
  | .pop => "list.pop"
theorem mth_slot (m : Mth) : Slot "list" m.nm m.id ∧ typeOf (.builtin m.id) = pure (.type "method_descriptor") := by
  cases m with
  | append => exact ⟨PySem.F.slot_list_append, PySem.F.type_list_append⟩
  | pop => exact ⟨PySem.F.slot_list_pop, PySem.F.type_list_pop⟩
theorem listAt_inv {o : V} {H : HP} (h : listAt o H) : ∃ a vs, o = .ref a ∧ H a = some (.list vs) := by
  obtain ⟨a, e, h⟩ := onR_inv h
  obtain ⟨vs, e2, _⟩ := onHL_inv h
  exact ⟨a, vs, e, e2⟩
theorem erase_last (xs : Array Value) : (xs.eraseIdxIfInBounds (xs.size - 1)).toList = xs.toList.dropLast := by
  rw [Array.toList_eraseIdxIfInBounds]
  rw [List.dropLast_eq_take, List.eraseIdx_eq_take_drop_succ]
  simp
  omega
theorem meth0 {H : HP} {s : Shared} (S : HS cx H s) {a : Addr} {m : Mth} {pos : Pos} {Q : V → HP → Prop} (h : methP (.ref a) m [] H Q) :
    wpAny (model cx.prog cx.w) A (callWith pos (.builtin m.id) [.ref a] [] []) (EP cx s H Q) E s := by
  obtain ⟨vs, hvs, h⟩ := onHL_inv h
  cases m with
  | append => exact False.elim h
  | pop =>
    obtain ⟨v, hv, h1, h2⟩ := onO_inv h
    obtain ⟨items, k, e, mm⟩ := S.hr _ _ hvs
    have hlast : vs[vs.length - 1]? = some v := by rw [← List.getLast?_eq_getElem?]; exact hv
    obtain ⟨y, hy, hya⟩ := item_of mm hlast
    rw [← size_of mm] at hy
    have hle : items.size ≤ sizeLine := by rw [size_of mm, sizeLine_eq]; exact h1
    refine P.pop_list e hy ?_ hle
    have e' := IsL.update e (fun xs => xs.eraseIdxIfInBounds (items.size - 1))
    have sb : ∀ b ob, b ≠ a → s.heap.get? b = some ob → (s.heap.update a (Obj.mapSeq fun xs => xs.eraseIdxIfInBounds (items.size - 1))).get? b = some ob := fun b ob hb q => (Heap.get?_update_other _ _ (Ne.symm hb)).trans q
    exact ⟨_, S.change hvs sb (rep_list e' (by rw [erase_last, List.map_dropLast, mm])) s.toks, KE.change hvs sb s.toks, by rw [hya]; exact h2⟩
theorem meth1 {H : HP} {s : Shared} {a : Addr} {m : Mth} {pos : Pos} {x : Sem Value} {Q : V → HP → Prop}
    (h : wpAny (model cx.prog cx.w) A x (EP cx s H fun v H => methP (.ref a) m [v] H Q) E s) :
    wpAny (model cx.prog cx.w) A (callWith pos (.builtin m.id) [.ref a] [(false, x)] []) (EP cx s H Q) E s := by
  cases m with
  | append =>
    refine P.append_list (ep_then h fun v s₁ H₁ S k₁ h => ?_)
    obtain ⟨vs, hvs, h⟩ := onHL_inv h
    obtain ⟨items, k, e, mm⟩ := S.hr _ _ hvs
    refine ⟨items, k, by rw [size_of mm, sizeLine_eq]; exact h.1, e, ?_⟩
    have e' := IsL.update e (fun xs => xs.push v)
    have sb : ∀ b ob, b ≠ a → s₁.heap.get? b = some ob → (s₁.heap.update a (Obj.mapSeq fun xs => xs.push v)).get? b = some ob := fun b ob hb q => (Heap.get?_update_other _ _ (Ne.symm hb)).trans q
    exact ⟨_, S.change hvs sb (rep_list e' (by rw [Array.toList_push, List.map_append, mm]; rfl)) s₁.toks, k₁.trans (KE.change hvs sb s₁.toks), h.2⟩
  | pop =>
    refine Calls.callWith_builtin rfl (Calls.evalArgs_plain (Calls.spliced_cons (ep_then h fun v s₁ H₁ _ _ h => ?_)))
    obtain ⟨vs, _, h⟩ := onHL_inv h
    exact False.elim h
theorem truth_ok {M : Model} {H : HP} {s : Shared} {Q : Bool → HP → Prop} {v : Value} {s' : Shared} (x : EP cx s H (fun v H => TruthP v fun b => Q b H) v s') : wpAny M A (truthy v) (BP cx s H Q) E s' := by
  obtain ⟨H₁, S₁, k₁, h₁⟩ := x
  obtain ⟨b, rfl, h₁⟩ := truth_inv h₁
  exact wpAny_truthy_bool ⟨H₁, S₁, k₁, h₁⟩
end
end Mine
end

section
namespace Mine
open PySem PyProof.Rows PySem.SeqAt

noncomputable def JE (cx : Cx) (A : Around) (n : Nat) (m : ME) (fm : Fm) (e : Expr) : Prop :=
  ∀ (E : Value → Shared → Prop) (H : HP) (μ : List V) (s : Shared) (Q : V → HP → Prop), SR cx fm H μ s → mwpE cx n m μ H Q → wpAny (model cx.prog cx.w) A (eval e fm.env) (EP cx s H Q) E s
noncomputable def JT (cx : Cx) (A : Around) (n : Nat) (m : ME) (fm : Fm) (e : Expr) : Prop :=
  ∀ (E : Value → Shared → Prop) (H : HP) (μ : List V) (s : Shared) (Q : Bool → HP → Prop), SR cx fm H μ s → mwpE cx n m μ H (fun v H => TruthP v fun b => Q b H) → wpAny (model cx.prog cx.w) A (isTrue e fm.env (eval e fm.env)) (BP cx s H Q) E s
noncomputable def JL (cx : Cx) (A : Around) (n : Nat) (ms : MEs) (fm : Fm) (es : List Expr) : Prop :=
  ∀ (E : Value → Shared → Prop) (pos : Pos) (H : HP) (μ : List V) (s : Shared) (Q : List V → HP → Prop), SR cx fm H μ s → mwpEs cx n ms μ H Q → wpAny (model cx.prog cx.w) A (spliced (backTo pos (starEach es fm.env))) (LP cx s H Q) E s
noncomputable def JB (cx : Cx) (A : Around) (n : Nat) (op : BoolOp) (ms : MEs) (fm : Fm) (es : List Expr) : Prop :=
  ∀ (E : Value → Shared → Prop) (pos : Pos) (H : HP) (μ : List V) (s : Shared) (Q : V → HP → Prop), SR cx fm H μ s → mwpB cx n op ms μ H Q → wpAny (model cx.prog cx.w) A (boolOp pos op (evalEach es fm.env)) (EP cx s H Q) E s
noncomputable def JU (cx : Cx) (A : Around) (n : Nat) (op : BoolOp) (ms : MEs) (fm : Fm) (es : List Expr) : Prop :=
  ∀ (E : Value → Shared → Prop) (H : HP) (μ : List V) (s : Shared) (Q : Bool → HP → Prop), SR cx fm H μ s → mwpB cx n op ms μ H (fun v H => TruthP v fun b => Q b H) → wpAny (model cx.prog cx.w) A (allTrue op es fm.env) (BP cx s H Q) E s

section
variable {cx : Cx} {T : Tbl} {A : Around} {n : Nat} {fm : Fm} {E : Value → Shared → Prop} {H : HP} {μ : List V} {s : Shared} {Q : V → HP → Prop}

theorem j_int {i : Int} {c : Const} {k : Nat} {p : Pos} (h : cI c i = true) : JE cx A n (.cint i) fm (.Constant c k p) := by
  intro E H μ s Q S hq
  cases c with
  | int j => have := eq_of_beq (show (i == j) = true from h); subst this; exact wpAny_Constant_int (ep_same S.toHS _ hq)
  | _ => exact (Bool.false_ne_true h).elim
theorem j_bool {b : Bool} {c : Const} {k : Nat} {p : Pos} (h : cB c b = true) : JE cx A n (.cbool b) fm (.Constant c k p) := by
  intro E H μ s Q S hq
  cases c with
  | bool j => have := eq_of_beq (show (b == j) = true from h); subst this; exact wpAny_Constant_bool (ep_here S.toHS hq)
  | _ => exact (Bool.false_ne_true h).elim
theorem j_str {x : Str} {c : Const} {k : Nat} {p : Pos} (h : cS c x = true) : JE cx A n (.cstr x) fm (.Constant c k p) := by
  intro E H μ s Q S hq
  cases c with
  | str j => have := eq_of_beq (show (x == j) = true from h); subst this; exact wpAny_Constant_str (ep_same S.toHS _ hq)
  | _ => exact (Bool.false_ne_true h).elim
theorem j_loc (W : fm.OK cx) {i : Nat} {x : Str} {p : Pos} (hd : (!(x == ("__debug__" : Str))) = true) (hi : fm.names[i]? = some (some x)) : JE cx A n (.loc i) fm (.Name x p) := by
  intro E H μ s Q S h
  exact wpAny_Name (load_loc W S hi h.1 fun v hv => ep_here S.toHS (by rw [hv]; exact h.2)) (by simpa using hd)
theorem j_bin (C : cx.OK) (hA : AOK A n) {l r : ME} {a b : Expr} {op : Operator} {p : Pos} (il : JE cx A n l fm a) (ir : JE cx A n r fm b) : JE cx A n (.bin op l r) fm (.BinOp a op b p) := by
  intro E H μ s Q S h
  refine wpAny_BinOp (ep_then (il E H μ s _ S h) fun v s₁ H₁ S₁ k₁ h₁ => ep_then (ir E H₁ μ s₁ _ (S.step S₁ k₁) h₁) fun w s₂ H₂ S₂ k₂ h₂ => ?_)
  exact ep_from (k₁.trans k₂) (bin_ok C hA S₂ h₂)
theorem j_not {m : ME} {a : Expr} {p : Pos} (i : JE cx A n m fm a) : JE cx A n (.not m) fm (.UnaryOp .Not a p) := by
  intro E H μ s Q S h
  refine wpAny_UnaryOp (ep_then (i E H μ s _ S h) fun v s₁ H₁ S₁ k₁ h₁ => ?_)
  obtain ⟨b, rfl, h₁⟩ := truth_inv h₁
  exact PyProof.Rows.not_of (wpAny_truthy_bool ⟨H₁, S₁, k₁, h₁⟩)
theorem t_not {m : ME} {a : Expr} {p : Pos} (i : JT cx A n m fm a) : JT cx A n (.not m) fm (.UnaryOp .Not a p) := fun E H μ s Q S h =>
  wpAny_isTrue_Not (i E H μ s (fun b H => Q (!b) H) S h)
theorem j_cmp (C : cx.OK) (hA : AOK A n) {l r : ME} {a b : Expr} {op : CmpOp} {p : Pos} (kb : kindOK b = true) (il : JE cx A n l fm a) (ir : JE cx A n r fm b) : JE cx A n (.cmp l op r) fm (.Compare a [op] [b] p) := by
  intro E H μ s Q S h
  refine wpAny_Compare1 (ep_then (il E H μ s _ S h) fun v s₁ H₁ S₁ k₁ h₁ => ep_then (ir E H₁ μ s₁ _ (S.step S₁ k₁) h₁) fun w s₂ H₂ S₂ k₂ h₂ => ?_) (marks_of kb _)
  obtain ⟨c, hc, h₂⟩ := onO_inv h₂
  exact ep_from (k₁.trans k₂) (cmp_ok C hA.toACall S₂ hc h₂)
theorem t_cmp (C : cx.OK) (hA : AOK A n) {l r : ME} {a b : Expr} {op : CmpOp} {p : Pos} (kb : kindOK b = true) (il : JE cx A n l fm a) (ir : JE cx A n r fm b) : JT cx A n (.cmp l op r) fm (.Compare a [op] [b] p) := by
  intro E H μ s Q S h
  refine wpAny_isTrue_Compare1 (ep_then (il E H μ s _ S h) fun v s₁ H₁ S₁ k₁ h₁ => ep_then (ir E H₁ μ s₁ _ (S.step S₁ k₁) h₁) fun w s₂ H₂ S₂ k₂ h₂ => ?_) (marks_of kb _)
  obtain ⟨c, hc, h₂⟩ := onO_inv h₂
  refine ep_then (cmp_ok (Q := fun v H => TruthP v fun b => Q b H) C hA.toACall S₂ hc h₂) fun t s₃ H₃ S₃ k₃ h₃ => truth_ok ⟨H₃, S₃, k₁.trans (k₂.trans k₃), h₃⟩
theorem t_value {m : ME} {e : Expr} (i : JE cx A n m fm e) (he : ∀ env whole, isTrue e env whole = (do let v ← whole; standAt e.pos; holding [v] (truthy v))) : JT cx A n m fm e := fun E H μ s Q S h =>
  wpAny_isTrue_value (wpAny_mono (i E H μ s _ S h) (fun _ _ x => truth_ok x) fun _ _ e => e) (he _ _)

theorem jl_nil : JL cx A n .nil fm [] := fun E pos H μ s Q S h => Calls.spliced_nil ⟨H, S.toHS, Kept.refl _ s H, h⟩
theorem jl_cons {m : ME} {ms : MEs} {e : Expr} {r : List Expr} (ke : kindOK e = true) (i : JE cx A n m fm e) (ir : JL cx A n ms fm r) : JL cx A n (.cons m ms) fm (e :: r) := by
  intro E pos H μ s Q S h
  rw [starEach_of ke]
  refine Calls.spliced_cons (ep_then (i E H μ s _ S h) fun v s₁ H₁ S₁ k₁ h₁ => wpAny_mono (ir E pos H₁ μ s₁ _ (S.step S₁ k₁) h₁) (fun vs s₂ x => ?_) fun _ _ e => e)
  obtain ⟨H₂, S₂, k₂, h₂⟩ := x
  exact ⟨H₂, S₂, k₁.trans k₂, h₂⟩
theorem j_list (C : cx.OK) {ms : MEs} {es : List Expr} {p : Pos} (i : JL cx A n ms fm es) : JE cx A n (.list ms) fm (.List es p) := by
  intro E H μ s Q S h
  refine List_ (wpAny_mono (i E p H μ s _ S h) (fun vs s₁ x => ?_) fun _ _ e => e)
  obtain ⟨H₁, S₁, k₁, hlen, h₁⟩ := x
  exact ep_from k₁ (wpAny_newList (ep_push C S₁ h₁ (fun h e => rep_list e (by simp)) rfl _) (by rw [sizeLine_eq]; simpa using hlen))
theorem j_tup (C : cx.OK) {ms : MEs} {es : List Expr} {k : Nat} {p : Pos} (i : JL cx A n ms fm es) : JE cx A n (.tup ms) fm (.Tuple es k p) := by
  intro E H μ s Q S h
  refine Tuple_ (wpAny_mono (i E p H μ s _ S h) (fun vs s₁ x => ?_) fun _ _ e => e)
  obtain ⟨H₁, S₁, k₁, hlen, h₁⟩ := x
  exact ep_from k₁ (wpAny_newTuple (ep_push C S₁ h₁ (fun h e => rep_tup e (by simp)) rfl _) (by rw [sizeLine_eq]; simpa using hlen))

theorem jb_one {op : BoolOp} {m : ME} {e : Expr} (i : JE cx A n m fm e) : JB cx A n op (.cons m .nil) fm [e] := fun E pos H μ s Q S h => i E H μ s Q S h
theorem jb_more {op : BoolOp} {m m' : ME} {ms : MEs} {e e' : Expr} {r : List Expr} (i : JE cx A n m fm e) (ir : JB cx A n op (.cons m' ms) fm (e' :: r)) : JB cx A n op (.cons m (.cons m' ms)) fm (e :: e' :: r) := by
  intro E pos H μ s Q S h
  show wpAny _ A (do
    let v ← eval e fm.env
    standAt pos
    let t ← holding [v] (truthy v)
    match op, t with
    | .And, false | .Or, true => pure v
    | _, _ => boolOp pos op (evalEach (e' :: r) fm.env)) _ E s
  refine wpAny_bind (ep_then (i E H μ s _ S h) fun v s₁ H₁ S₁ k₁ h₁ => ?_)
  obtain ⟨b, rfl, h₁⟩ := truth_inv h₁
  refine wpAny_bind (wpAny_standAt (wpAny_bind (wpAny_holding (wpAny_truthy_bool ?_))))
  have rec' := fun h' => ep_from (E := E) k₁ (ir E pos H₁ μ s₁ Q (S.step S₁ k₁) h')
  cases op <;> cases b
  · exact wpAny_pure ⟨H₁, S₁, k₁, h₁.2 rfl⟩
  · exact rec' (h₁.1 rfl)
  · exact rec' (h₁.1 rfl)
  · exact wpAny_pure ⟨H₁, S₁, k₁, h₁.2 rfl⟩
theorem ju_one {op : BoolOp} {m : ME} {e : Expr} (i : JT cx A n m fm e) : JU cx A n op (.cons m .nil) fm [e] := by
  intro E H μ s Q S h
  have hx := i E H μ s Q S h
  cases op with
  | And =>
    refine wpAny_allTrue_And_cons (wpAny_mono hx (fun b s₁ x => ?_) fun _ _ e => e)
    cases b
    · exact x
    · exact wpAny_pure x
  | Or =>
    refine wpAny_allTrue_Or_cons (wpAny_mono hx (fun b s₁ x => ?_) fun _ _ e => e)
    cases b
    · exact wpAny_pure x
    · exact x
theorem ju_more {op : BoolOp} {m m' : ME} {ms : MEs} {e e' : Expr} {r : List Expr} (i : JT cx A n m fm e) (ir : JU cx A n op (.cons m' ms) fm (e' :: r)) : JU cx A n op (.cons m (.cons m' ms)) fm (e :: e' :: r) := by
  intro E H μ s Q S h
  have hx := i E H μ s (fun b H => (b = (op == .And) → mwpB cx n op (.cons m' ms) μ H (fun v H => TruthP v fun b => Q b H)) ∧ (b = (op == .Or) → Q b H)) S h
  have rec' := fun {s₁ H₁} (S₁ : HS cx H₁ s₁) (k₁ : KE s H s₁ H₁) h' => bp_from (E := E) k₁ (ir E H₁ μ s₁ Q (S.step S₁ k₁) h')
  cases op with
  | And =>
    refine wpAny_allTrue_And_cons (wpAny_mono hx (fun b s₁ x => ?_) fun _ _ e => e)
    obtain ⟨H₁, S₁, k₁, h₁⟩ := x
    cases b
    · exact ⟨H₁, S₁, k₁, h₁.2 rfl⟩
    · exact rec' S₁ k₁ (h₁.1 rfl)
  | Or =>
    refine wpAny_allTrue_Or_cons (wpAny_mono hx (fun b s₁ x => ?_) fun _ _ e => e)
    obtain ⟨H₁, S₁, k₁, h₁⟩ := x
    cases b
    · exact rec' S₁ k₁ (h₁.1 rfl)
    · exact ⟨H₁, S₁, k₁, h₁.2 rfl⟩

theorem callBF (C : cx.OK) (hA : AOK A n) {b : BF} {t : Sem Value} {ts : List (Bool × Sem Value)} {pos : Pos} (hns : ((false, t) :: ts).any (·.1) = false)
    (h : wpAny (model cx.prog cx.w) A (spliced ((false, t) :: ts)) (LP cx s H fun vs H => callbP cx b vs H Q) E s) :
    wpAny (model cx.prog cx.w) A (callWith pos b.val [] ((false, t) :: ts) []) (EP cx s H Q) E s := by
  have fin : ∀ v, b.val = v → wpAny (model cx.prog cx.w) A (evalArgs v true ((false, t) :: ts) []) (fun a s₁ => wpAny (model cx.prog cx.w) A (call v ([] ++ a.pos) a.kw) (EP cx s H Q) E s₁) E s := by
    intro v hv
    subst hv
    refine Calls.evalArgs_plain (wpAny_mono h (fun vs s₁ x => ?_) fun _ _ e => e)
    obtain ⟨H₁, S₁, k₁, h₁⟩ := x
    exact ep_from (E := E) k₁ (callb_ok (A := A) C hA S₁ h₁)
  cases b with
  | len => exact Calls.callWith_builtin (id := "len") hns (fin _ rfl)
  | list => exact PySem.callWith_type (T := "list") hns (fin _ rfl)
  | min => exact Calls.callWith_builtin (id := "min") hns (fin _ rfl)
theorem j_callf (C : cx.OK) (TO : T.OK cx) (hA : AOK A n) (W : fm.OK cx) {f : Addr} {ms : MEs} {x : Str} {np p : Pos} {e : Expr} {r : List Expr} (hx : isGlob fm.env.scope x = true) (hf : T.fns.lookup x = some f) (ke : kindOK e = true)
    (i : JL cx A n ms fm (e :: r)) : JE cx A n (.callf f ms) fm (.Call (.Name x np) (e :: r) [] p) := by
  intro E H μ s Q S h
  obtain ⟨hg, o, fd, ho, hd⟩ := TO.fn x f hf
  refine wpAny_Call_ofName (glob_name C W S.toHS hx hg ?_)
  refine callWith_def hd (wpAny_mono (i E p H μ s _ S h) (fun vs s₁ x => ?_) fun _ _ e => e) (starEach_of ke _ _)
  obtain ⟨H₁, S₁, k₁, h₁⟩ := x
  exact ⟨S₁.ext _ _ ho, ep_from k₁ (callf_ok hA S₁ h₁)⟩
theorem j_callb (C : cx.OK) (TO : T.OK cx) (hA : AOK A n) (W : fm.OK cx) {b : BF} {ms : MEs} {x : Str} {np p : Pos} {e : Expr} {r : List Expr} (hx : isGlob fm.env.scope x = true) (hf : T.bfs.lookup x = some b) (ke : ∀ a ∈ e :: r, kindOK a = true)
    (i : JL cx A n ms fm (e :: r)) : JE cx A n (.callb b ms) fm (.Call (.Name x np) (e :: r) [] p) := by
  intro E H μ s Q S h
  have hs := i E p H μ s _ S h
  have hns := (noStar fm.env p ke).1
  refine wpAny_Call_ofName (glob_name C W S.toHS hx (TO.bf _ _ hf) ?_)
  rw [starEach_of (ke e List.mem_cons_self)] at hs hns ⊢
  exact callBF C hA hns hs
theorem j_isi (C : cx.OK) (TO : T.OK cx) (W : fm.OK cx) {m : ME} {t : String} {np tp p : Pos} {e : Expr} {y : Str} (hx : isGlob fm.env.scope "isinstance" = true) (hy : isGlob fm.env.scope y = true) (hf : T.tys.lookup y = some t) (ke : kindOK e = true)
    (i : JE cx A n m fm e) : JE cx A n (.isi m t) fm (.Call (.Name "isinstance" np) [e, .Name y tp] [] p) := by
  intro E H μ s Q S h
  refine wpAny_Call_ofName (glob_name C W S.toHS hx TO.isi ?_)
  rw [starEach_of ke]
  refine Calls.callWith_builtin (by rfl) (Calls.evalArgs_plain (Calls.spliced_cons (ep_then (i E H μ s _ S h) fun v s₁ H₁ S₁ k₁ h₁ => ?_)))
  refine Calls.spliced_cons (glob_name C W S₁ hy (TO.ty _ _ hf) (Calls.spliced_nil ?_))
  obtain ⟨b, hb, h₁⟩ := onO_inv h₁
  exact ep_from k₁ (isi_ok S₁ hb h₁)
theorem j_meth {o : ME} {m : Mth} {ms : MEs} {b : Expr} {ap p : Pos} {as : List Expr} (hp : (ap.endLine == p.line) = true) (hb : plainBase b = true) (hl : as.length < 2) (hc : chkEs T ms fm.env.scope fm.names as = true) (hk : ∀ a ∈ as, kindOK a = true) (io : JE cx A n o fm b)
    (ia : ∀ m' e, ms = .cons m' .nil → as = [e] → JE cx A n m' fm e) : JE cx A n (.meth o m ms) fm (.Call (.Attribute b m.nm ap) as [] p) := by
  intro E H μ s Q S h
  obtain ⟨slot, hty⟩ := mth_slot m
  have hns := (noStar fm.env p hk).2
  refine wpAny_Call_method (base_of hb _ _ _) (by rw [hns, show keywordEach [] fm.env = [] from rfl]; simp [backToKw]; first | lia | omega) hp PySem.F.plainAttrs_list slot hty (ep_then (io E H μ s _ S h) fun ov s₁ H₁ S₁ k₁ h₁ => ?_)
  obtain ⟨hl', h₁⟩ := h₁
  obtain ⟨ad, vs, e1, e2⟩ := listAt_inv hl'
  have := abs_ref e1; subst this
  obtain ⟨items, k, e3, _⟩ := S₁.hr _ _ e2
  refine ⟨⟨_, e3, rfl⟩, fun b hb => by cases hb; exact ⟨_, e3, rfl⟩, ?_⟩
  cases ms with
  | nil =>
    have := nil_of hc; subst this
    exact ep_from k₁ (meth0 S₁ h₁)
  | cons m' ms =>
    obtain ⟨e, r, rfl, h1, h2⟩ := chkEs_cons hc
    cases r with
    | cons e' r => rw [List.length_cons, List.length_cons] at hl; first | lia | omega
    | nil => cases ms with
      | nil =>
        rw [starEach_of (hk e List.mem_cons_self)]
        exact ep_from k₁ (meth1 (ia m' e rfl rfl E H₁ μ s₁ _ (S.step S₁ k₁) h₁))
      | cons => cases h2
theorem j_sub (C : cx.OK) {o i : ME} {a b : Expr} {p : Pos} (kb : kindOK b = true) (io : JE cx A n o fm a) (ii : JE cx A n i fm b) : JE cx A n (.sub o i) fm (.Subscript a b p) := by
  intro E H μ s Q S h
  refine Subscript_ (ep_then (io E H μ s _ S h) fun v s₁ H₁ S₁ k₁ h₁ => ep_then (ii E H₁ μ s₁ _ (S.step S₁ k₁) h₁) fun w s₂ H₂ S₂ k₂ h₂ => ?_)
  exact ep_from (k₁.trans k₂) (sub_ok C S₂ (notSlice_of kb) h₂)
theorem part_ok {o : ME} {x : Option Expr} (i : (x = none ∧ o = .cnone) ∨ ∃ e, x = some e ∧ JE cx A n o fm e) (S : SR cx fm H μ s) (h : mwpE cx n o μ H Q) : wpAny (model cx.prog cx.w) A (evalPart x fm.env) (EP cx s H Q) E s := by
  rcases i with ⟨rfl, rfl⟩ | ⟨e, rfl, i⟩
  · exact wpAny_evalPart_none (ep_here S.toHS h)
  · exact wpAny_evalPart_some (i E H μ s _ S h)
theorem j_slice (C : cx.OK) {o lo hi : ME} {a : Expr} {x y : Option Expr} {p p' : Pos} (io : JE cx A n o fm a) (il : (x = none ∧ lo = .cnone) ∨ ∃ e, x = some e ∧ JE cx A n lo fm e) (ih : (y = none ∧ hi = .cnone) ∨ ∃ e, y = some e ∧ JE cx A n hi fm e) :
    JE cx A n (.slice o lo hi) fm (.Subscript a (.Slice x y none p') p) := by
  intro E H μ s Q S h
  refine Subscript_ (ep_then (io E H μ s _ S h) fun v s₁ H₁ S₁ k₁ h₁ => ?_)
  refine wpAny_Slice (ep_then (part_ok il (S.step S₁ k₁) h₁) fun l s₂ H₂ S₂ k₂ h₂ => ?_)
  have k12 := k₁.trans k₂
  refine ep_then (part_ok ih (S.step S₂ k12) h₂) fun u s₃ H₃ S₃ k₃ h₃ => wpAny_evalPart_none ?_
  exact wpAny_mono (slice_ok C S₃ h₃) (fun _ _ x => x.from (k12.trans k₃)) fun _ _ e => e
theorem j_neg {m : ME} {a : Expr} {p : Pos} (i : JE cx A n m fm a) : JE cx A n (.neg m) fm (.UnaryOp .USub a p) := by
  intro E H μ s Q S h
  refine wpAny_UnaryOp (ep_then (i E H μ s _ S h) fun v s₁ H₁ S₁ k₁ h₁ => ?_)
  obtain ⟨j, e, h₁⟩ := onI_inv h₁
  obtain ⟨t, rfl⟩ := abs_int e
  exact PyProof.Rows.neg_int ⟨H₁, S₁.toks _, k₁.trans (KE.toks s₁ H₁ _), h₁⟩
theorem j_ife {c t e : ME} {d a b : Expr} {p : Pos} (ic : JT cx A n c fm d) (it : JE cx A n t fm a) (ie : JE cx A n e fm b) : JE cx A n (.ife c t e) fm (.IfExp d a b p) := by
  intro E H μ s Q S h
  refine wpAny_IfExp (wpAny_mono (ic E H μ s (fun b' H => (b' = true → mwpE cx n t μ H Q) ∧ (b' = false → mwpE cx n e μ H Q)) S h) (fun v s₁ x => ?_) fun _ _ e => e)
  obtain ⟨H₁, S₁, k₁, h₁⟩ := x
  cases v with
  | true => exact ep_from k₁ (it E H₁ μ s₁ Q (S.step S₁ k₁) (h₁.1 rfl))
  | false => exact ep_from k₁ (ie E H₁ μ s₁ Q (S.step S₁ k₁) (h₁.2 rfl))
theorem t_ife {c t e : ME} {d a b : Expr} {p : Pos} (ic : JT cx A n c fm d) (it : JT cx A n t fm a) (ie : JT cx A n e fm b) : JT cx A n (.ife c t e) fm (.IfExp d a b p) := by
  intro E H μ s Q S h
  rw [arm_isTrue_IfExp]
  refine wpAny_bind (wpAny_mono (ic E H μ s (fun b' H => (b' = true → mwpE cx n t μ H fun v H => TruthP v fun b => Q b H) ∧ (b' = false → mwpE cx n e μ H fun v H => TruthP v fun b => Q b H)) S h) (fun v s₁ x => ?_) fun _ _ e => e)
  obtain ⟨H₁, S₁, k₁, h₁⟩ := x
  cases v with
  | true => exact bp_from k₁ (it E H₁ μ s₁ Q (S.step S₁ k₁) (h₁.1 rfl))
  | false => exact bp_from k₁ (ie E H₁ μ s₁ Q (S.step S₁ k₁) (h₁.2 rfl))
theorem j_gint (C : cx.OK) (TO : T.OK cx) (W : fm.OK cx) {i : Int} {x : Str} {p : Pos} (hx : isGlob fm.env.scope x = true) (hf : T.gis.lookup x = some i) : JE cx A n (.gint i) fm (.Name x p) := by
  intro E H μ s Q S h
  obtain ⟨t, ht⟩ := TO.gi x i hf
  exact glob_name C W S.toHS hx ht (ep_here S.toHS h)
theorem chain_ok (C : cx.OK) (hA : AOK A n) {r : ME} {c : Expr} {o1 o2 : CmpOp} {v w : Value} {s₁ s₂ : Shared} {H₁ H₂ : HP} (S : SR cx fm H μ s) (S₂ : HS cx H₂ s₂) (k : KE s H s₂ H₂) (ir : JE cx A n r fm c)
    (h : onO (cmpP cx o1 (abs v) (abs w) H₂) fun d => (d = true → mwpE cx n r μ H₂ fun e H => onO (cmpP cx o2 (abs w) e H) fun f => Q (.bool f) H) ∧ (d = false → Q (.bool false) H₂))
    {P : Value → Shared → Prop} (fin : ∀ b s', EP cx s H Q (.bool b) s' → P (.bool b) s') :
    wpAny (model cx.prog cx.w) A (compareOp o1 v w) (fun t s₃ => ∃ d, t = .bool d ∧ if d = true then wpAny (model cx.prog cx.w) A (eval c fm.env) (fun y s₅ => wpAny (model cx.prog cx.w) A (compareOp o2 w y) P E s₅) E s₃ else P t s₃) E s₂ := by
  obtain ⟨d, hd, h⟩ := onO_inv h
  refine ep_then (cmp_ok (Q := fun u H' => u = .bool d ∧ H' = H₂) C hA.toACall S₂ hd ⟨rfl, rfl⟩) fun t s₃ H₃ S₃ k₃ h₃ => ?_
  obtain ⟨ht, rfl⟩ := h₃
  have := abs_bool ht; subst this
  have k' := k.trans k₃
  refine ⟨d, rfl, ?_⟩
  cases d with
  | true =>
    rw [if_pos rfl]
    refine ep_then (ir E H₃ μ s₃ _ (S.step S₃ k') (h.1 rfl)) fun y s₄ H₄ S₄ k₄ h₄ => ?_
    obtain ⟨f, hf, h₄⟩ := onO_inv h₄
    refine wpAny_mono (cmp_ok (Q := fun u H' => u = .bool f ∧ Q (.bool f) H') C hA.toACall S₄ hf ⟨rfl, h₄⟩) (fun u s₅ x => ?_) fun _ _ e => e
    obtain ⟨H₅, S₅, k₅, hu, h₅⟩ := x
    have := abs_bool hu; subst this
    exact fin f s₅ ⟨H₅, S₅, k'.trans (k₄.trans k₅), h₅⟩
  | false =>
    rw [if_neg (by decide)]
    exact fin false s₃ ⟨H₃, S₃, k', h.2 rfl⟩
theorem j_cmp2 (C : cx.OK) (hA : AOK A n) {l m r : ME} {a b c : Expr} {o1 o2 : CmpOp} {p : Pos} (kc : kindOK c = true) (il : JE cx A n l fm a) (im : JE cx A n m fm b) (ir : JE cx A n r fm c) : JE cx A n (.cmp2 l o1 m o2 r) fm (.Compare a [o1, o2] [b, c] p) := by
  intro E H μ s Q S h
  refine compare2 (marks_of kc _) (ep_then (il E H μ s _ S h) fun v s₁ H₁ S₁ k₁ h₁ => ep_then (im E H₁ μ s₁ _ (S.step S₁ k₁) h₁) fun w s₂ H₂ S₂ k₂ h₂ => ?_)
  refine wpAny_mono (chain_ok (s₁ := s₁) (H₁ := H₁) (P := EP cx s H Q) C hA S S₂ (k₁.trans k₂) ir h₂ fun _ _ x => x) (fun t s₃ x => ?_) fun _ _ e => e
  obtain ⟨d, rfl, x⟩ := x
  exact wpAny_truthy_bool x
theorem t_cmp2 (C : cx.OK) (hA : AOK A n) {l m r : ME} {a b c : Expr} {o1 o2 : CmpOp} {p : Pos} (kc : kindOK c = true) (il : JE cx A n l fm a) (im : JE cx A n m fm b) (ir : JE cx A n r fm c) : JT cx A n (.cmp2 l o1 m o2 r) fm (.Compare a [o1, o2] [b, c] p) := by
  intro E H μ s Q S h
  refine testChain2 (marks_of kc _) (ep_then (il E H μ s _ S h) fun v s₁ H₁ S₁ k₁ h₁ => ep_then (im E H₁ μ s₁ _ (S.step S₁ k₁) h₁) fun w s₂ H₂ S₂ k₂ h₂ => ?_)
  refine wpAny_mono (chain_ok (s₁ := s₁) (H₁ := H₁) (Q := fun v H => TruthP v fun b => Q b H) (P := fun t s' => wpAny (model cx.prog cx.w) A (truthy t) (BP cx s H Q) E s') C hA S S₂ (k₁.trans k₂) ir h₂ fun _ _ x => truth_ok x) (fun t s₃ x => ?_) fun _ _ e => e
  obtain ⟨d, rfl, x⟩ := x
  cases d with
  | true => exact wpAny_truthy_bool x
  | false => exact x
theorem name_ok (W : fm.OK cx) (S : SR cx fm H μ s) {i : Nat} {x : Str} {p : Pos} (hd : (!(x == ("__debug__" : Str))) = true) (hi : fm.names[i]? = some (some x)) (hu : getL μ i ≠ .unb) {P : Value → Shared → Prop} (h : ∀ v, abs v = getL μ i → P v s) :
    wpAny (model cx.prog cx.w) A (eval (.Name x p) fm.env) P E s := wpAny_Name (load_loc W S hi hu h) (by simpa using hd)
theorem j_attr (TO : T.OK cx) (W : fm.OK cx) {C : Addr} {i : Nat} {x z : Str} {np p : Pos} (ht : T.ats.contains (C, x) = true) (hd : (!(z == ("__debug__" : Str))) = true) (hi : fm.names[i]? = some (some z)) : JE cx A n (.attr C i x) fm (.Attribute (.Name z np) x p) := by
  intro E H μ s Q S h
  refine Attribute_name (name_ok W S hd hi h.1 fun v hv => attr_ok TO.kin (TO.at_ C x ht) S.toHS ?_)
  rw [hv]; exact h.2
theorem j_callm (TO : T.OK cx) (hA : AOK A n) (W : fm.OK cx) {C f : Addr} {i : Nat} {ms : MEs} {x z : Str} {np ap p : Pos} {as : List Expr} (hp : (ap.endLine == p.line) = true) (ht : T.mts.contains (C, x, f) = true) (hd : (!(z == ("__debug__" : Str))) = true)
    (hi : fm.names[i]? = some (some z)) (hl : as.length < 20) (hk : ∀ a ∈ as, kindOK a = true) (hc : chkEs T ms fm.env.scope fm.names as = true) (ia : JL cx A n ms fm as) : JE cx A n (.callm C x f i ms) fm (.Call (.Attribute (.Name z np) x ap) as [] p) := by
  intro E H μ s Q S h
  have hM := TO.mt C x f ht
  obtain ⟨h0, h1, h2⟩ := h
  rw [arm_eval_Call, base_of rfl]
  refine wpAny_bind (name_ok W S hd hi h0 fun v hv => wpAny_bind (wpAny_standAt ?_))
  have hns := noStar fm.env p hk
  have hform : methodCallForm (as.length + ([] : List Keyword).length) (backTo p (starEach as fm.env)) (backToKw p (keywordEach [] fm.env)) = true := by
    show (List.all _ _ && _ && decide (_ < 30)) = true
    rw [hns.2]
    show (true && true && decide _) = true
    rw [decide_eq_true (by show as.length + 0 + 0 < 30; omega)]; rfl
  have hpos : methodCallPos true (.Name z np) fm.env ap p = pure p := by unfold methodCallPos; simp [hp]
  unfold methodCall
  rw [hform]
  refine wpAny_bind (wpAny_holding (meth_ok TO.kin hM S.toHS (by rw [hv]; exact h1) ?_))
  refine wpAny_bind (wpAny_of_eq hpos ?_)
  have hkeep : PySem.W.keepIn T.K (.ref f) = true := (band (band (band hM).2).2).2
  have fin : ∀ vs s₁ H₁, HS cx H₁ s₁ → KE s H s₁ H₁ → CallP cx n f (getL μ i :: vs.map abs) H₁ Q → wpAny (model cx.prog cx.w) A (call (.ref f) ([v] ++ vs)) (EP cx s H Q) E s₁ := fun vs s₁ H₁ S₁ k₁ h₁ =>
    ep_from k₁ (callf_ok hA S₁ (by show CallP cx n f (abs v :: vs.map abs) H₁ Q; rw [hv]; exact h₁))
  cases as with
  | nil =>
    cases ms with
    | nil => exact PySem.W.callWith_K0 (TO.kin.keeps S.ext) hkeep (fin [] s H S.toHS (Kept.refl _ s H) h2)
    | cons => cases hc
  | cons e r =>
    refine PySem.W.callWith_K TO.kin hkeep (wpAny_mono (ia E p H μ s _ S h2) (fun vs s₁ x => ?_) fun _ _ e => e) (starEach_of (hk e List.mem_cons_self) _ _) (noStar fm.env p fun a ha => hk a (List.mem_cons_of_mem _ ha)).1
    obtain ⟨H₁, S₁, k₁, h₁⟩ := x
    exact ⟨TO.kin.keeps S₁.ext, fin vs s₁ H₁ S₁ k₁ h₁⟩
theorem j_mk (CO : cx.OK) (TO : T.OK cx) (hA : AOK A n) (W : fm.OK cx) {C f : Addr} {ms : MEs} {x : Str} {np p : Pos} {e : Expr} {r : List Expr} (hx : isGlob fm.env.scope x = true) (ht : T.mks.contains (x, C, f) = true) (hk : ∀ a ∈ e :: r, kindOK a = true)
    (ia : JL cx A n ms fm (e :: r)) : JE cx A n (.mk C f ms) fm (.Call (.Name x np) (e :: r) [] p) := by
  intro E H μ s Q S h
  obtain ⟨hg, hM⟩ := TO.mkc x C f ht
  have hkeep : PySem.W.keepIn T.K (.ref C) = true := (band (band (band hM).2).2).2
  refine wpAny_Call_ofName (glob_name CO W S.toHS hx hg ?_)
  refine PySem.W.callWith_K TO.kin hkeep (wpAny_mono (ia E p H μ s _ S h) (fun vs s₁ x => ?_) fun _ _ e => e) (starEach_of (hk e List.mem_cons_self) _ _) (noStar fm.env p fun a ha => hk a (List.mem_cons_of_mem _ ha)).1
  obtain ⟨H₁, S₁, k₁, h₁⟩ := x
  exact ⟨TO.kin.keeps S₁.ext, ep_from k₁ (mk_ok CO hA.toACall TO.kin hM S₁ h₁)⟩
end
end Mine
end

section
namespace Mine
open PySem PyProof.Rows PySem.SeqAt

structure Iter (cx : Cx) (A : Around) (E : Value → Shared → Prop) (it : Addr) (items : List V) (st : HP → Prop) (P : Nat → Heap → Prop) : Prop where
  next : ∀ (s : Shared) (H : HP) (i : Nat) (v : V) (Q : Option Value → Shared → Prop), HS cx H s → st H → P i s.heap → items[i]? = some v →
    (∀ h' tk x, Mine.abs x = v → P (i + 1) h' → Heap.SameBut it s.heap h' → Q (some x) { s with heap := h', toks := tk }) → wpAny (model cx.prog cx.w) A (pyNext (.ref it)) Q E s
  stop : ∀ (s : Shared) (H : HP) (Q : Option Value → Shared → Prop), HS cx H s → st H → P items.length s.heap →
    (∀ h', Heap.ExtBut it s.heap h' → Q none { s with heap := h' }) → wpAny (model cx.prog cx.w) A (pyNext (.ref it)) Q E s
  self : ∀ (s : Shared) (Q : Value → Shared → Prop), P 0 s.heap → Q (.ref it) s → wpAny (model cx.prog cx.w) A (pyIter (.ref it)) Q E s
  frame : ∀ i h h', P i h → (∀ o, h.get? it = some o → h'.get? it = some o) → P i h'
  live : ∀ i h, P i h → ∃ o, h.get? it = some o

section
variable {cx : Cx} {T : Tbl} {A : Around} {E : Value → Shared → Prop} {n : Nat}

theorem iter_list (C : cx.OK) (hh : A.handled = none) {H : HP} {s : Shared} (S : HS cx H s) {a : Addr} {vs : List V} (h : lk cx H a = some (.list vs)) {E' : Value → Shared → Prop} {Q : Value → Shared → Prop}
    (hQ : ∀ it P ob, s.heap.get? it = none → (∀ E, Iter cx A E it vs (fun H' => lk cx H' a = some (.list vs)) P) → P 0 (s.heap.push ob) → Q (.ref it) { s with heap := s.heap.push ob }) :
    wpAny (model cx.prog cx.w) A (pyIter (.ref a)) Q E' s := by
  obtain ⟨items, k, e, m⟩ := lk_rep C S h
  refine wpAny_pyIter_list (items := items) ⟨_, e, rfl, k, rfl⟩ ?_
  refine hQ _ (fun i h => h.IsListIter s.heap.objs.size a i) _ (get_size _) (fun E => ⟨?_, ?_, ?_, ?_, ?_⟩) ⟨_, Heap.get?_push_size _ rfl, rfl, rfl⟩
  · intro s' H' i v Q S' st hp hv hq
    obtain ⟨items', k', e', m'⟩ := lk_rep C S' st
    obtain ⟨x, hx, hxa⟩ := item_of m' hv
    exact wpAny_pyNext_list_item hp ⟨_, e', rfl, k', rfl⟩ hx fun h' hi sb => hq h' s'.toks x hxa hi sb
  · intro s' H' Q S' st hp hq
    obtain ⟨items', k', e', m'⟩ := lk_rep C S' st
    exact wpAny_pyNext_list_end hh hp ⟨_, e', rfl, k', rfl⟩ (by rw [← size_of m']; simp) hq
  · intro s' Q hp hq; exact wpAny_pyIter_listiter hp hq
  · rintro i h h' ⟨o, e, r⟩ hk; exact ⟨o, hk o e, r⟩
  · rintro i h ⟨o, e, r⟩; exact ⟨o, e⟩
theorem rangeL_length (x y : Int) : (rangeL x y).length = (y - x).toNat := by simp [rangeL]
theorem rangeL_get {x y : Int} {i : Nat} {v : V} (h : (intsV (rangeL x y))[i]? = some v) : v = .int (x + i) ∧ (i : Int) < y - x := by
  simp only [intsV, rangeL, List.getElem?_map, Option.map_eq_some_iff] at h
  obtain ⟨j, ⟨k, hk, rfl⟩, rfl⟩ := h
  obtain ⟨hlt, e⟩ := List.getElem?_eq_some_iff.mp hk
  simp at e hlt
  subst e
  exact ⟨rfl, by first | lia | omega⟩

theorem iter_range (hh : A.handled = none) {s : Shared} {r : Addr} {x y : Int} {t u v : Tok} (hr : IsRange s.heap r x y 1 t u v) (hx : -1152921504606846976 < x ∧ x < 1152921504606846976) (hy : -1152921504606846976 < y ∧ y < 1152921504606846976) {E' : Value → Shared → Prop} {Q : Value → Shared → Prop}
    (hQ : ∀ it P ob, s.heap.get? it = none → (∀ E, Iter cx A E it (intsV (rangeL x y)) (fun _ => True) P) → P 0 (s.heap.push ob) → Q (.ref it) { s with heap := s.heap.push ob }) :
    wpAny (model cx.prog cx.w) A (pyIter (.ref r)) Q E' s := by
  refine wpAny_pyIter_range hr ?_ ?_
  · have hs := rangeSize_one x y
    unfold Builtin.Range.small Builtin.Range.rangeFitsLong
    rw [hs]
    simp only [Bool.and_eq_true, Bool.or_eq_true, decide_eq_true_eq, beq_iff_eq, show (1 : Int) > 0 from by decide, if_true]
    split <;> omega
  · refine hQ _ (fun i h => IsRangeIter h s.heap.objs.size (x + i) (Builtin.Range.rangeSize x y 1 - i) 1) _ (get_size _) (fun E => ⟨?_, ?_, ?_, ?_, ?_⟩) ?_
    · intro s' H' i v Q S' st hp hv hq
      obtain ⟨rfl, hi⟩ := rangeL_get hv
      refine wpAny_pyNext_range_item hp ?_ fun h' hi' sb => hq h' _ _ rfl ?_ sb
      · rw [rangeSize_one]; split <;> omega
      · have e1 : x + (i : Int) + 1 = x + ((i + 1 : Nat) : Int) := by first | lia | omega
        have e2 : Builtin.Range.rangeSize x y 1 - (i : Int) - 1 = Builtin.Range.rangeSize x y 1 - ((i + 1 : Nat) : Int) := by first | lia | omega
        rw [e1, e2] at hi'; exact hi'
    · intro s' H' Q S' st hp hq
      refine wpAny_pyNext_range_end hh hp ?_ hq
      rw [rangeSize_one]
      simp only [intsV, List.length_map, rangeL_length]
      split <;> omega
    · intro s' Q hp hq; exact wpAny_pyIter_rangeiter hp hq
    · intro i h h' hp hk; exact hk _ hp
    · intro i h hp; exact ⟨_, hp⟩
    · have := Heap.get?_push_size s.heap (o := { cls := .type "range_iterator", data := .fields #[rawInt x, rawInt (Builtin.Range.rangeSize x y 1), rawInt 1] }) rfl
      simpa using this
end
end Mine
end

section
namespace Mine
open PySem PyProof.Rows PySem.SeqAt

section
variable {cx : Cx} {T : Tbl} {A : Around} {E : Value → Shared → Prop} {n : Nat}

theorem lookup_relabelS {outer : Scope} (y : Str) : ∀ (names : List (Str × NameKind)), (names.map fun (n, k) => if (k == NameKind.free && outer.kind == .function && outer.names.lookup n == some .cell) then (n, NameKind.cell) else (n, k)).lookup y =
    (names.lookup y).map fun k => if (k == NameKind.free && outer.kind == .function && outer.names.lookup y == some .cell) then NameKind.cell else k
  | [] => rfl
  | (n, k) :: r => by
    rw [List.map_cons, List.lookup_cons]
    have ih := lookup_relabelS (outer := outer) y r
    by_cases hy : y = n
    · subst hy
      by_cases hc : (k == NameKind.free && outer.kind == .function && outer.names.lookup y == some .cell) = true
      · simp only [if_pos hc, List.lookup_cons, beq_self_eq_true, Option.map_some]
      · simp only [if_neg hc, List.lookup_cons, beq_self_eq_true, Option.map_some]
    · have hb : (y == n) = false := beq_eq_false_iff_ne.mpr hy
      by_cases hc : (k == NameKind.free && outer.kind == .function && outer.names.lookup n == some .cell) = true
      · simp only [if_pos hc, List.lookup_cons, hb]; exact ih
      · simp only [if_neg hc, List.lookup_cons, hb]; exact ih

structure ScopeOk (scope outer : Scope) (x : Str) : Prop where
  kind : scope.kind = .function
  loc : scope.names.lookup x = some .local
  okind : outer.kind = .function
  noCell : ∀ y ∈ scope.names, y.2 ≠ .cell
  locs : ∀ y ∈ scope.names, y.2 = .local → scope.names.lookup y.1 = some .local
  free : ∀ y ∈ scope.names, y.2 = .free → outer.names.lookup y.1 = some .cell
  free' : ∀ y, scope.names.lookup y = some .free → outer.names.lookup y = some .cell

theorem scopeOk_of {scope outer : Scope} {x : Str} (h : compScopeOk scope outer x = true) : ScopeOk scope outer x := by
  simp only [compScopeOk, Bool.and_eq_true, beq_iff_eq, List.all_eq_true, bne_iff_ne, Bool.or_eq_true, decide_eq_true_eq] at h
  obtain ⟨⟨⟨h1, h2⟩, h3⟩, h4⟩ := h
  refine ⟨h1, h2, h3, fun y hy => (h4 y hy).1.1, fun y hy e => ?_, fun y hy e => ?_, fun y e => ?_⟩
  · exact ((h4 y hy).1.2).resolve_left (fun q => q e)
  · exact (((h4 y hy).2).resolve_left (fun q => q e)).1
  · exact (((h4 (y, .free) (lookup_mem e)).2).resolve_left (fun q => q rfl)).1

theorem closure_of {env : Env} : ∀ (names : List (Str × NameKind)) (acc : List (Str × Addr)), (∀ y ∈ names, y.2 = .free → ∃ c, env.cells.lookup y.1 = some c) → (∀ p ∈ acc, env.cells.lookup p.1 = some p.2) →
    ∃ cl : List (Str × Addr), (forIn names acc fun (p : Str × NameKind) (cs : List (Str × Addr)) => (if p.2 == NameKind.free then (do let c ← cellOf env p.1; pure (ForInStep.yield ((p.1, c) :: cs))) else pure (ForInStep.yield cs) : Sem (ForInStep (List (Str × Addr))))) = pure cl ∧
      (∀ p ∈ cl, env.cells.lookup p.1 = some p.2) ∧ (∀ y, ((y, NameKind.free) ∈ names ∨ ∃ c, (y, c) ∈ acc) → ∃ c, (y, c) ∈ cl)
  | [], acc, _, ha => ⟨acc, rfl, ha, fun y h => h.elim (fun q => nomatch q) id⟩
  | (nm, k) :: r, acc, h, ha => by
    by_cases hk : k = .free
    · subst hk
      obtain ⟨c, hc⟩ := h (nm, .free) List.mem_cons_self rfl
      obtain ⟨cl, e, h1, h2⟩ := closure_of r ((nm, c) :: acc) (fun y hy => h y (List.mem_cons_of_mem _ hy)) (fun p hp => by
        rcases List.mem_cons.mp hp with rfl | hp
        · exact hc
        · exact ha p hp)
      refine ⟨cl, ?_, h1, fun y hy => h2 y ?_⟩
      · rw [List.forIn_cons, ← e]
        simp only [beq_self_eq_true, if_true, cellOf, hc]
        rfl
      · rcases hy with hy | ⟨d, hd⟩
        · rcases List.mem_cons.mp hy with q | hy
          · cases q; exact .inr ⟨c, List.mem_cons_self⟩
          · exact .inl hy
        · exact .inr ⟨d, List.mem_cons_of_mem _ hd⟩
    · obtain ⟨cl, e, h1, h2⟩ := closure_of r acc (fun y hy => h y (List.mem_cons_of_mem _ hy)) ha
      refine ⟨cl, ?_, h1, fun y hy => h2 y ?_⟩
      · rw [List.forIn_cons, ← e]
        have : (k == NameKind.free) = false := beq_eq_false_iff_ne.mpr hk
        simp only [this, Bool.false_eq_true, if_false]
        rfl
      · rcases hy with hy | hd
        · rcases List.mem_cons.mp hy with q | hy
          · cases q; exact absurd rfl hk
          · exact .inl hy
        · exact .inr hd

theorem lookup_of_mem {α β : Type} [BEq α] [LawfulBEq α] {x : α} {c : β} : ∀ {l : List (α × β)}, (x, c) ∈ l → ∃ d, l.lookup x = some d
  | (y, d) :: l, h => by
    rw [List.lookup_cons]
    cases hb : x == y with
    | true => exact ⟨d, rfl⟩
    | false =>
      rcases List.mem_cons.mp h with q | h
      · cases q; simp at hb
      · exact lookup_of_mem h

theorem closureFor_ok {fm : Fm} (W : fm.OK cx) {scope : Scope} {x : Str} (O : ScopeOk scope fm.env.scope x) :
    ∃ cl, closureFor scope fm.env = pure cl ∧ (∀ y c, cl.lookup y = some c → fm.env.cells.lookup y = some c) ∧ (∀ y, scope.names.lookup y = some .free → ∃ c, cl.lookup y = some c) := by
  obtain ⟨cl, e, h1, h2⟩ := closure_of (env := fm.env) scope.names [] (fun y hy q => W.cellAt y.1 (O.free y hy q)) (fun _ hp => nomatch hp)
  refine ⟨cl, ?_, fun y c q => h1 _ (lookup_mem q), fun y q => ?_⟩
  · unfold closureFor
    have : (fun (x : Str × NameKind) (r : List (Str × Addr)) => (match x with | (name, kind) => if (kind == NameKind.free) = true then do let c ← cellOf fm.env name; pure (ForInStep.yield ((name, c) :: r)) else pure (ForInStep.yield r) : Sem (ForInStep (List (Str × Addr))))) =
      fun p cs => (if p.2 == NameKind.free then (do let c ← cellOf fm.env p.1; pure (ForInStep.yield ((p.1, c) :: cs))) else pure (ForInStep.yield cs)) := by
      funext p cs; rfl
    simp only [this, e]
    rfl
  · obtain ⟨c, hc⟩ := h2 y (.inl (lookup_mem q))
    exact lookup_of_mem hc

theorem getL_append (μ : List V) (v : V) : ∀ i, i < μ.length → getL (μ ++ [v]) i = getL μ i := by
  induction μ with
  | nil => intro i h; cases h
  | cons a l ih =>
    intro i h
    cases i with
    | zero => rfl
    | succ i => exact ih i (Nat.lt_of_succ_lt_succ h)
theorem getL_last (μ : List V) (v : V) : getL (μ ++ [v]) μ.length = v := by
  induction μ with
  | nil => rfl
  | cons a l ih => exact ih

noncomputable abbrev compFm (fm : Fm) (scope : Scope) (cl : List (Str × Addr)) (C : Addr) (x : Str) : Fm := ⟨compEnvC scope cl C fm.env, compNames scope fm.names x⟩

theorem compFm_names {fm : Fm} {scope : Scope} {x y : Str} {i : Nat} (h : (compNames scope fm.names x)[i]? = some (some y)) :
    (fm.names[i]? = some (some y) ∧ scope.names.lookup y = some .free) ∨ (i = fm.names.length ∧ y = x) := by
  unfold compNames at h
  by_cases hi : i < fm.names.length
  · rw [List.getElem?_append_left (by simpa using hi), List.getElem?_map, Option.map_eq_some_iff] at h
    obtain ⟨o, e, q⟩ := h
    obtain ⟨rfl, hf⟩ := Option.filter_eq_some_iff.mp q
    exact .inl ⟨e, by simpa using hf⟩
  · rw [List.getElem?_append_right (by simpa using Nat.le_of_not_lt hi)] at h
    simp only [List.length_map] at h
    have : i - fm.names.length = 0 := by
      obtain ⟨hlt, _⟩ := List.getElem?_eq_some_iff.mp h
      simpa using hlt
    rw [this] at h
    simp at h
    exact .inr ⟨by omega, h.symm⟩

theorem kindOf_comp {fm : Fm} {scope : Scope} {cl : List (Str × Addr)} {C : Addr} {x : Str} (O : ScopeOk scope fm.env.scope x) (y : Str) :
    (scope.names.lookup y = some .free → (compEnvC scope cl C fm.env).kindOf y = some .cell) ∧ (scope.names.lookup y = some .local → (compEnvC scope cl C fm.env).kindOf y = some .local) ∧
    ((compEnvC scope cl C fm.env).kindOf y = some .cell → scope.names.lookup y = some .free) := by
  have e : (compEnvC scope cl C fm.env).kindOf y = (scope.names.lookup y).map fun k => if (k == NameKind.free && fm.env.scope.kind == .function && fm.env.scope.names.lookup y == some .cell) then NameKind.cell else k :=
    lookup_relabelS (outer := fm.env.scope) y scope.names
  rw [e]
  refine ⟨fun h => ?_, fun h => ?_, fun h => ?_⟩
  · rw [h]; simp [O.okind, O.free' y h]
  · rw [h]; rfl
  · obtain ⟨k, h1, h2⟩ := Option.map_eq_some_iff.mp h
    split at h2
    · rename_i hc
      simp only [Bool.and_eq_true, beq_iff_eq] at hc
      rw [h1, hc.1.1]
    · subst h2
      exact absurd rfl (O.noCell (y, .cell) (lookup_mem h1))

theorem compFm_ok {fm : Fm} (W : fm.OK cx) {scope : Scope} {x : Str} (O : ScopeOk scope fm.env.scope x) {cl : List (Str × Addr)} {C : Addr}
    (h1 : ∀ y c, cl.lookup y = some c → fm.env.cells.lookup y = some c) (h2 : ∀ y, scope.names.lookup y = some .free → ∃ c, cl.lookup y = some c)
    (hC : ¬ fm.own C) (hb : cx.base.get? C = none) : (compFm fm scope cl C x).OK cx where
  kind := O.kind
  globals := W.globals
  builtins := W.builtins
  cellsNe := fun y c hm (e : c = C) => hC (.inr ⟨y, e ▸ h1 y c hm⟩)
  cellsInj := fun y z c e1 e2 => W.cellsInj y z c (h1 _ _ e1) (h1 _ _ e2)
  inj := fun i j y e1 e2 => by
    rcases compFm_names e1 with ⟨a1, a2⟩ | ⟨a1, a2⟩ <;> rcases compFm_names e2 with ⟨b1, b2⟩ | ⟨b1, b2⟩
    · exact W.inj i j y a1 b1
    · subst b2; rw [O.loc] at a2; cases a2
    · subst a2; rw [O.loc] at b2; cases b2
    · rw [a1, b1]
  above := fun a q => by
    rcases q with q | ⟨y, q⟩
    · rw [q]; exact hb
    · exact W.above a (.inr ⟨y, h1 y a q⟩)
  cellAt := fun y q => h2 y ((kindOf_comp (cl := cl) (C := C) O y).2.2 q)

theorem comp_frame {fm : Fm} {H : HP} {μ : List V} {s : Shared} (S : SR cx fm H μ s) {scope : Scope} {x : Str} (O : ScopeOk scope fm.env.scope x) {cl : List (Str × Addr)} {C : Addr}
    (h1 : ∀ y c, cl.lookup y = some c → fm.env.cells.lookup y = some c) (h2 : ∀ y, scope.names.lookup y = some .free → ∃ c, cl.lookup y = some c)
    {m : Str → Option Value} (hn : s.heap.Ns C m) {v : Value} (hv : m x = some v) (hH : H C = none) : SR cx (compFm fm scope cl C x) H (μ ++ [abs v]) s := by
  refine ⟨S.toHS, ⟨?_, ?_, ⟨m, hn⟩, ?_⟩, fun a o e q => ?_⟩
  · simp [compNames, S.fr.len]
  · rintro a (q | ⟨y, q⟩)
    · obtain ⟨o, es, ep, e, _⟩ := hn; exact ⟨o, by rw [q]; exact e⟩
    · exact S.fr.live a (.inr ⟨y, h1 y a q⟩)
  · intro i y hy
    rcases compFm_names hy with ⟨a1, a2⟩ | ⟨a1, a2⟩
    · obtain ⟨ov, w, q⟩ := S.fr.var i y a1
      have hil : i < μ.length := by rw [S.fr.len]; exact (List.getElem?_eq_some_iff.mp a1).1
      refine ⟨ov, ?_, by rw [getL_append _ _ _ hil]; exact q⟩
      have hk : fm.env.kindOf y = some .cell := O.free' y a2
      rcases w with ⟨k1, _⟩ | ⟨_, c, hc, hcell⟩
      · rw [hk] at k1; cases k1
      · obtain ⟨d, hd⟩ := h2 y a2
        have := h1 y d hd
        rw [hc] at this; cases this
        exact .inr ⟨(kindOf_comp O y).1 a2, c, hd, hcell⟩
    · subst a2
      refine ⟨some v, .inl ⟨(kindOf_comp O y).2.1 O.loc, m, hn, hv⟩, .inr ⟨v, rfl, ?_⟩⟩
      rw [a1, ← S.fr.len, getL_last]
  · rcases q with q | ⟨y, q⟩
    · have q' : a = C := q
      rw [q', hH] at e; cases e
    · exact S.own a o e (.inr ⟨y, h1 y a q⟩)
end
end Mine
end

section
namespace Mine
open PySem PyProof.Rows PySem.SeqAt

section
variable {cx : Cx} {T : Tbl} {A : Around} {E : Value → Shared → Prop} {n : Nat}

theorem Ns.keep {h h' : Heap} {a : Addr} {m : Str → Option Value} (x : h.Ns a m) (k : ∀ o, h.get? a = some o → h'.get? a = some o) : h'.Ns a m :=
  let ⟨o, es, ep, e, r⟩ := x; ⟨o, es, ep, k o e, r⟩

structure CI (cx : Cx) (fm : Fm) (μ : List V) (s₀ : Shared) (H₀ : HP) (it C D : Addr) (P : Nat → Heap → Prop) (H : HP) (i : Nat) (acc : List V) (s : Shared) : Prop where
  sr : SR cx fm H μ s
  ke : KE s₀ H₀ s H
  pos : P i s.heap
  itH : H it = none
  ns : ∃ m, s.heap.Ns C m
  cH : H C = none
  dl : ∃ ys, s.heap.PlainList D ys ∧ ys.toList.map abs = acc
  dH : H D = none

theorem comp_loop (C : cx.OK) {fm : Fm} {H₀ : HP} {μ : List V} {s₀ : Shared} {Q : V → HP → Prop} (W : fm.OK cx) {elt iter : Expr} {ifs : List Expr} {x : Str} {px pos : Pos} {scope : Scope}
    (O : ScopeOk scope fm.env.scope x) {cl : List (Str × Addr)} {Ca D it : Addr}
    (h1 : ∀ y c, cl.lookup y = some c → fm.env.cells.lookup y = some c) (h2 : ∀ y, scope.names.lookup y = some .free → ∃ c, cl.lookup y = some c)
    {items : List V} {st : HP → Prop} {P : Nat → Heap → Prop} (I : ∀ E, Iter cx A E it items st P)
    (turn : V → HP → (Option V → HP → Prop) → Prop)
    (hcond : ∀ (E : Value → Shared → Prop) (s : Shared) (H : HP) (v : V) (K : Option V → HP → Prop), SR cx (compFm fm scope cl Ca x) H (μ ++ [v]) s → turn v H K →
      wpAny (model cx.prog cx.w) A (forIn ifs true fun c r => if r = true then do let ok ← isTrue c (compEnvC scope cl Ca fm.env) (eval c (compEnvC scope cl Ca fm.env)); pure (ForInStep.yield ok) else pure (ForInStep.yield r))
        (fun ok s' => ∃ H', HS cx H' s' ∧ KE s H s' H' ∧ (ok = true → wpAny (model cx.prog cx.w) A (eval elt (compEnvC scope cl Ca fm.env)) (EP cx s' H' fun v H => K (some v) H) E s') ∧ (ok = false → K none H')) E s)
    (hfresh : s₀.heap.get? it = none ∧ s₀.heap.get? Ca = none ∧ s₀.heap.get? D = none ∧ Ca ≠ it ∧ D ≠ it ∧ D ≠ Ca)
    (hC : ¬ fm.own Ca ∧ cx.base.get? Ca = none) (hD : ¬ fm.own D ∧ cx.base.get? D = none ∧ cx.Z D = none) (hit : ¬ fm.own it ∧ cx.base.get? it = none)
    (hlen : items.length ≤ 16777216) (Inv : List V → List V → HP → Prop) (hst : ∀ done acc H₁, Inv done acc H₁ → st H₁)
    (hturn : ∀ done x rest acc H₁, items = done ++ x :: rest → Inv done acc H₁ → turn x H₁ fun ov H₂ => ∃ H₃, LE H₃ H₂ ∧ Inv (done ++ [x]) (acc ++ ov.toList) H₃)
    (hend : ∀ acc H₁, Inv items acc H₁ → new cx H₁ (.list acc) Q)
    {s : Shared} {H₁ : HP} (hI : Inv [] [] H₁) (hs : CI cx fm μ s₀ H₀ it Ca D P H₁ 0 [] s) {R : Result → Shared → Prop}
    (hR : ∀ s' H', HS cx H' s' → KE s₀ H₀ s' H' → Q (.ref D) H' → H' Ca = none → (∃ m, s'.heap.Ns Ca m) → R (.ok .next) s') :
    codeAny (model cx.prog cx.w) A (.compLoop (.ListComp elt [⟨.Name x px, iter, ifs, 0⟩] scope pos) 0 (.ref it) (.ref D) (compEnvC scope cl Ca fm.env)) R s := by
  refine codeAny_compLoop_tests (fun k s => ∃ done rest acc H, items = done ++ rest ∧ k = rest.length ∧ acc.length ≤ done.length ∧ Inv done acc H ∧ CI cx fm μ s₀ H₀ it Ca D P H done.length acc s) ?_ items.length
    ⟨[], items, [], H₁, rfl, rfl, Nat.le_refl _, hI, hs⟩
  rintro k s ⟨done, rest, acc, H, hitems, rfl, hacc, hInv, B⟩
  have hdl : done.length ≤ items.length := by rw [hitems, List.length_append]; first | lia | omega
  cases rest with
  | nil =>
    rw [List.append_nil] at hitems
    subst hitems
    refine (I _).stop s H _ B.sr.toHS (hst _ _ _ hInv) B.pos fun h' eb => ?_
    have S' := B.sr.aside B.itH hit.1 hit.2 eb s.toks
    obtain ⟨m, hm⟩ := B.ns
    obtain ⟨ys, hys, hya⟩ := B.dl
    obtain ⟨kk, hkk⟩ := hys
    have hD' : h'.get? D = some { cls := .type "list", data := .seq ys kk } := eb D _ hfresh.2.2.2.2.1 hkk
    refine hR _ (upd H D (.list acc)) ⟨fun a o e => ?_, S'.ext, fun a o e => ?_⟩ ⟨fun b o e hb _ => ?_, fun a o e ha _ => ?_, B.ke.os, B.ke.gens⟩ (hend acc H hInv D ⟨B.dH, hD.2.1, hD.2.2⟩) (by rw [upd_ne _ (Ne.symm hfresh.2.2.2.2.2)]; exact B.cH) ⟨m, Ns.keep hm fun o e => eb Ca o hfresh.2.2.2.1 e⟩
    · by_cases h : a = D
      · subst h; rw [upd_same] at e; cases e; exact rep_list hD' hya
      · rw [upd_ne _ h] at e; exact S'.hr a o e
    · by_cases h : a = D
      · subst h; exact hD.2.1
      · rw [upd_ne _ h] at e; exact S'.low a o e
    · exact eb b o (fun q => by subst q; rw [hfresh.1] at e; cases e) (B.ke.keep b o e hb id)
    · rw [upd_ne _ (fun q => by subst q; rw [hfresh.2.2.1] at e; cases e)]
      exact B.ke.dom a o e ha id
  | cons v rest =>
    have hv : items[done.length]? = some v := by rw [hitems]; simp
    refine (I _).next s H done.length v _ B.sr.toHS (hst _ _ _ hInv) B.pos hv fun h₁ tk xv hxa hp₁ sb₁ => ?_
    -- the iterator has gone on
    have S₁ := B.sr.aside B.itH hit.1 hit.2 sb₁.extBut tk
    obtain ⟨m, hm⟩ := B.ns
    have hm₁ : h₁.Ns Ca m := Ns.keep hm fun o e => sb₁.extBut Ca o hfresh.2.2.2.1 e
    refine wpAny_assign_Name (wpAny_storeName_local (m := m) ((kindOf_comp O x).2.1 O.loc) hm₁ (fun h₂ hm₂ sb₂ => ?_) (by show (scope.kind == .class || (scope.kind == .module && _)) = false; rw [O.kind]; rfl))
    have S₂ := S₁.aside B.cH hC.1 hC.2 sb₂.extBut (tk + 1)
    have F₂ := comp_frame S₂ O h1 h2 hm₂ (v := xv) (by simp) B.cH
    rw [hxa] at F₂
    -- all that stood before the turn, but the iterator and the block's names
    have keep₂ : ∀ b o, b ≠ it → b ≠ Ca → s.heap.get? b = some o → h₂.get? b = some o := fun b o n1 n2 e => sb₂.extBut b o n2 (sb₁.extBut b o n1 e)
    have ke₂ : KE s₀ H₀ { s with heap := h₂, toks := tk + 1 } H := ⟨fun b o e hb _ => keep₂ b o (fun q => by subst q; rw [hfresh.1] at e; cases e) (fun q => by subst q; rw [hfresh.2.1] at e; cases e) (B.ke.keep b o e hb id), fun a o e ha _ => B.ke.dom a o e ha id, B.ke.os, B.ke.gens⟩
    have pos₂ : P (done.length + 1) h₂ := (I fun _ _ => False).frame _ _ _ hp₁ fun o e => sb₂.extBut it o (Ne.symm hfresh.2.2.2.1) e
    obtain ⟨oit, hoit⟩ := (I fun _ _ => False).live _ _ pos₂
    obtain ⟨ys, hys, hya⟩ := B.dl
    have hys₂ : h₂.PlainList D ys := by obtain ⟨kk, e⟩ := hys; exact ⟨kk, keep₂ D _ hfresh.2.2.2.2.1 hfresh.2.2.2.2.2 e⟩
    refine wpAny_mono (hcond _ _ _ _ _ F₂ (hturn done v rest acc H hitems hInv)) (fun ok s₃ x₃ => ?_) fun _ _ e => e
    obtain ⟨H₃, S₃, k₃, ht, hf⟩ := x₃
    -- an end of a turn, at any later heap
    have fin : ∀ (s₄ : Shared) (H₄ : HP) (acc' : List V) (ys' : Array Value), HS cx H₄ s₄ → KE { s with heap := h₂, toks := tk + 1 } H s₄ H₄ → (∃ H₅, LE H₅ H₄ ∧ Inv (done ++ [v]) acc' H₅) → acc'.length ≤ done.length + 1 →
        ys'.toList.map abs = acc' → ∀ s₅ : Shared, s₅.heap.PlainList D ys' → (∀ b o, b ≠ D → s₄.heap.get? b = some o → s₅.heap.get? b = some o) → s₅.os = s₄.os → s₅.gens = s₄.gens →
        ∃ m, m < (v :: rest).length ∧ ∃ done rest acc H, items = done ++ rest ∧ m = rest.length ∧ acc.length ≤ done.length ∧ Inv done acc H ∧ CI cx fm μ s₀ H₀ it Ca D P H done.length acc s₅ := by
      intro s₄ H₄ acc' ys' S₄ k₄ ⟨H₅, le, hI5⟩ hl hy s₅ hp5 hk5 ho5 hg5
      have S₅ := (S₂.step S₄ k₄).le le
      have dH : H₅ D = none := by
        cases e : H₅ D with
        | none => rfl
        | some o =>
          obtain ⟨kk, e2⟩ := hys₂
          have := k₄.dom D _ e2 B.dH id
          rw [le D o e] at this; cases this
      have itH : H₅ it = none := by
        cases e : H₅ it with
        | none => rfl
        | some o =>
          have := k₄.dom it _ hoit B.itH id
          rw [le it o e] at this; cases this
      have cH : H₅ Ca = none := by
        cases e : H₅ Ca with
        | none => rfl
        | some o =>
          obtain ⟨oc, _, _, e2, _⟩ := hm₂
          have := k₄.dom Ca _ e2 B.cH id
          rw [le Ca o e] at this; cases this
      have S₆ : SR cx fm H₅ μ { s₄ with heap := s₅.heap } := S₅.aside dH hD.1 hD.2.1 hk5 s₄.toks
      refine ⟨rest.length, Nat.lt_succ_self _, done ++ [v], rest, acc', H₅, by rw [hitems]; simp, rfl, by simpa using hl, hI5, ?_⟩
      have S₇ : SR cx fm H₅ μ s₅ := ⟨⟨S₆.hr, S₆.ext, S₆.low⟩, S₆.fr, S₆.own⟩
      have k5 := (ke₂.trans k₄).le le
      refine ⟨S₇, ⟨fun b o e hb q => hk5 b o (fun q => by subst q; rw [hfresh.2.2.1] at e; cases e) (k5.keep b o e hb q), k5.dom, ho5.trans k5.os, hg5.trans k5.gens⟩, ?_, itH, ?_, cH, ⟨ys', hp5, hy⟩, dH⟩
      · rw [List.length_append]
        exact (I fun _ _ => False).frame _ _ _ pos₂ fun o e => hk5 it o (Ne.symm hfresh.2.2.2.2.1) (k₄.keep it o e B.itH id)
      · obtain ⟨oc, es, ep, e, r⟩ := hm₂
        exact ⟨_, oc, es, ep, hk5 Ca oc (Ne.symm hfresh.2.2.2.2.2) (k₄.keep Ca oc e B.cH id), r⟩
    cases ok with
    | true =>
      simp only [if_true]
      refine wpAny_mono (ht rfl) (fun y s₄ x₄ => ?_) fun _ _ e => e
      obtain ⟨H₄, S₄, k₄, h₄⟩ := x₄
      have hysn : s₄.heap.PlainList D ys := by
        obtain ⟨kk, e⟩ := hys₂
        have dn := k₃.dom D _ e B.dH id
        exact ⟨kk, k₄.keep D _ (k₃.keep D _ e B.dH id) dn id⟩
      have hsz : ys.size ≤ sizeLine := by rw [size_of hya, sizeLine_eq]; first | lia | omega
      refine wpAny_list_append_plain hysn (fun h' hp sb => ?_) hsz
      exact fin s₄ H₄ _ (ys.push y) S₄ (k₃.trans k₄) h₄ (by simp; omega) (by rw [Array.toList_push, List.map_append, hya]; rfl) _ hp (fun b o hb e => sb.extBut b o hb e) rfl rfl
    | false =>
      simp only [Bool.false_eq_true, if_false]
      have hysn : s₃.heap.PlainList D ys := by
        obtain ⟨kk, e⟩ := hys₂
        exact ⟨kk, k₃.keep D _ e B.dH id⟩
      have := hf rfl
      simp only [Option.toList_none, List.append_nil] at this
      exact fin s₃ H₃ acc ys S₃ k₃ this (by first | lia | omega) hya s₃ hysn (fun _ _ _ e => e) rfl rfl
end
end Mine
end

section
namespace Mine
open PySem PyProof.Rows PySem.SeqAt

section
variable {cx : Cx} {T : Tbl} {A : Around} {E : Value → Shared → Prop} {n : Nat}

theorem comp_block (C : cx.OK) {fm : Fm} {H : HP} {μ : List V} {s : Shared} {Q : V → HP → Prop} (W : fm.OK cx) (S : SR cx fm H μ s) {elt iter : Expr} {ifs : List Expr} {x : Str} {px pos : Pos} {scope : Scope}
    (O : ScopeOk scope fm.env.scope x) {cl : List (Str × Addr)}
    (h1 : ∀ y c, cl.lookup y = some c → fm.env.cells.lookup y = some c) (h2 : ∀ y, scope.names.lookup y = some .free → ∃ c, cl.lookup y = some c)
    {items : List V} {st : HP → Prop} {P : Nat → Heap → Prop} {it : Addr} {ob : Obj} (I : ∀ E, Iter cx A E it items st P) (hit : s.heap.get? it = none) (hP : P 0 (s.heap.push ob)) 
    (turn : V → HP → (Option V → HP → Prop) → Prop)
    (hcond : ∀ (Ca : Addr) (E : Value → Shared → Prop) (s : Shared) (H : HP) (v : V) (K : Option V → HP → Prop), (compFm fm scope cl Ca x).OK cx → SR cx (compFm fm scope cl Ca x) H (μ ++ [v]) s → turn v H K →
      wpAny (model cx.prog cx.w) A (forIn ifs true fun c r => if r = true then do let ok ← isTrue c (compEnvC scope cl Ca fm.env) (eval c (compEnvC scope cl Ca fm.env)); pure (ForInStep.yield ok) else pure (ForInStep.yield r))
        (fun ok s' => ∃ H', HS cx H' s' ∧ KE s H s' H' ∧ (ok = true → wpAny (model cx.prog cx.w) A (eval elt (compEnvC scope cl Ca fm.env)) (EP cx s' H' fun v H => K (some v) H) E s') ∧ (ok = false → K none H')) E s)
    (hC : CompP cx items st H turn Q) {RR : Value → Addr → Result → Shared → Prop}
    (hRR : ∀ D Ca s' H', HS cx H' s' → KE s H s' H' → Q (.ref D) H' → H' Ca = none → s.heap.get? Ca = none → (∃ m, s'.heap.Ns Ca m) → RR (.ref D) Ca (.ok .next) s') :
    wpAny (model cx.prog cx.w) A (newList []) (fun acc s₃ => wpAny (model cx.prog cx.w) A (newFunctionEnv scope fm.env.globals cl [] fm.env.qual none .none (some fm.env)) (fun cenv s₄ =>
      codeAny (model cx.prog cx.w) A (.compStart (.ListComp elt [⟨.Name x px, iter, ifs, 0⟩] scope pos) 0 (.ref it) acc { cenv with scope := relabel scope fm.env }) (RR acc cenv.locals) s₄) E s₃) E
      { s with heap := s.heap.push ob } := by
  obtain ⟨hlen, Inv, hI0, hst, hturn, hend⟩ := hC
  refine wpAny_newList ?_ (by simp)
  refine wpAny_newFunctionEnv O.noCell (by intro y hy; cases hy) (fun h₁ hns₁ hsb₁ => ?_) O.kind
  dsimp only at hns₁ hsb₁ ⊢
  obtain ⟨oit, hoit⟩ := (I fun _ _ => False).live _ _ hP
  have hitlt : @LT.lt Nat _ it (s.heap.objs.size + 1) := by have := Heap.lt_size hoit; rwa [Heap.size_push] at this
  -- names for the two new places
  have hD1 : (s.heap.push ob).objs.size = s.heap.objs.size + 1 := Heap.size_push ..
  generalize hDe : (s.heap.push ob).objs.size = D at hns₁ hsb₁ ⊢
  generalize hH2 : (s.heap.push ob).push { cls := .type "list", data := .seq ([] : List Value).toArray } = h2' at hns₁ hsb₁ ⊢
  generalize hCe : h2'.objs.size = Ca at hns₁ hsb₁ ⊢
  have hCa : Ca = D + 1 := by rw [← hCe, ← hH2, Heap.size_push, hDe]
  have hDv : D = s.heap.objs.size + 1 := by rw [← hDe, hD1]
  have hns0 : ∀ b, s.heap.objs.size ≤ b → s.heap.get? b = none := fun b hb => by
    cases e : s.heap.get? b with
    | none => rfl
    | some o => exact absurd (Heap.lt_size e) (Nat.not_lt.mpr hb)
  have hsD : s.heap.get? D = none := hns0 D (by first | lia | omega)
  have hsC : s.heap.get? Ca = none := hns0 Ca (by first | lia | omega)
  have hown : ∀ b, s.heap.get? b = none → ¬ fm.own b := fun b hb q => by
    obtain ⟨o, e⟩ := S.fr.live b q
    rw [hb] at e; cases e
  have nCit : Ca ≠ it := Nat.ne_of_gt (by first | lia | omega)
  have nDit : D ≠ it := Nat.ne_of_gt (by first | lia | omega)
  have nDC : D ≠ Ca := by first | lia | omega
  -- what stood stands
  have k₁ : ∀ b o, s.heap.get? b = some o → h₁.get? b = some o := fun b o e => by
    have hb : @LT.lt Nat _ b _ := Heap.lt_size e
    refine hsb₁.extBut b o (Nat.ne_of_lt (by first | lia | omega)) (Heap.get?_push_of_some _ ?_)
    rw [← hH2]
    exact Heap.get?_push_of_some _ (Heap.get?_push_of_some _ e)
  have kit : ∀ o, (s.heap.push ob).get? it = some o → h₁.get? it = some o := fun o e => by
    refine hsb₁.extBut it o (Ne.symm nCit) (Heap.get?_push_of_some _ ?_)
    rw [← hH2]
    exact Heap.get?_push_of_some _ e
  have hDl : h₁.PlainList D #[] := ⟨0, hsb₁.extBut D _ nDC (Heap.get?_push_of_some _ (by
    rw [← hH2, ← hDe]; exact Heap.get?_push_size _ rfl))⟩
  have S' := S.toHS.grow k₁ (s.toks + ([] : List (Str × Value)).length)
  have K' : KE s H { s with heap := h₁, toks := s.toks + ([] : List (Str × Value)).length } H := KE.grow k₁ _
  have hfr := S.toHS.fresh C hsD
  have loop : codeAny (model cx.prog cx.w) A (.compLoop (.ListComp elt [⟨.Name x px, iter, ifs, 0⟩] scope pos) 0 (.ref it) (.ref D) (compEnvC scope cl Ca fm.env)) (RR (.ref D) Ca)
      { s with heap := h₁, toks := s.toks + ([] : List (Str × Value)).length } := by
    have cok : (compFm fm scope cl Ca x).OK cx := compFm_ok W O h1 h2 (hown _ hsC) (S.toHS.base_none hsC)
    refine comp_loop (s₀ := s) (H₀ := H) C W O h1 h2 I turn (fun E s H v K F ht => hcond Ca E s H v K cok F ht) ⟨hit, hsC, hsD, nCit, nDit, nDC⟩ ⟨hown _ hsC, S.toHS.base_none hsC⟩ ⟨hown _ hsD, hfr.2.1, hfr.2.2⟩ ⟨hown _ hit, S.toHS.base_none hit⟩ hlen
      Inv hst hturn hend hI0 ⟨S.step S' K', K', (I fun _ _ => False).frame _ _ _ hP kit, S.toHS.none_of hit, ⟨_, hns₁⟩, S.toHS.none_of hsC, ⟨#[], hDl, rfl⟩, S.toHS.none_of hsD⟩ ?_
    intro s' H' S₂ k₂ hQ hCn hns
    exact hRR D Ca s' H' S₂ k₂ hQ hCn hsC hns
  exact codeAny_compStart_list loop ((I _).self _ _ ((I fun _ _ => False).frame _ _ _ hP kit) loop)
end
end Mine
end

section
namespace Mine
open PySem PyProof.Rows PySem.SeqAt

section
variable {cx : Cx} {T : Tbl} {A : Around} {E : Value → Shared → Prop} {n : Nat}

noncomputable def ItPost (cx : Cx) (A : Around) (s : Shared) (H : HP) (K : List V → (HP → Prop) → HP → Prop) : Value → Shared → Prop := fun v s₂ =>
  ∃ it P ob s₁ H₁ items st, v = .ref it ∧ HS cx H₁ s₁ ∧ KE s H s₁ H₁ ∧ s₂ = { s₁ with heap := s₁.heap.push ob } ∧ s₁.heap.get? it = none ∧ (∀ E, Iter cx A E it items st P) ∧ P 0 (s₁.heap.push ob) ∧ K items st H₁

theorem iterP_ok (C : cx.OK) (hh : A.handled = none) {H : HP} {s : Shared} (S : HS cx H s) {v : Value} {K : List V → (HP → Prop) → HP → Prop} (h : IterP cx (abs v) H K) :
    wpAny (model cx.prog cx.w) A (pyIter v) (ItPost cx A s H K) E s := by
  obtain ⟨a, ha, h⟩ := onR_inv h
  have := abs_ref ha; subst this
  obtain ⟨vs, hl, h⟩ := onHL_inv h
  exact iter_list C hh S hl fun it P ob h1 h2 h3 => ⟨it, P, ob, s, H, vs, _, rfl, S, Kept.refl _ s H, rfl, h1, h2, h3, h.2⟩

theorem rng_end (hA : AOK A n) {H : HP} {s : Shared} {K : List V → (HP → Prop) → HP → Prop} {s₁ : Shared} {H₁ : HP} {x y : Int} {t u v : Tok} {tk : Nat} (S₁ : HS cx H₁ s₁) (k₁ : KE s H s₁ H₁) (hr : RngP (.int x) (.int y) fun items => K items (fun _ => True) H₁) :
    wpAny (model cx.prog cx.w) A (pyIter (.ref s₁.heap.objs.size)) (ItPost cx A s H K) E { s₁ with heap := s₁.heap.push { cls := .type "range", data := .fields #[.int x t, .int y u, .int 1 v] }, toks := tk } := by
  have kg : ∀ b o, s₁.heap.get? b = some o → (s₁.heap.push { cls := .type "range", data := .fields #[.int x t, .int y u, .int 1 v] }).get? b = some o := fun b o e => Heap.get?_push_of_some _ e
  refine iter_range (s := { s₁ with heap := s₁.heap.push { cls := .type "range", data := .fields #[.int x t, .int y u, .int 1 v] }, toks := tk }) hA.handled (IsRange.new _ _ _ _ _ _ _) hr.1 hr.2.1 fun it P ob h1 h2 h3 => ?_
  exact ⟨it, P, ob, _, H₁, _, _, rfl, S₁.grow kg tk, k₁.trans (KE.grow kg tk), rfl, h1, h2, h3, hr.2.2⟩
theorem rng_inv {v w : Value} {P : List V → Prop} (h : RngP (abs v) (abs w) P) : ∃ x y t u, v = .int x t ∧ w = .int y u ∧ RngP (.int x) (.int y) P := by
  obtain ⟨x, e1, h⟩ := onI_inv h
  obtain ⟨y, e2, h⟩ := onI_inv h
  obtain ⟨t, e1⟩ := abs_int e1
  obtain ⟨u, e2⟩ := abs_int e2
  exact ⟨x, y, t, u, e1, e2, h⟩
noncomputable def RngArgs (cx : Cx) (A : Around) (n : Nat) (fm : Fm) (a b : ME) (as : List Expr) : Prop :=
  (∃ e, as = [e] ∧ a = .cint 0 ∧ kindOK e = true ∧ JE cx A n b fm e) ∨ ∃ e e', as = [e, e'] ∧ kindOK e = true ∧ kindOK e' = true ∧ JE cx A n a fm e ∧ JE cx A n b fm e'
theorem it_rng (C : cx.OK) (TO : T.OK cx) (hA : AOK A n) {fm : Fm} {H : HP} {μ : List V} {s : Shared} (W : fm.OK cx) (S : SR cx fm H μ s) {np p : Pos} {as : List Expr} {a b : ME}
    (hx : isGlob fm.env.scope "range" = true) (ha : RngArgs cx A n fm a b as)
    {K : List V → (HP → Prop) → HP → Prop} (h : mwpE cx n a μ H fun x H => mwpE cx n b μ H fun y H => RngP x y fun items => K items (fun _ => True) H) :
    wpAny (model cx.prog cx.w) A (eval (.Call (.Name "range" np) as [] p) fm.env) (fun xv s₁ => wpAny (model cx.prog cx.w) A (pyIter xv) (ItPost cx A s H K) E s₁) E s := by
  refine wpAny_Call_ofName (glob_name C W S.toHS hx TO.rng ?_)
  rcases ha with ⟨e, rfl, rfl, ke, i⟩ | ⟨e, e', rfl, ke, ke', i, i'⟩
  · rw [starEach_of ke]
    refine PySem.callWith_type rfl (Calls.evalArgs_plain (Calls.spliced_cons (ep_then (i E H μ s _ S h) fun v s₁ H₁ S₁ k₁ h₁ => Calls.spliced_nil ?_)))
    obtain ⟨y, e2, h2⟩ := onI_inv (v := abs v) h₁
    obtain ⟨t, rfl⟩ := abs_int e2
    exact call_range_1 (rng_end hA S₁ k₁ h2)
  · rw [starEach_of ke, starEach_of ke']
    refine PySem.callWith_type rfl (Calls.evalArgs_plain (Calls.spliced_cons (ep_then (i E H μ s _ S h) fun v s₁ H₁ S₁ k₁ h₁ => ?_)))
    refine Calls.spliced_cons (ep_then (i' E H₁ μ s₁ _ (S.step S₁ k₁) h₁) fun w s₂ H₂ S₂ k₂ h₂ => Calls.spliced_nil ?_)
    obtain ⟨x, y, t, u, rfl, rfl, h₂⟩ := rng_inv h₂
    exact call_range_2 (rng_end hA S₂ (k₁.trans k₂) h₂)

theorem it_val (C : cx.OK) (hA : AOK A n) {fm : Fm} {H : HP} {μ : List V} {s : Shared} (S : SR cx fm H μ s) {e : Expr} {m : ME} (i : JE cx A n m fm e)
    {K : List V → (HP → Prop) → HP → Prop} (h : mwpE cx n m μ H fun v H => IterP cx v H K) :
    wpAny (model cx.prog cx.w) A (eval e fm.env) (fun xv s₁ => wpAny (model cx.prog cx.w) A (pyIter xv) (ItPost cx A s H K) E s₁) E s := by
  refine ep_then (i E H μ s _ S h) fun v s₁ H₁ S₁ k₁ h₁ => wpAny_mono (iterP_ok C hA.handled S₁ h₁) (fun v s₂ x => ?_) fun _ _ e => e
  obtain ⟨it, P, ob, s₃, H₃, items, st, a1, a2, a3, a4⟩ := x
  exact ⟨it, P, ob, s₃, H₃, items, st, a1, a2, k₁.trans a3, a4⟩
end
end Mine
end

section
namespace Mine
open PySem PyProof.Rows PySem.SeqAt

section
variable {cx : Cx} {T : Tbl} {A : Around} {E : Value → Shared → Prop} {n : Nat}

noncomputable def CTests (cx : Cx) (A : Around) (n : Nat) (c : ME) (fm : Fm) (ifs : List Expr) : Prop := (ifs = [] ∧ isTrueM c = true) ∨ ∃ e, ifs = [e] ∧ JT cx A n c fm e
theorem comp_turn {fm : Fm} {μ : List V} {scope : Scope} {x : Str} {cl : List (Str × Addr)} {Ca : Addr} {elt : Expr} {ifs : List Expr} {el cond : ME}
    (ie : JE cx A n el (compFm fm scope cl Ca x) elt) (ic : CTests cx A n cond (compFm fm scope cl Ca x) ifs) (E : Value → Shared → Prop) (s : Shared) (H : HP) (v : V) (K : Option V → HP → Prop) (S : SR cx (compFm fm scope cl Ca x) H (μ ++ [v]) s)
    (h : mwpE cx n cond (μ ++ [v]) H fun c H₂ => TruthP c fun b => (b = true → mwpE cx n el (μ ++ [v]) H₂ fun v H₃ => K (some v) H₃) ∧ (b = false → K none H₂)) :
    wpAny (model cx.prog cx.w) A (forIn ifs true fun c r => if r = true then do let ok ← isTrue c (compEnvC scope cl Ca fm.env) (eval c (compEnvC scope cl Ca fm.env)); pure (ForInStep.yield ok) else pure (ForInStep.yield r))
      (fun ok s' => ∃ H', HS cx H' s' ∧ KE s H s' H' ∧ (ok = true → wpAny (model cx.prog cx.w) A (eval elt (compEnvC scope cl Ca fm.env)) (EP cx s' H' fun v H => K (some v) H) E s') ∧ (ok = false → K none H')) E s := by
  rcases ic with ⟨rfl, hc⟩ | ⟨c, rfl, ic⟩
  · refine wpAny_tests_nil ⟨H, S.toHS, Kept.refl _ s H, fun _ => ?_, fun e => by cases e⟩
    cases cond <;> first | (have := hc; subst this; exact ie E H (μ ++ [v]) s _ S (h.1 rfl)) | exact (Bool.false_ne_true hc).elim
  · refine wpAny_tests_one (wpAny_mono (ic E H (μ ++ [v]) s (fun b H₂ => (b = true → mwpE cx n el (μ ++ [v]) H₂ fun v H₃ => K (some v) H₃) ∧ (b = false → K none H₂)) S h) (fun b s₁ x => ?_) fun _ _ e => e)
    obtain ⟨H₁, S₁, k₁, h₁⟩ := x
    exact ⟨H₁, S₁, k₁, fun hb => ie E H₁ (μ ++ [v]) s₁ _ (S.step S₁ k₁) (h₁.1 hb), h₁.2⟩

noncomputable def CUse (cx : Cx) (A : Around) (E : Value → Shared → Prop) (s : Shared) (H : HP) (Q : V → HP → Prop) (use : Option (Value → Sem Unit)) (Q' : Value → Shared → Prop) : Prop :=
  ∀ (D Ca : Addr) (s' : Shared) (H' : HP), HS cx H' s' → KE s H s' H' → Q (.ref D) H' → H' Ca = none → cx.base.get? Ca = none → (∀ o, s.heap.get? Ca = some o → H Ca = none → False) → (∃ m, s'.heap.Ns Ca m) → compPost (model cx.prog cx.w) A E use Q' (.ref D) Ca (.ok .next) s'
theorem comp_any (C : cx.OK) {fm : Fm} {H : HP} {μ : List V} {s : Shared} {Q : V → HP → Prop} (W : fm.OK cx) (S : SR cx fm H μ s) {elt iter : Expr} {ifs : List Expr} {x : Str} {px pos p0 : Pos} {scope : Scope} {el cond : ME}
    (O : ScopeOk scope fm.env.scope x) (ki : kindOK iter = true) (ie : ∀ fm' : Fm, fm'.OK cx → fm'.env.scope = relabelS scope fm.env.scope → fm'.names = compNames scope fm.names x → JE cx A n el fm' elt ∧ CTests cx A n cond fm' ifs)
    {K : List V → (HP → Prop) → HP → Prop} (hK : ∀ items st H₁, K items st H₁ → CompP cx items st H₁ (fun x H₁ K => mwpE cx n cond (μ ++ [x]) H₁ fun c H₂ => TruthP c fun b => (b = true → mwpE cx n el (μ ++ [x]) H₂ fun v H₃ => K (some v) H₃) ∧ (b = false → K none H₂)) Q)
    (hw : wpAny (model cx.prog cx.w) A (eval iter fm.env) (fun xv s₁ => wpAny (model cx.prog cx.w) A (pyIter xv) (ItPost cx A s H K) E s₁) E s)
    {use : Option (Value → Sem Unit)} {Q' : Value → Shared → Prop} (huse : CUse cx A E s H Q use Q') :
    wpAny (model cx.prog cx.w) A (comprehension (.ListComp elt [⟨.Name x px, iter, ifs, 0⟩] scope pos) scope fm.env p0 (newList []) false (eval iter fm.env) use) Q' E s := by
  obtain ⟨cl, hcl, h1, h2⟩ := closureFor_ok W O
  refine wpAny_comprehension_free rfl (folded_of ki fm.env) hcl O.kind O.locs (wpAny_mono hw (fun xv s₁ hx => wpAny_mono hx (fun itv s₂ hy => ?_) fun _ _ e => e) fun _ _ e => e)
  obtain ⟨ita, P, ob, s₃, H₁, items, st, rfl, S₁, k₁, rfl, hf, I, hP, hk⟩ := hy
  refine comp_block (RR := compPost (model cx.prog cx.w) A E use Q') C W (S.step S₁ k₁) O h1 h2 I hf hP _ (fun Ca E s H v K cok F ht => comp_turn (ie _ cok rfl rfl).1 (ie _ cok rfl rfl).2 E s H v K F ht) (hK _ _ _ hk) ?_
  intro D Ca s' H' S' k' hQ hCa hCf hns
  exact huse D Ca s' H' S' (k₁.trans k') hQ hCa (S₁.base_none hCf) (fun o e e2 => by rw [k₁.keep Ca o e e2 id] at hCf; cases hCf) hns

theorem post_same {H H' : HP} {s s' : Shared} {Ca : Addr} {h' : Heap} (S' : HS cx H' s') (k : KE s H s' H') (hCa : H' Ca = none) (hb : cx.base.get? Ca = none) (hf : ∀ o, s.heap.get? Ca = some o → H Ca = none → False)
    (sb : Heap.SameBut Ca s'.heap h') : HS cx H' { s' with heap := h' } ∧ KE s H { s' with heap := h' } H' :=
  ⟨⟨fun a o e => (S'.hr a o e).of_eq (sb.2 a (fun q => by subst q; rw [hCa] at e; cases e)), fun b o e => (sb.2 b (fun q => by subst q; rw [hb] at e; cases e)).trans (S'.ext b o e), S'.low⟩,
    ⟨fun b o e hn q => (sb.2 b (fun q => by subst q; exact hf o e hn)).trans (k.keep b o e hn q), k.dom, k.os, k.gens⟩⟩

noncomputable def JC (cx : Cx) (A : Around) (n : Nat) (m : ME) (fm : Fm) (e : Expr) : Prop := ∀ (E : Value → Shared → Prop) (H : HP) (μ : List V) (s : Shared) (Q : V → HP → Prop) (p0 : Pos) (use : Option (Value → Sem Unit)) (Q' : Value → Shared → Prop) (elt : Expr) (gens : List Comprehension) (scope : Scope) (pos : Pos),
  e = .ListComp elt gens scope pos → SR cx fm H μ s → mwpE cx n m μ H Q → CUse cx A E s H Q use Q' → wpAny (model cx.prog cx.w) A (comprehension (.ListComp elt gens scope pos) scope fm.env p0 (newList []) (firstAsync gens) (firstIter gens fm.env) use) Q' E s
theorem jc_value {m : ME} {fm : Fm} {elt : Expr} {gens : List Comprehension} {scope : Scope} {pos : Pos} (i : JC cx A n m fm (.ListComp elt gens scope pos)) : JE cx A n m fm (.ListComp elt gens scope pos) := by
  intro E H μ s Q S h
  rw [eval_ListComp]
  refine i E H μ s Q _ _ _ elt gens scope pos rfl S h ?_
  intro D Ca s' H' S' k hQ hCa hb hf hns
  obtain ⟨m, hm⟩ := hns
  exact ⟨m, hm, fun h' sb => (let ⟨a, b⟩ := post_same S' k hCa hb hf sb; ⟨H', a, b, hQ⟩)⟩
theorem jc_comp (C : cx.OK) (hA : AOK A n) {fm : Fm} (W : fm.OK cx) {elt iter : Expr} {ifs : List Expr} {x : Str} {px pos : Pos} {scope : Scope} {el it cond : ME}
    (O : ScopeOk scope fm.env.scope x) (ki : kindOK iter = true) (ie : ∀ fm' : Fm, fm'.OK cx → fm'.env.scope = relabelS scope fm.env.scope → fm'.names = compNames scope fm.names x → JE cx A n el fm' elt ∧ CTests cx A n cond fm' ifs)
    (ii : JE cx A n it fm iter) : JC cx A n (.comp el it cond) fm (.ListComp elt [⟨.Name x px, iter, ifs, 0⟩] scope pos) := by
  intro E H μ s Q p0 use Q' _ _ _ _ e S h hu
  cases e
  exact comp_any C W S O ki ie (fun _ _ _ h => h) (it_val C hA S ii h) hu
theorem jc_compR (C : cx.OK) (TO : T.OK cx) (hA : AOK A n) {fm : Fm} (W : fm.OK cx) {elt : Expr} {as ifs : List Expr} {x : Str} {px np ip pos : Pos} {scope : Scope} {el a b cond : ME}
    (O : ScopeOk scope fm.env.scope x) (hx : isGlob fm.env.scope "range" = true) (ie : ∀ fm' : Fm, fm'.OK cx → fm'.env.scope = relabelS scope fm.env.scope → fm'.names = compNames scope fm.names x → JE cx A n el fm' elt ∧ CTests cx A n cond fm' ifs)
    (ha : RngArgs cx A n fm a b as) : JC cx A n (.compR el a b cond) fm (.ListComp elt [⟨.Name x px, .Call (.Name "range" np) as [] ip, ifs, 0⟩] scope pos) := by
  intro E H μ s Q p0 use Q' _ _ _ _ e S h hu
  cases e
  exact comp_any C W S O rfl ie (fun _ _ _ h => h) (it_rng C TO hA W S hx ha h) hu

noncomputable def isComp : Expr → Bool
  | .ListComp .. => true
  | _ => false
structure JJ (cx : Cx) (A : Around) (n : Nat) (m : ME) (fm : Fm) (e : Expr) : Prop where
  v : JE cx A n m fm e
  t : JT cx A n m fm e
  c : isComp e = true → JC cx A n m fm e
  k : kindOK e = true
theorem jj {m : ME} {fm : Fm} {e : Expr} (v : JE cx A n m fm e) (t : JT cx A n m fm e) (hc : isComp e = false) (hk : kindOK e = true) : JJ cx A n m fm e := ⟨v, t, fun q => (Bool.false_ne_true (hc.symm.trans q)).elim, hk⟩
theorem jj1 {m : ME} {fm : Fm} {e : Expr} (hc : isComp e = false) (hk : kindOK e = true) (he : ∀ env whole, isTrue e env whole = (do let v ← whole; standAt e.pos; holding [v] (truthy v))) (v : JE cx A n m fm e) : JJ cx A n m fm e := jj v (t_value v he) hc hk
theorem jjc {m : ME} {fm : Fm} {elt : Expr} {gens : List Comprehension} {scope : Scope} {pos : Pos} (i : JC cx A n m fm (.ListComp elt gens scope pos)) : JJ cx A n m fm (.ListComp elt gens scope pos) := ⟨jc_value i, t_value (jc_value i) fun _ _ => rfl, fun _ => i, rfl⟩
structure JR (cx : Cx) (A : Around) (n : Nat) (ms : MEs) (fm : Fm) (es : List Expr) : Prop where
  l : JL cx A n ms fm es
  b : ∀ op, JB cx A n op ms fm es
  u : ∀ op, JU cx A n op ms fm es
  one : ∀ m e, ms = .cons m .nil → es = [e] → JE cx A n m fm e
  ks : ∀ e ∈ es, kindOK e = true

theorem tests_of {fm : Fm} {c : ME} {ifs : List Expr} (h : (ifs.isEmpty && isTrueM c || l1 ifs fun i => chkE T c fm.env.scope fm.names i) = true) (i : ∀ e, chkE T c fm.env.scope fm.names e = true → JJ cx A n c fm e) : CTests cx A n c fm ifs := by
  rcases or2 h with h | h
  · obtain ⟨h1, h2⟩ := and2 h; exact .inl ⟨nil_of h1, h2⟩
  · obtain ⟨e, h1, h2⟩ := l1_inv h; exact .inr ⟨e, h1, (i e h2).t⟩
theorem zero_of {m : ME} (h : isZeroM m = true) : m = .cint 0 := by
  cases m <;> first | (rw [eq_of_beq (show (_ == (0 : Int)) = true from h)]) | exact (Bool.false_ne_true h).elim
theorem none_of {m : ME} (h : isNoneM m = true) : m = .cnone := by
  cases m <;> first | rfl | exact (Bool.false_ne_true h).elim
theorem rng_of {fm : Fm} {a b : ME} {as : List Expr} (h : ((l1 as fun q => isZeroM a && chkE T b fm.env.scope fm.names q) || l2 as fun p q => chkE T a fm.env.scope fm.names p && chkE T b fm.env.scope fm.names q) = true)
    (ia : ∀ e, chkE T a fm.env.scope fm.names e = true → JJ cx A n a fm e) (ib : ∀ e, chkE T b fm.env.scope fm.names e = true → JJ cx A n b fm e) : RngArgs cx A n fm a b as := by
  rcases or2 h with h | h
  · obtain ⟨e, h1, h2⟩ := l1_inv h
    obtain ⟨h2, h3⟩ := and2 h2
    exact .inl ⟨e, h1, zero_of h2, (ib e h3).k, (ib e h3).v⟩
  · obtain ⟨e, e', h1, h2⟩ := l2_inv h
    obtain ⟨h2, h3⟩ := and2 h2
    exact .inr ⟨e, e', h1, (ia e h2).k, (ib e' h3).k, (ia e h2).v, (ib e' h3).v⟩

mutual
theorem sE (C : cx.OK) (TO : T.OK cx) (hA : AOK A n) : ∀ (m : ME) (fm : Fm) (e : Expr), fm.OK cx → chkE T m fm.env.scope fm.names e = true → JJ cx A n m fm e
  | .cint i, fm, e, W, h => by
    obtain ⟨c, k, p, rfl, h1⟩ := vConst_inv h; exact jj1 rfl rfl (fun _ _ => rfl) (j_int h1)
  | .cbool b, fm, e, W, h => by
    obtain ⟨c, k, p, rfl, h1⟩ := vConst_inv h; exact jj1 rfl rfl (fun _ _ => rfl) (j_bool h1)
  | .cnone, fm, e, W, h => (Bool.false_ne_true h).elim
  | .cstr x, fm, e, W, h => by
    obtain ⟨c, k, p, rfl, h1⟩ := vConst_inv h; exact jj1 rfl rfl (fun _ _ => rfl) (j_str h1)
  | .loc i, fm, e, W, h => by
    obtain ⟨x, p, rfl, h1⟩ := vName_inv h
    obtain ⟨h2, h3⟩ := and2 h1
    exact jj1 rfl rfl (fun _ _ => rfl) (j_loc W h2 (eq_of_beq h3))
  | .bin op l r, fm, e, W, h => by
    obtain ⟨a, o, b, p, rfl, h1⟩ := vBin_inv h
    obtain ⟨h2, h3⟩ := and2 h1
    obtain ⟨h3, h4⟩ := and2 h3
    rw [eq_of_beq h2]
    exact jj1 rfl rfl (fun _ _ => rfl) (j_bin C hA (sE C TO hA l fm a W h3).v (sE C TO hA r fm b W h4).v)
  | .not m, fm, e, W, h => by
    obtain ⟨o, a, p, rfl, h1⟩ := vUn_inv h
    obtain ⟨h2, h3⟩ := and2 h1
    rw [eq_of_beq h2]
    exact jj (j_not (sE C TO hA m fm a W h3).v) (t_not (sE C TO hA m fm a W h3).t) rfl rfl
  | .cmp l op r, fm, e, W, h => by
    obtain ⟨a, ops, cs, p, rfl, h1⟩ := vCmp_inv h
    obtain ⟨o, rfl, h2⟩ := l1_inv h1
    obtain ⟨b, rfl, h3⟩ := l1_inv h2
    obtain ⟨h4, h5⟩ := and2 h3
    obtain ⟨h5, h6⟩ := and2 h5
    rw [eq_of_beq h4]
    have il := sE C TO hA l fm a W h5
    have ir := sE C TO hA r fm b W h6
    exact jj (j_cmp C hA ir.k il.v ir.v) (t_cmp C hA ir.k il.v ir.v) rfl rfl
  | .bop op ms, fm, e, W, h => by
    obtain ⟨o, es, p, rfl, h1⟩ := vBool_inv h
    obtain ⟨h2, h3⟩ := and2 h1
    rw [eq_of_beq h2]
    have i := sEs C TO hA ms fm es W h3
    exact jj (fun E H μ s Q S h => i.b op E p H μ s Q S h) (fun E H μ s Q S h => wpAny_isTrue_BoolOp (i.u op E H μ s Q S h)) rfl rfl
  | .callf f ms, fm, e, W, h => by
    obtain ⟨x, np, as, p, rfl, h1⟩ := nameCall_inv h
    obtain ⟨h2, h3⟩ := and2 h1
    obtain ⟨h4, h5⟩ := and2 h3
    obtain ⟨h6, h7⟩ := and2 h5
    cases as with
    | nil => cases h6
    | cons a r => cases ms with
      | nil => cases h7
      | cons m ms =>
        have i := sEs C TO hA (.cons m ms) fm (a :: r) W h7
        exact jj1 rfl rfl (fun _ _ => rfl) (j_callf C TO hA W h2 (eq_of_beq h4) (i.ks a List.mem_cons_self) i.l)
  | .callb b ms, fm, e, W, h => by
    obtain ⟨x, np, as, p, rfl, h1⟩ := nameCall_inv h
    obtain ⟨h2, h3⟩ := and2 h1
    obtain ⟨h4, h5⟩ := and2 h3
    obtain ⟨h6, h7⟩ := and2 h5
    cases as with
    | nil => cases h6
    | cons a r => cases ms with
      | nil => cases h7
      | cons m ms =>
        have i := sEs C TO hA (.cons m ms) fm (a :: r) W h7
        exact jj1 rfl rfl (fun _ _ => rfl) (j_callb C TO hA W h2 (eq_of_beq h4) i.ks i.l)
  | .isi m t, fm, e, W, h => by
    obtain ⟨x, np, as, p, rfl, h1⟩ := nameCall_inv h
    obtain ⟨h2, h3⟩ := and2 h1
    obtain ⟨h4, h5⟩ := and2 h3
    obtain ⟨a, b, rfl, h6⟩ := l2_inv h5
    obtain ⟨h7, h8⟩ := and2 h6
    obtain ⟨y, tp, rfl, h9⟩ := vName_inv h8
    obtain ⟨h10, h11⟩ := and2 h9
    have := eq_of_beq h4; subst this
    exact jj1 rfl rfl (fun _ _ => rfl) (j_isi C TO W h2 h10 (eq_of_beq h11) (sE C TO hA m fm a W h7).k (sE C TO hA m fm a W h7).v)
  | .meth o m ms, fm, e, W, h => by
    obtain ⟨f, as, ks, p, rfl, h1⟩ := vCall_inv h
    obtain ⟨h2, h3⟩ := and2 h1
    obtain ⟨b, x, ap, rfl, h4⟩ := vAttr_inv h3
    obtain ⟨h4, h5⟩ := and2 h4
    obtain ⟨h5, h6⟩ := and2 h5
    obtain ⟨h6, h7⟩ := and2 h6
    obtain ⟨h7, h8⟩ := and2 h7
    obtain ⟨h9, h10⟩ := and2 h4
    rw [nil_of h2, eq_of_beq h5]
    exact jj1 rfl rfl (fun _ _ => rfl) (j_meth h9 h10 (of_decide_eq_true h7) h8 (sEs C TO hA ms fm as W h8).ks (sE C TO hA o fm b W h6).v (sEs C TO hA ms fm as W h8).one)
  | .sub o i, fm, e, W, h => by
    obtain ⟨a, b, p, rfl, h1⟩ := vSub_inv h
    obtain ⟨h2, h3⟩ := and2 h1
    exact jj1 rfl rfl (fun _ _ => rfl) (j_sub C (sE C TO hA i fm b W h3).k (sE C TO hA o fm a W h2).v (sE C TO hA i fm b W h3).v)
  | .slice o lo hi, fm, e, W, h => by
    obtain ⟨a, b, p, rfl, h1⟩ := vSub_inv h
    obtain ⟨h2, h3⟩ := and2 h1
    obtain ⟨x, y, z, p', rfl, h4⟩ := vSlice_inv h3
    obtain ⟨h5, h6⟩ := and2 h4
    obtain ⟨h7, h8⟩ := and2 h6
    cases z with
    | some z => cases h5
    | none =>
      refine jj1 rfl rfl (fun _ _ => rfl) (j_slice C (sE C TO hA o fm a W h2).v ?_ ?_)
      · cases x with
        | none => exact .inl ⟨rfl, none_of h7⟩
        | some x => exact .inr ⟨x, rfl, (sE C TO hA lo fm x W h7).v⟩
      · cases y with
        | none => exact .inl ⟨rfl, none_of h8⟩
        | some y => exact .inr ⟨y, rfl, (sE C TO hA hi fm y W h8).v⟩
  | .list ms, fm, e, W, h => by
    obtain ⟨es, p, rfl, h1⟩ := vList_inv h
    exact jj1 rfl rfl (fun _ _ => rfl) (j_list C (sEs C TO hA ms fm es W h1).l)
  | .tup ms, fm, e, W, h => by
    obtain ⟨es, k, p, rfl, h1⟩ := vTup_inv h
    exact jj1 rfl rfl (fun _ _ => rfl) (j_tup C (sEs C TO hA ms fm es W h1).l)
  | .comp el it c, fm, e, W, h => by
    obtain ⟨elt, x, px, iter, ifs, scope, p, rfl, hs, h1⟩ := oneComp_inv h
    obtain ⟨h1, h2⟩ := and2 h1
    obtain ⟨h2, h3⟩ := and2 h2
    refine jjc (jc_comp C hA W (scopeOk_of hs) (sE C TO hA it fm iter W h2).k (fun fm' W' e1 e2 => ?_) (sE C TO hA it fm iter W h2).v)
    rw [← e1, ← e2] at h1 h3
    exact ⟨(sE C TO hA el fm' elt W' h1).v, tests_of h3 fun e he => sE C TO hA c fm' e W' he⟩
  | .compR el a b c, fm, e, W, h => by
    obtain ⟨elt, x, px, iter, ifs, scope, p, rfl, hs, h1⟩ := oneComp_inv h
    obtain ⟨a1, a2⟩ := and2 h1
    obtain ⟨a3, a4⟩ := and2 a2
    obtain ⟨y, np, as, ip, rfl, a5⟩ := nameCall_inv a3
    obtain ⟨a6, a7⟩ := and2 a5
    obtain ⟨a8, a9⟩ := and2 a7
    have := eq_of_beq a8; subst this
    refine jjc (jc_compR C TO hA W (scopeOk_of hs) a6 (fun fm' W' e1 e2 => ?_) (rng_of a9 (fun e he => sE C TO hA a fm e W he) fun e he => sE C TO hA b fm e W he))
    rw [← e1, ← e2] at a1 a4
    exact ⟨(sE C TO hA el fm' elt W' a1).v, tests_of a4 fun e he => sE C TO hA c fm' e W' he⟩
  | .neg m, fm, e, W, h => by
    obtain ⟨o, a, p, rfl, h1⟩ := vUn_inv h
    obtain ⟨h2, h3⟩ := and2 h1
    rw [eq_of_beq h2]
    exact jj1 rfl rfl (fun _ _ => rfl) (j_neg (sE C TO hA m fm a W h3).v)
  | .cmp2 l o1 m o2 r, fm, e, W, h => by
    obtain ⟨a, ops, cs, p, rfl, h1⟩ := vCmp_inv h
    obtain ⟨q1, q2, rfl, h2⟩ := l2_inv h1
    obtain ⟨b, c, rfl, h3⟩ := l2_inv h2
    obtain ⟨h4, h5⟩ := and2 h3
    obtain ⟨h5, h6⟩ := and2 h5
    obtain ⟨h6, h7⟩ := and2 h6
    obtain ⟨h8, h9⟩ := and2 h4
    rw [eq_of_beq h8, eq_of_beq h9]
    have il := sE C TO hA l fm a W h5
    have im := sE C TO hA m fm b W h6
    have ir := sE C TO hA r fm c W h7
    exact jj (j_cmp2 C hA ir.k il.v im.v ir.v) (t_cmp2 C hA ir.k il.v im.v ir.v) rfl rfl
  | .ife c t f, fm, e, W, h => by
    obtain ⟨d, a, b, p, rfl, h1⟩ := vIfE_inv h
    obtain ⟨h2, h3⟩ := and2 h1
    obtain ⟨h3, h4⟩ := and2 h3
    exact jj (j_ife (sE C TO hA c fm d W h2).t (sE C TO hA t fm a W h3).v (sE C TO hA f fm b W h4).v) (t_ife (sE C TO hA c fm d W h2).t (sE C TO hA t fm a W h3).t (sE C TO hA f fm b W h4).t) rfl rfl
  | .gint i, fm, e, W, h => by
    obtain ⟨x, p, rfl, h1⟩ := vName_inv h
    obtain ⟨h2, h3⟩ := and2 h1
    exact jj1 rfl rfl (fun _ _ => rfl) (j_gint C TO W h2 (eq_of_beq h3))
  | .attr Cc i x, fm, e, W, h => by
    obtain ⟨o, y, p, rfl, h1⟩ := vAttr_inv h
    obtain ⟨h2, h3⟩ := and2 h1
    obtain ⟨a3, a4⟩ := and2 h3
    obtain ⟨z, np, rfl, h5⟩ := vName_inv a4
    obtain ⟨a5, a6⟩ := and2 h5
    rw [eq_of_beq h2]
    exact jj1 rfl rfl (fun _ _ => rfl) (j_attr TO W a3 a5 (eq_of_beq a6))
  | .callm Cc x f i ms, fm, e, W, h => by
    obtain ⟨g, as, ks, p, rfl, h1⟩ := vCall_inv h
    obtain ⟨h2, h3⟩ := and2 h1
    obtain ⟨o, y, ap, rfl, h4⟩ := vAttr_inv h3
    obtain ⟨a4, a5⟩ := and2 h4
    obtain ⟨a6, a7⟩ := and2 a4
    obtain ⟨b5, b8⟩ := and2 a5
    obtain ⟨c8, c9⟩ := and2 b8
    obtain ⟨z, np, rfl, d1⟩ := vName_inv c8
    obtain ⟨d2, d3⟩ := and2 d1
    obtain ⟨e1, e2⟩ := and2 c9
    rw [nil_of h2, eq_of_beq a7]
    have i := sEs C TO hA ms fm as W e2
    exact jj1 rfl rfl (fun _ _ => rfl) (j_callm TO hA W a6 b5 d2 (eq_of_beq d3) (of_decide_eq_true e1) i.ks e2 i.l)
  | .mk Cc f ms, fm, e, W, h => by
    obtain ⟨x, np, as, p, rfl, h1⟩ := nameCall_inv h
    obtain ⟨h2, h3⟩ := and2 h1
    obtain ⟨h4, h5⟩ := and2 h3
    obtain ⟨h6, h7⟩ := and2 h5
    cases as with
    | nil => cases h6
    | cons a r => cases ms with
      | nil => cases h7
      | cons m ms =>
        have i := sEs C TO hA (.cons m ms) fm (a :: r) W h7
        exact jj1 rfl rfl (fun _ _ => rfl) (j_mk C TO hA W h2 h4 i.ks i.l)
theorem sEs (C : cx.OK) (TO : T.OK cx) (hA : AOK A n) : ∀ (ms : MEs) (fm : Fm) (es : List Expr), fm.OK cx → chkEs T ms fm.env.scope fm.names es = true → JR cx A n ms fm es
  | .nil, fm, es, W, h => by
    have := nil_of h; subst this
    exact ⟨jl_nil, fun _ _ _ _ _ _ _ _ h => False.elim h, fun _ _ _ _ _ _ _ h => False.elim h, fun _ _ q => (by cases q), fun e he => by cases he⟩
  | .cons m .nil, fm, es, W, h => by
    obtain ⟨e, r, rfl, h1, h2⟩ := chkEs_cons h
    have := nil_of h2; subst this
    have i := sE C TO hA m fm e W h1
    exact ⟨jl_cons i.k i.v jl_nil, fun _ => jb_one i.v, fun _ => ju_one i.t, fun _ _ q q' => (by cases q; cases q'; exact i.v), fun e he => by rw [List.mem_singleton.mp he]; exact i.k⟩
  | .cons m (.cons m' ms), fm, es, W, h => by
    obtain ⟨e, r, rfl, h1, h2⟩ := chkEs_cons h
    have i := sE C TO hA m fm e W h1
    have ir := sEs C TO hA (.cons m' ms) fm r W h2
    obtain ⟨e', r', rfl, _, _⟩ := chkEs_cons h2
    refine ⟨jl_cons i.k i.v ir.l, fun op => jb_more i.v (ir.b op), fun op => ju_more i.t (ir.u op), fun _ _ q => (by cases q), fun x hx => ?_⟩
    rcases List.mem_cons.mp hx with rfl | hx
    · exact i.k
    · exact ir.ks x hx
end
end
end Mine
end

section
namespace Mine
open PySem PyProof.Rows PySem.SeqAt

noncomputable def wAsg (st : Stmt) (k : List Expr → Expr → Bool) : Bool := match st with
  | .Assign ts v _ => k ts v
  | _ => false
theorem wAsg_inv {st : Stmt} {k : List Expr → Expr → Bool} (h : wAsg st k = true) : ∃ ts v p, st = .Assign ts v p ∧ k ts v = true := by cases st <;> first | exact ⟨_, _, _, rfl, h⟩ | exact (Bool.false_ne_true h).elim
noncomputable def wExpr (st : Stmt) (k : Expr → Bool) : Bool := match st with
  | .Expr v _ => k v
  | _ => false
theorem wExpr_inv {st : Stmt} {k : Expr → Bool} (h : wExpr st k = true) : ∃ v p, st = .Expr v p ∧ k v = true := by cases st <;> first | exact ⟨_, _, rfl, h⟩ | exact (Bool.false_ne_true h).elim
noncomputable def wIf (st : Stmt) (k : Expr → List Stmt → List Stmt → Bool) : Bool := match st with
  | .If c t e _ => k c t e
  | _ => false
theorem wIf_inv {st : Stmt} {k : Expr → List Stmt → List Stmt → Bool} (h : wIf st k = true) : ∃ c t e p, st = .If c t e p ∧ k c t e = true := by cases st <;> first | exact ⟨_, _, _, _, rfl, h⟩ | exact (Bool.false_ne_true h).elim
noncomputable def wFor (st : Stmt) (k : Expr → Expr → List Stmt → List Stmt → Bool) : Bool := match st with
  | .For tg it b o _ => k tg it b o
  | _ => false
theorem wFor_inv {st : Stmt} {k : Expr → Expr → List Stmt → List Stmt → Bool} (h : wFor st k = true) : ∃ tg it b o p, st = .For tg it b o p ∧ k tg it b o = true := by cases st <;> first | exact ⟨_, _, _, _, _, rfl, h⟩ | exact (Bool.false_ne_true h).elim
noncomputable def wWhile (st : Stmt) (k : Expr → List Stmt → List Stmt → Bool) : Bool := match st with
  | .While c b o _ => k c b o
  | _ => false
theorem wWhile_inv {st : Stmt} {k : Expr → List Stmt → List Stmt → Bool} (h : wWhile st k = true) : ∃ c b o p, st = .While c b o p ∧ k c b o = true := by cases st <;> first | exact ⟨_, _, _, _, rfl, h⟩ | exact (Bool.false_ne_true h).elim
noncomputable def wRet (st : Stmt) (k : Option Expr → Bool) : Bool := match st with
  | .Return v _ => k v
  | _ => false
theorem wRet_inv {st : Stmt} {k : Option Expr → Bool} (h : wRet st k = true) : ∃ v p, st = .Return v p ∧ k v = true := by cases st <;> first | exact ⟨_, _, rfl, h⟩ | exact (Bool.false_ne_true h).elim

mutual
noncomputable def chkS (T : Tbl) : MS → Scope → List (Option Str) → Stmt → Bool
  | .assign i m, sc, nm, st => wAsg st fun ts v => l1 ts fun t => vName t fun x => nm[i]? == some (some x) && chkE T m sc nm v
  | .setSub o i m, sc, nm, st => wAsg st fun ts v => l1 ts fun t => vSub t fun a b => !isComp v && (chkE T m sc nm v && (chkE T o sc nm a && chkE T i sc nm b))
  | .expr m, sc, nm, st => wExpr st fun v => !isComp v && chkE T m sc nm v
  | .ite c t e, sc, nm, st => wIf st fun d a b => chkE T c sc nm d && (chkSs T t sc nm a && chkSs T e sc nm b)
  | .for_ i m b, sc, nm, st => wFor st fun tg it bd o => o.isEmpty && (chkSs T b sc nm bd && (chkE T m sc nm it && vName tg fun x => nm[i]? == some (some x)))
  | .forR i a c b, sc, nm, st => wFor st fun tg it bd o => o.isEmpty && (chkSs T b sc nm bd && ((vName tg fun x => nm[i]? == some (some x)) && nameCall it fun y as => isGlob sc y && (y == ("range" : Str) &&
      ((l1 as fun q => isZeroM a && chkE T c sc nm q) || l2 as fun p q => chkE T a sc nm p && chkE T c sc nm q))))
  | .while_ c b, sc, nm, st => wWhile st fun d bd o => o.isEmpty && (chkE T c sc nm d && chkSs T b sc nm bd)
  | .ret m, sc, nm, st => wRet st fun v => so v (fun e => chkE T m sc nm e) false
  | .setAttr C i x m, sc, nm, st => wAsg st fun ts v => l1 ts fun t => vAttr t fun o y _ => (y == x && T.ats.contains (C, x)) && (!isComp v && (chkE T m sc nm v && vName o fun z => !(z == ("__debug__" : Str)) && nm[i]? == some (some z)))
  | .raise_, _, _, _ => true
  | .retN, _, _, st => wRet st fun v => v.isNone
noncomputable def chkSs (T : Tbl) : MSs → Scope → List (Option Str) → List Stmt → Bool
  | .nil, _, _, ss => ss.isEmpty
  | .cons m ms, sc, nm, ss => match ss with
    | s :: r => chkS T m sc nm s && chkSs T ms sc nm r
    | [] => false
end

noncomputable def SP (cx : Cx) (fm : Fm) (s : Shared) (H : HP) (N : List V → HP → Prop) (R : V → HP → Prop) : Flow → Shared → Prop := fun f s' =>
  ∃ H' μ', SR cx fm H' μ' s' ∧ Kept fm.own s H s' H' ∧ (match f with | .next => N μ' H' | .ret v => R (abs v) H' | _ => False)
noncomputable def JS (cx : Cx) (A : Around) (n : Nat) (m : MS) (fm : Fm) (st : Stmt) : Prop := ∀ (E : Value → Shared → Prop) (H : HP) (μ : List V) (s : Shared) (N : List V → HP → Prop) (R : V → HP → Prop),
  SR cx fm H μ s → mwpS cx n m μ H N R → wpAny (model cx.prog cx.w) A (exec st fm.env) (SP cx fm s H N R) E s
noncomputable def JSs (cx : Cx) (A : Around) (n : Nat) (m : MSs) (fm : Fm) (ss : List Stmt) : Prop := ∀ (E : Value → Shared → Prop) (H : HP) (μ : List V) (s : Shared) (N : List V → HP → Prop) (R : V → HP → Prop),
  SR cx fm H μ s → mwpSs cx n m μ H N R → wpAny (model cx.prog cx.w) A (execs ss fm.env) (SP cx fm s H N R) E s

section
variable {cx : Cx} {T : Tbl} {A : Around} {E : Value → Shared → Prop} {n : Nat} {fm : Fm}

theorem sp_from {s s₁ : Shared} {H H₁ : HP} {N : List V → HP → Prop} {R : V → HP → Prop} {M : Model} {t : Sem Flow} (k : Kept fm.own s H s₁ H₁) (h : wpAny M A t (SP cx fm s₁ H₁ N R) E s₁) : wpAny M A t (SP cx fm s H N R) E s₁ :=
  wpAny_mono h (fun _ _ ⟨H', μ', a, b, c⟩ => ⟨H', μ', a, k.trans b, c⟩) fun _ _ e => e
theorem swaps_of {v : Expr} (h : isComp v = false) (hk : kindOK v = true) (t : Option Expr) (l : Nat) (env : Env) : swapsWith v t l env = pure false := by
  cases v <;> first | rfl | exact (Bool.false_ne_true hk).elim | exact (Bool.false_ne_true h.symm).elim
theorem swaps_comp (elt : Expr) (gens : List Comprehension) (scope : Scope) (p : Pos) (x : Str) (px : Pos) (l : Nat) (env : Env) : ∃ b, swapsWith (.ListComp elt gens scope p) (some (.Name x px)) l env = pure b := ⟨_, rfl⟩

theorem s_plain (W : fm.OK cx) {m : ME} {v : Expr} {x : Str} {i : Nat} {px p : Pos} (hi : fm.names[i]? = some (some x)) (iv : JE cx A n m fm v) (hs : swapsWith v (some (.Name x px)) p.line fm.env = pure false) : JS cx A n (.assign i m) fm (.Assign [.Name x px] v p) := by
  intro E H μ s N R S h
  refine wpAny_Assign_Name (ep_then (iv E H μ s _ S h) fun y s₁ H₁ S₁ k₁ h₁ => store_loc W (S.step S₁ k₁) hi fun s₂ S₂ k₂ => ?_) hs
  exact ⟨H₁, _, S₂, (k₁.any _).trans k₂, h₁⟩
theorem s_swap (W : fm.OK cx) {m : ME} {elt : Expr} {gens : List Comprehension} {scope : Scope} {vp : Pos} {x : Str} {i : Nat} {px p : Pos} (hi : fm.names[i]? = some (some x)) (ic : JC cx A n m fm (.ListComp elt gens scope vp))
    (hs : swapsWith (.ListComp elt gens scope vp) (some (.Name x px)) p.line fm.env = pure true) : JS cx A n (.assign i m) fm (.Assign [.Name x px] (.ListComp elt gens scope vp) p) := by
  intro E H μ s N R S h
  rw [exec_Assign_Name_used _ _ _ _ hs]
  refine wpAny_bind (wpAny_standAt (wpAny_bind ?_))
  show wpAny _ A (do let _ ← comprehension (.ListComp elt gens scope vp) scope fm.env _ (newList []) (firstAsync gens) (firstIter gens fm.env) (some (assign (.Name x px) fm.env))) _ _ s
  refine wpAny_bind (wpAny_mono (ic _ H μ s _ _ _ (fun _ s' => SP cx fm s H N R .next s') elt gens scope vp rfl S h ?_) (fun _ s' hq => wpAny_pure (wpAny_pure hq)) fun _ _ e => e)
  intro D Ca s' H' S' k hQ hCa hbase hf hns
  show wpAny _ A (assign (.Name x px) fm.env (.ref D)) _ _ _
  refine wpAny_assign_Name (store_loc W (S.step S' k) hi fun s₂ S₂ k₂ => ?_)
  have hown : ¬ fm.own Ca := fun q => by rw [W.above Ca q] at hbase; exact absurd (S.fr.live Ca q) (by
    rintro ⟨o, e⟩
    cases e2 : H Ca with
    | none => exact hf o e e2
    | some oo => exact S.own Ca oo e2 q)
  obtain ⟨m, hm⟩ := hns
  have hm₂ : s₂.heap.Ns Ca m := Ns.keep hm fun o e => k₂.keep Ca o e hCa hown
  refine ⟨m, hm₂, fun h' sb => ?_⟩
  have S₃ : SR cx fm H' (setL μ i (.ref D)) { s₂ with heap := h' } := S₂.aside hCa hown hbase sb.extBut s₂.toks
  have k₃ := (k.any fm.own).trans k₂
  exact ⟨H', _, S₃, ⟨fun b o e hn hw => sb.extBut b o (fun q => by subst q; exact hf o e hn) (k₃.keep b o e hn hw), k₃.dom, k₃.os, k₃.gens⟩, hQ⟩
theorem s_asg (W : fm.OK cx) {m : ME} {v : Expr} {x : Str} {i : Nat} {px p : Pos} (hi : fm.names[i]? = some (some x)) (kv : kindOK v = true) (iv : JJ cx A n m fm v) : JS cx A n (.assign i m) fm (.Assign [.Name x px] v p) := by
  cases hv : isComp v with
  | false => exact s_plain W hi iv.v (swaps_of hv kv _ _ _)
  | true =>
    have ic := iv.c hv
    cases v <;> first | exact (Bool.false_ne_true hv).elim | skip
    rename_i elt gens scope vp
    obtain ⟨b, hb⟩ := swaps_comp elt gens scope vp x px p.line fm.env
    cases b with
    | false => exact s_plain W hi iv.v hb
    | true => exact s_swap W hi ic hb
theorem s_sub {o i m : ME} {a b v : Expr} {sp p : Pos} (hc : isComp v = false) (kv : kindOK v = true) (iv : JE cx A n m fm v) (io : JE cx A n o fm a) (ii : JE cx A n i fm b) : JS cx A n (.setSub o i m) fm (.Assign [.Subscript a b sp] v p) := by
  intro E H μ s N R S h
  refine wpAny_Assign_Subscript (ep_then (iv E H μ s _ S h) fun vv s₁ H₁ S₁ k₁ h₁ => ep_then (io E H₁ μ s₁ _ (S.step S₁ k₁) h₁) fun ov s₂ H₂ S₂ k₂ h₂ => ?_) (swaps_of hc kv _ _ _)
  have k12 := k₁.trans k₂
  refine ep_then (ii E H₂ μ s₂ _ (S.step S₂ k12) h₂) fun iv s₃ H₃ S₃ k₃ h₃ => wpAny_mono (setSub_ok S₃ h₃) (fun _ s₄ q => ?_) fun _ _ e => e
  obtain ⟨H₄, S₄, k₄, h₄⟩ := q
  have k := k12.trans (k₃.trans k₄)
  exact ⟨H₄, μ, S.step S₄ k, KE.any k _, h₄⟩
theorem s_exp (W : fm.OK cx) {m : ME} {v : Expr} {p : Pos} (hc : isComp v = false) (kv : kindOK v = true) (iv : JE cx A n m fm v) : JS cx A n (.expr m) fm (.Expr v p) := by
  intro E H μ s N R S h
  refine wpAny_Expr_any (ep_then (iv E H μ s _ S h) fun vv s₁ H₁ S₁ k₁ h₁ => ?_) (by unfold interactive; rw [W.kind]; rfl) (swaps_of hc kv _ _ _)
  exact ⟨H₁, μ, S.step S₁ k₁, k₁.any _, h₁⟩
theorem s_retE {m : ME} {v : Expr} {p : Pos} (iv : JE cx A n m fm v) : JS cx A n (.ret m) fm (.Return (some v) p) := by
  intro E H μ s N R S h
  refine wpAny_Return_some (ep_then (iv E H μ s _ S h) fun vv s₁ H₁ S₁ k₁ h₁ => ?_)
  exact ⟨H₁, μ, S.step S₁ k₁, k₁.any _, h₁⟩
theorem s_retNJ {p : Pos} : JS cx A n .retN fm (.Return none p) := fun E H μ s N R S h => wpAny_Return_none ⟨H, μ, S, Kept.refl _ _ _, h⟩
theorem s_attrJ (TO : T.OK cx) (W : fm.OK cx) {C : Addr} {i : Nat} {x z : Str} {m : ME} {v : Expr} {np ap p : Pos} (ht : T.ats.contains (C, x) = true) (hd : (!(z == ("__debug__" : Str))) = true) (hi : fm.names[i]? = some (some z)) (hc : isComp v = false) (kv : kindOK v = true) (iv : JE cx A n m fm v) :
    JS cx A n (.setAttr C i x m) fm (.Assign [.Attribute (.Name z np) x ap] v p) := by
  intro E H μ s N R S h
  refine plainObj_wpAny_Assign_Attribute (ep_then (iv E H μ s _ S h) fun vv s₁ H₁ S₁ k₁ h₁ => name_ok W (S.step S₁ k₁) hd hi h₁.1 fun o ho => ?_) (swaps_of hc kv _ _ _)
  refine wpAny_mono (setAttr_ok TO.kin (TO.at_ C x ht) S₁ (by rw [ho]; exact h₁.2)) (fun _ s₂ q => ?_) fun _ _ e => e
  obtain ⟨H₂, S₂, k₂, h₂⟩ := q
  have k := k₁.trans k₂
  exact ⟨H₂, μ, S.step S₂ k, KE.any k _, h₂⟩
theorem ss_nilJ : JSs cx A n .nil fm [] := fun E H μ s N R S h => wpAny_execs_nil ⟨H, μ, S, Kept.refl _ _ _, h⟩
theorem ss_consJ {m : MS} {ms : MSs} {st : Stmt} {r : List Stmt} (i : JS cx A n m fm st) (ir : JSs cx A n ms fm r) : JSs cx A n (.cons m ms) fm (st :: r) := by
  intro E H μ s N R S h
  refine wpAny_execs_cons (wpAny_mono (i E H μ s _ R S h) (fun f s₁ q => ?_) fun _ _ e => e)
  obtain ⟨H₁, μ₁, S₁, k₁, h₁⟩ := q
  cases f with
  | next => exact sp_from k₁ (ir _ H₁ μ₁ s₁ N R S₁ h₁)
  | ret v => exact ⟨H₁, μ₁, S₁, k₁, h₁⟩
  | brk => exact h₁.elim
  | cont => exact h₁.elim
theorem s_if {c : ME} {t e : MSs} {d : Expr} {a b : List Stmt} {p : Pos} (ic : JT cx A n c fm d) (it : JSs cx A n t fm a) (ie : JSs cx A n e fm b) : JS cx A n (.ite c t e) fm (.If d a b p) := by
  intro E H μ s N R S h
  refine wpAny_If (wpAny_mono (ic E H μ s (fun b' H => (b' = true → mwpSs cx n t μ H N R) ∧ (b' = false → mwpSs cx n e μ H N R)) S h) (fun v s₁ q => ?_) fun _ _ e => e)
  obtain ⟨H₁, S₁, k₁, h₁⟩ := q
  cases v with
  | true => exact sp_from (k₁.any _) (it E H₁ μ s₁ N R (S.step S₁ k₁) (h₁.1 rfl))
  | false => exact sp_from (k₁.any _) (ie E H₁ μ s₁ N R (S.step S₁ k₁) (h₁.2 rfl))
theorem s_whileJ {c : ME} {b : MSs} {d : Expr} {bd : List Stmt} {p : Pos} (ic : JT cx A n c fm d) (ib : JSs cx A n b fm bd) : JS cx A n (.while_ c b) fm (.While d bd [] p) := by
  intro E H μ s N R S h
  obtain ⟨I, ⟨k0, hI⟩, hstep⟩ := h
  refine wpAny_While (codeAny_whileLoop (fun k s' => ∃ μ' H', I k μ' H' ∧ SR cx fm H' μ' s' ∧ Kept fm.own s H s' H') ?_ k0 ⟨μ, H, hI, S, Kept.refl _ _ _⟩)
  rintro k s' ⟨μ', H', hI', S', k'⟩
  refine wpAny_mono (ic _ H' μ' s' (fun b' H₁ => (b' = true → mwpSs cx n b μ' H₁ (fun μ' H' => ∃ H₃, LE H₃ H' ∧ ∃ m, m < k ∧ I m μ' H₃) R) ∧ (b' = false → N μ' H₁)) S' (hstep k μ' H' hI')) (fun v s₁ q => ?_) fun _ _ e => e
  obtain ⟨H₁, S₁, k₁, h₁⟩ := q
  have kk := k'.trans (k₁.any fm.own)
  cases v with
  | true =>
    refine wpAny_mono (ib _ H₁ μ' s₁ _ R (S'.step S₁ k₁) (h₁.1 rfl)) (fun f s₂ q => ?_) fun _ _ e => e
    obtain ⟨H₂, μ₂, S₂, k₂, h₂⟩ := q
    cases f with
    | next =>
      obtain ⟨H₃, le, m, hm, hI3⟩ := h₂
      exact ⟨m, hm, μ₂, H₃, hI3, S₂.le le, (kk.trans k₂).le le⟩
    | ret v => exact ⟨H₂, μ₂, S₂, kk.trans k₂, h₂⟩
    | brk => exact h₂.elim
    | cont => exact h₂.elim
  | false => exact wpAny_execs_nil ⟨H₁, μ', S'.step S₁ k₁, kk, h₁.2 rfl⟩

theorem for_loop (hA : AOK A n) {fm : Fm} {H : HP} {μ : List V} {s : Shared} {N : List V → HP → Prop} {R : V → HP → Prop} (W : fm.OK cx) {x : Str} {px : Pos} {i : Nat} (hi : fm.names[i]? = some (some x)) {body : List Stmt} {b : MSs} (ib : JSs cx A n b fm body)
    {s₁ : Shared} {H₁ : HP} (S₁ : SR cx fm H₁ μ s₁) (k₁ : KE s H s₁ H₁) {it : Addr} {P : Nat → Heap → Prop} {ob : Obj} {items : List V} {st : HP → Prop} (I : ∀ E, Iter cx A E it items st P) (hf : s₁.heap.get? it = none) (hP : P 0 (s₁.heap.push ob))
    (hF : ForP items st μ H₁ (fun x μ H K => mwpSs cx n b (setL μ i x) H K R) N) :
    codeAny (model cx.prog cx.w) A (.forLoop (.Name x px) (.ref it) body [] fm.env) (fun r s' => match r with | .ok f => SP cx fm s H N R f s' | .error e => cameBackBy (model cx.prog cx.w) A fm.env E e s') { s₁ with heap := s₁.heap.push ob } := by
  obtain ⟨Inv, hI0, hst, hturn, hend⟩ := hF
  have kg : ∀ b o, s₁.heap.get? b = some o → (s₁.heap.push ob).get? b = some o := fun b o e => Heap.get?_push_of_some _ e
  have hown : ¬ fm.own it := fun q => by obtain ⟨o, e⟩ := S₁.fr.live it q; rw [hf] at e; cases e
  have hbase : cx.base.get? it = none := S₁.toHS.base_none hf
  refine codeAny_forLoop (fun k s' => ∃ done rest μ' H', items = done ++ rest ∧ k = rest.length ∧ Inv done μ' H' ∧ SR cx fm H' μ' s' ∧ Kept fm.own s H s' H' ∧ P done.length s'.heap ∧ H' it = none) ?_ items.length
    ⟨[], items, μ, H₁, rfl, rfl, hI0, S₁.step (S₁.toHS.grow kg _) (KE.grow kg _), KE.any (k₁.trans (KE.grow kg _)) _, hP, S₁.toHS.none_of hf⟩
  rintro k s' ⟨done, rest, μ', H', hitems, rfl, hInv, S', k', hp, hit⟩
  -- an object that lives at s and is not the abstract heap's is not the iterator
  have nit : ∀ b o, s.heap.get? b = some o → H b = none → b ≠ it := fun b o e hn q => by
    subst q; rw [k₁.keep _ o e hn id] at hf; cases hf
  cases rest with
  | nil =>
    rw [List.append_nil] at hitems
    subst hitems
    refine (I _).stop s' H' _ S'.toHS (hst _ _ _ hInv) hp fun h' eb => ?_
    exact wpAny_execs_nil ⟨H', μ', S'.aside hit hown hbase eb s'.toks, ⟨fun b o e hn hw => eb b o (nit b o e hn) (k'.keep b o e hn hw), k'.dom, k'.os, k'.gens⟩, hend μ' H' hInv⟩
  | cons v rest =>
    have hv : items[done.length]? = some v := by rw [hitems]; simp
    refine (I _).next s' H' done.length v _ S'.toHS (hst _ _ _ hInv) hp hv fun h₂ tk xv hxa hp₂ sb₂ => ?_
    have S₂ := S'.aside hit hown hbase sb₂.extBut tk
    have k₂ : Kept fm.own s H { s' with heap := h₂, toks := tk } H' := ⟨fun b o e hn hw => sb₂.extBut b o (nit b o e hn) (k'.keep b o e hn hw), k'.dom, k'.os, k'.gens⟩
    refine wpAny_assign_Name (store_loc W S₂ hi fun s₃ S₃ k₃ => ?_)
    rw [hxa] at S₃
    obtain ⟨oi, hoi⟩ := (I fun _ _ => False).live _ _ hp₂
    have hp₃ : P (done.length + 1) s₃.heap := (I fun _ _ => False).frame _ _ _ hp₂ fun o e => k₃.keep it o e hit hown
    refine wpAny_mono (ib _ H' (setL μ' i v) s₃ _ R S₃ (hturn done v rest μ' H' hitems hInv)) (fun f s₄ q => ?_) fun _ _ e => e
    obtain ⟨H₄, μ₄, S₄, k₄, h₄⟩ := q
    have kk := (k₂.trans k₃).trans k₄
    cases f with
    | next =>
      obtain ⟨H₅, le, hI5⟩ := h₄
      have hoi₃ := k₃.keep it oi hoi hit hown
      refine ⟨rest.length, Nat.lt_succ_self _, done ++ [v], rest, μ₄, H₅, by rw [hitems]; simp, rfl, hI5, S₄.le le, kk.le le, ?_, ?_⟩
      · rw [List.length_append]
        exact (I fun _ _ => False).frame _ _ _ hp₃ fun o e => k₄.keep it o e hit hown
      · cases e : H₅ it with
        | none => rfl
        | some o =>
          have := k₄.dom it oi hoi₃ hit hown
          rw [le it o e] at this; cases this
    | ret v => exact ⟨H₄, μ₄, S₄, kk, h₄⟩
    | brk => exact h₄.elim
    | cont => exact h₄.elim

theorem s_forJ (C : cx.OK) (hA : AOK A n) (W : fm.OK cx) {i : Nat} {m : ME} {b : MSs} {x : Str} {px p : Pos} {it : Expr} {bd : List Stmt} (hi : fm.names[i]? = some (some x)) (ki : kindOK it = true) (ii : JE cx A n m fm it) (ib : JSs cx A n b fm bd) :
    JS cx A n (.for_ i m b) fm (.For (.Name x px) it bd [] p) := by
  intro E H μ s N R S h
  refine wpAny_For (wpAny_mono (it_val (K := fun items st H₁ => ForP items st μ H₁ (fun x μ H K => mwpSs cx n b (setL μ i x) H K R) N) C hA S ii h) (fun xv s₁ hx => wpAny_mono hx (fun itv s₂ hy => ?_) fun _ _ e => e) fun _ _ e => e) (folded_of ki fm.env)
  obtain ⟨ita, P, ob, s₃, H₁, items, st, rfl, S₁, k₁, rfl, hf, I, hP, hk⟩ := hy
  exact for_loop hA W hi ib (S.step S₁ k₁) k₁ I hf hP hk
theorem s_forRJ (C : cx.OK) (TO : T.OK cx) (hA : AOK A n) (W : fm.OK cx) {i : Nat} {a c : ME} {b : MSs} {x : Str} {px np ip p : Pos} {as : List Expr} {bd : List Stmt} (hi : fm.names[i]? = some (some x)) (hg : isGlob fm.env.scope "range" = true) (ha : RngArgs cx A n fm a c as) (ib : JSs cx A n b fm bd) :
    JS cx A n (.forR i a c b) fm (.For (.Name x px) (.Call (.Name "range" np) as [] ip) bd [] p) := by
  intro E H μ s N R S h
  refine wpAny_For (wpAny_mono (it_rng (K := fun items st H₁ => ForP items st μ H₁ (fun x μ H K => mwpSs cx n b (setL μ i x) H K R) N) C TO hA W S hg ha h) (fun xv s₁ hx => wpAny_mono hx (fun itv s₂ hy => ?_) fun _ _ e => e) fun _ _ e => e) (folded_of rfl fm.env)
  obtain ⟨ita, P, ob, s₃, H₁, items, st, rfl, S₁, k₁, rfl, hf, I, hP, hk⟩ := hy
  exact for_loop hA W hi ib (S.step S₁ k₁) k₁ I hf hP hk

theorem notB {b : Bool} (h : (!b) = true) : b = false := by cases b; rfl; cases h
mutual
theorem sS (C : cx.OK) (TO : T.OK cx) (hA : AOK A n) (W : fm.OK cx) : ∀ (m : MS) (st : Stmt), chkS T m fm.env.scope fm.names st = true → JS cx A n m fm st
  | .assign i m, st, h => by
    obtain ⟨ts, v, p, rfl, h1⟩ := wAsg_inv h
    obtain ⟨t, rfl, h2⟩ := l1_inv h1
    obtain ⟨x, px, rfl, h3⟩ := vName_inv h2
    obtain ⟨h4, h5⟩ := and2 h3
    exact s_asg W (eq_of_beq h4) (sE C TO hA m fm v W h5).k (sE C TO hA m fm v W h5)
  | .setSub o i m, st, h => by
    obtain ⟨ts, v, p, rfl, h1⟩ := wAsg_inv h
    obtain ⟨t, rfl, h2⟩ := l1_inv h1
    obtain ⟨a, b, sp, rfl, h3⟩ := vSub_inv h2
    obtain ⟨h4, h5⟩ := and2 h3
    obtain ⟨h6, h7⟩ := and2 h5
    obtain ⟨h8, h9⟩ := and2 h7
    exact s_sub (notB h4) (sE C TO hA m fm v W h6).k (sE C TO hA m fm v W h6).v (sE C TO hA o fm a W h8).v (sE C TO hA i fm b W h9).v
  | .expr m, st, h => by
    obtain ⟨v, p, rfl, h1⟩ := wExpr_inv h
    obtain ⟨h2, h3⟩ := and2 h1
    exact s_exp W (notB h2) (sE C TO hA m fm v W h3).k (sE C TO hA m fm v W h3).v
  | .ite c t e, st, h => by
    obtain ⟨d, a, b, p, rfl, h1⟩ := wIf_inv h
    obtain ⟨h2, h3⟩ := and2 h1
    obtain ⟨h4, h5⟩ := and2 h3
    exact s_if (sE C TO hA c fm d W h2).t (sSs C TO hA W t a h4) (sSs C TO hA W e b h5)
  | .for_ i m b, st, h => by
    obtain ⟨tg, it, bd, o, p, rfl, h1⟩ := wFor_inv h
    obtain ⟨h2, h3⟩ := and2 h1
    obtain ⟨h4, h5⟩ := and2 h3
    obtain ⟨h6, h7⟩ := and2 h5
    obtain ⟨x, px, rfl, h8⟩ := vName_inv h7
    rw [nil_of h2]
    exact s_forJ C hA W (eq_of_beq h8) (sE C TO hA m fm it W h6).k (sE C TO hA m fm it W h6).v (sSs C TO hA W b bd h4)
  | .forR i a c b, st, h => by
    obtain ⟨tg, it, bd, o, p, rfl, h1⟩ := wFor_inv h
    obtain ⟨h2, h3⟩ := and2 h1
    obtain ⟨h4, h5⟩ := and2 h3
    obtain ⟨h6, h7⟩ := and2 h5
    obtain ⟨x, px, rfl, h8⟩ := vName_inv h6
    obtain ⟨y, np, as, ip, rfl, h9⟩ := nameCall_inv h7
    obtain ⟨h10, h11⟩ := and2 h9
    obtain ⟨h12, h13⟩ := and2 h11
    have := eq_of_beq h12; subst this
    rw [nil_of h2]
    exact s_forRJ C TO hA W (eq_of_beq h8) h10 (rng_of h13 (fun e he => sE C TO hA a fm e W he) fun e he => sE C TO hA c fm e W he) (sSs C TO hA W b bd h4)
  | .while_ c b, st, h => by
    obtain ⟨d, bd, o, p, rfl, h1⟩ := wWhile_inv h
    obtain ⟨h2, h3⟩ := and2 h1
    obtain ⟨h4, h5⟩ := and2 h3
    rw [nil_of h2]
    exact s_whileJ (sE C TO hA c fm d W h4).t (sSs C TO hA W b bd h5)
  | .ret m, st, h => by
    obtain ⟨v, p, rfl, h1⟩ := wRet_inv h
    cases v with
    | none => cases h1
    | some v => exact s_retE (sE C TO hA m fm v W h1).v
  | .setAttr Cc i x m, st, h => by
    obtain ⟨ts, v, p, rfl, h1⟩ := wAsg_inv h
    obtain ⟨t, rfl, h2⟩ := l1_inv h1
    obtain ⟨o, y, ap, rfl, h3⟩ := vAttr_inv h2
    obtain ⟨h4, h5⟩ := and2 h3
    obtain ⟨h6, h7⟩ := and2 h4
    obtain ⟨h8, h9⟩ := and2 h5
    obtain ⟨h10, h11⟩ := and2 h9
    obtain ⟨z, np, rfl, h12⟩ := vName_inv h11
    obtain ⟨a1, a2⟩ := and2 h12
    rw [eq_of_beq h6]
    exact s_attrJ TO W h7 a1 (eq_of_beq a2) (notB h8) (sE C TO hA m fm v W h10).k (sE C TO hA m fm v W h10).v
  | .raise_, st, h => fun E H μ s N R S h => False.elim h
  | .retN, st, h => by
    obtain ⟨v, p, rfl, h1⟩ := wRet_inv h
    cases v with
    | none => exact s_retNJ
    | some v => cases h1
theorem sSs (C : cx.OK) (TO : T.OK cx) (hA : AOK A n) (W : fm.OK cx) : ∀ (ms : MSs) (ss : List Stmt), chkSs T ms fm.env.scope fm.names ss = true → JSs cx A n ms fm ss
  | .nil, ss, h => by
    have := nil_of h; subst this; exact ss_nilJ
  | .cons m ms, [], h => (Bool.false_ne_true h).elim
  | .cons m ms, st :: r, h => by
    obtain ⟨h1, h2⟩ := and2 h
    exact ss_consJ (sS C TO hA W m st h1) (sSs C TO hA W ms r h2)
end
end
end Mine
end

section
namespace Mine
open PySem PyProof.Rows PySem.SeqAt

section
variable {cx : Cx} {T : Tbl} {A : Around} {E : Value → Shared → Prop} {n : Nat}

theorem cells_mem {x : Str} : ∀ (names : List (Str × NameKind)) (k : Nat) (acc : List (Str × Addr)), ((x, NameKind.cell) ∈ names ∨ ∃ c, (x, c) ∈ acc) → ∃ c, (x, c) ∈ cellsFrom k names acc
  | [], _, _, h => h.elim (fun q => nomatch q) id
  | (y, kd) :: r, k, acc, h => by
    unfold cellsFrom
    split
    · rename_i hk
      refine cells_mem r _ _ ?_
      rcases h with h | ⟨c, h⟩
      · rcases List.mem_cons.mp h with q | h
        · cases q; exact .inr ⟨k, List.mem_cons_self⟩
        · exact .inl h
      · exact .inr ⟨c, List.mem_cons_of_mem _ h⟩
    · rename_i hk
      refine cells_mem r _ _ ?_
      rcases h with h | h
      · rcases List.mem_cons.mp h with q | h
        · cases q; simp at hk
        · exact .inl h
      · exact .inr h

theorem pairwise_inj {l : List (Str × Addr)} (h : l.Pairwise fun x y => x.2 ≠ y.2) {x y : Str} {c : Addr} (hx : (x, c) ∈ l) (hy : (y, c) ∈ l) : x = y := by
  induction l with
  | nil => cases hx
  | cons p l ih =>
    rw [List.pairwise_cons] at h
    rcases List.mem_cons.mp hx with e | hx'
    · rcases List.mem_cons.mp hy with e' | hy'
      · rw [← e] at e'; cases e'; rfl
      · exact absurd (show p.2 = c from by rw [← e]) (h.1 (y, c) hy')
    · rcases List.mem_cons.mp hy with e' | hy'
      · exact absurd (show p.2 = c from by rw [← e']) (h.1 (x, c) hx')
      · exact ih h.2 hx' hy'

theorem bindL_other (kd : Str → Option NameKind) {x : Str} : ∀ (b : List (Str × Value)) (m : Str → Option Value), (∀ p ∈ b, p.1 ≠ x) → bindL kd b m x = m x
  | [], _, _ => rfl
  | (y, v) :: r, m, h => by
    unfold bindL
    rw [bindL_other kd r _ (fun p hp => h p (List.mem_cons_of_mem _ hp))]
    have hy : x ≠ y := fun e => h (y, v) List.mem_cons_self e.symm
    split
    · simp [hy]
    · rfl
theorem bindC_other (kd : Str → Option NameKind) {x : Str} : ∀ (b : List (Str × Value)) (m : Str → Option Value), (∀ p ∈ b, p.1 ≠ x) → bindC kd b m x = m x
  | [], _, _ => rfl
  | (y, v) :: r, m, h => by
    unfold bindC
    rw [bindC_other kd r _ (fun p hp => h p (List.mem_cons_of_mem _ hp))]
    have hy : x ≠ y := fun e => h (y, v) List.mem_cons_self e.symm
    split
    · rfl
    · simp [hy]

theorem bind_at (kd : Str → Option NameKind) : ∀ (ps : List Str) (vs : List Value) (m : Str → Option Value) (i : Nat) (x : Str) (v : Value), ps.Nodup → ps[i]? = some x → vs[i]? = some v →
    (kd x = some .local → bindL kd (ps.zip vs) m x = some v) ∧ (kd x ≠ some .local → bindC kd (ps.zip vs) m x = some v)
  | [], _, _, i, x, v, _, h, _ => by simp at h
  | _ :: _, [], _, i, x, v, _, _, h => by simp at h
  | p :: ps, w :: vs, m, 0, x, v, hn, h1, h2 => by
    simp at h1 h2
    subst h1; subst h2
    rw [List.nodup_cons] at hn
    have ho : ∀ q ∈ ps.zip vs, q.1 ≠ p := fun q hq e => hn.1 (e ▸ (List.of_mem_zip hq).1)
    refine ⟨fun hk => ?_, fun hk => ?_⟩
    · show bindL kd ((p, w) :: ps.zip vs) m p = some w
      unfold bindL; rw [if_pos hk, bindL_other kd _ _ ho]; simp
    · show bindC kd ((p, w) :: ps.zip vs) m p = some w
      unfold bindC; rw [if_neg hk, bindC_other kd _ _ ho]; simp
  | p :: ps, w :: vs, m, i + 1, x, v, hn, h1, h2 => by
    rw [List.nodup_cons] at hn
    rw [List.getElem?_cons_succ] at h1 h2
    have hL := fun m => (bind_at kd ps vs m i x v hn.2 h1 h2).1
    have hC := fun m => (bind_at kd ps vs m i x v hn.2 h1 h2).2
    refine ⟨fun hk => ?_, fun hk => ?_⟩
    · show bindL kd ((p, w) :: ps.zip vs) m x = some v
      unfold bindL; exact hL _ hk
    · show bindC kd ((p, w) :: ps.zip vs) m x = some v
      unfold bindC; exact hC _ hk

theorem getL_args {args : List V} : ∀ {i : Nat} {a : V} (r : List V), args[i]? = some a → getL (args ++ r) i = a := by
  induction args with
  | nil => intro i a r h; simp at h
  | cons x l ih =>
    intro i a r h
    cases i with
    | zero => simpa [getL] using h
    | succ i => exact ih r (by simpa using h)
theorem getL_unb {args : List V} (k : Nat) : ∀ {i : Nat}, args.length ≤ i → getL (args ++ List.replicate k .unb) i = .unb := by
  induction args with
  | nil =>
    intro i _
    simp only [List.nil_append]
    induction k generalizing i with
    | zero => cases i <;> rfl
    | succ k ih => cases i with
      | zero => rfl
      | succ i => exact ih (Nat.zero_le _)
  | cons x l ih =>
    intro i h
    cases i with
    | zero => simp at h
    | succ i => exact ih (by simpa using h)

structure Def (cx : Cx) (f : Addr) (ps : List Str) (body : List Stmt) (scope : Scope) : Prop where
  fd : ∃ o fd, cx.base.get? f = some o ∧ o.data = .func fd ∧ fd.body = .stmts body ∧ fd.scope = scope ∧ fd.globals = mainGlobals ∧ fd.builtins = builtinsNs ∧ fd.closure = [] ∧ cx.base.CodeRec fd.code fd.qualname ∧
    ∀ vs : List Value, vs.length = ps.length → bindArgs fd ⟨vs, []⟩ = pure (ps.zip vs)
  kind : scope.kind = .function
  co : scope.isCoroutine = false
  gen : scope.isGenerator = false

noncomputable def namesFit (scope : Scope) (nm : List Str) : Bool := nm.all fun x => scope.names.lookup x == some .local || scope.names.lookup x == some .cell

theorem call_intro (C : cx.OK) (TO : T.OK cx) {f : Addr} {ps rest : List Str} {body : List Stmt} {scope : Scope} (D : Def cx f ps body scope) {ms : MSs} (hnd : (ps ++ rest).Nodup) (hfit : namesFit scope (ps ++ rest) = true)
    (hcomp : chkSs T ms scope ((ps ++ rest).map some) body = true) {args : List V} (hlen : args.length = ps.length) {H : HP} {Q : V → HP → Prop}
    (h : mwpSs cx n ms (args ++ List.replicate rest.length .unb) H (fun _ H' => ∃ H₂, LE H₂ H' ∧ Q .none H₂) (fun v H' => ∃ H₂, LE H₂ H' ∧ Q v H₂)) : CallP cx (n + 1) f args H Q := by
  intro A s vs hA S hvs
  obtain ⟨o, fd, ho, hd, hb, hsc, hgl, hbi, hcl, hcode, hbind⟩ := D.fd
  have hlv : vs.length = ps.length := by rw [← hlen, ← hvs]; simp
  have hd1 := hA.depth
  have hu1 := hA.units
  refine codeAny_call_function (by unfold recursionLimit; omega) (S.ext _ _ ho) hd (by rw [hsc]; exact D.co) (by rw [hsc]; exact D.gen) hb (hcode.keeps S.ext) ?_
  rw [hbind vs hlv]
  refine wpAny_pure ?_
  rw [hcl, hsc]
  have hkinds : ∀ x ∈ ps ++ rest, scope.names.lookup x = some .local ∨ scope.names.lookup x = some .cell := fun x hx => by
    have := List.all_eq_true.mp hfit x hx
    simpa using this
  have hcells : ∀ x, scope.names.lookup x = some .cell → ∃ c, (cellsFrom (s.heap.objs.size + 1) scope.names []).lookup x = some c := fun x hx => by
    obtain ⟨c, hc⟩ := cells_mem scope.names (s.heap.objs.size + 1) [] (.inl (lookup_mem hx))
    exact lookup_of_mem hc
  refine wpAny_newFunctionEnv_cells D.kind (fun p hp => ?_) fun env he s' B => ?_
  · have hx := hkinds p.1 (List.mem_append_left _ (List.of_mem_zip hp).1)
    rcases hx with hx | hx
    · exact .inl hx
    · obtain ⟨c, hc⟩ := hcells p.1 hx
      exact .inr ⟨hx, by rw [hc]; rfl⟩
  · obtain ⟨hh, tk, hs'⟩ := B.toInCall.same
    have keep := B.toInCall.keep
    refine ⟨(C.nolimit.keeps S.ext).keeps keep, codeAny_func ?_⟩
    subst he
    generalize henv : newEnv scope s.heap.objs.size fd.globals (cellsFrom (s.heap.objs.size + 1) scope.names []) (fd.qualname ++ ".<locals>.") (some f) fd.code none fd.builtins = env at B ⊢
    have e1 : env.scope = scope := by rw [← henv]; rfl
    have e2 : env.locals = s.heap.objs.size := by rw [← henv]; rfl
    have e3 : env.cells = cellsFrom (s.heap.objs.size + 1) scope.names [] := by rw [← henv]; rfl
    have e4 : env.globals = mainGlobals := by rw [← henv]; exact hgl
    have e5 : env.builtins = builtinsNs := by rw [← henv]; exact hbi
    have hnew : ∀ a : Nat, s.heap.objs.size ≤ a → s.heap.get? a = none := fun a ha => by
      cases e : s.heap.get? a with
      | none => rfl
      | some o => exact absurd (Heap.lt_size e) (Nat.not_lt.mpr ha)
    have hownnew : ∀ a, (⟨env, (ps ++ rest).map some⟩ : Fm).own a → s.heap.get? a = none := fun a q => by
      rcases q with q | ⟨x, q⟩
      · rw [q]; show s.heap.get? env.locals = none; rw [e2]; exact hnew _ (Nat.le_refl _)
      · have := B.above x a (lookup_mem q)
        rw [e2] at this
        exact hnew a (Nat.le_of_lt this)
    have W : Fm.OK cx ⟨env, (ps ++ rest).map some⟩ := by
      refine ⟨by rw [e1]; exact D.kind, e4, e5, fun x c hm e => ?_, fun x y c h1 h2 => ?_, fun i j x h1 h2 => ?_, fun a q => S.base_none (hownnew a q), fun x hx => ?_⟩
      · exact absurd (B.above x c (lookup_mem hm)) (by rw [e]; exact Nat.lt_irrefl _)
      · exact pairwise_inj B.apart (lookup_mem h1) (lookup_mem h2)
      · rw [List.getElem?_map, Option.map_eq_some_iff] at h1 h2
        obtain ⟨y, a1, a2⟩ := h1
        obtain ⟨z, b1, b2⟩ := h2
        cases a2; cases b2
        exact (List.getElem?_inj (List.getElem?_eq_some_iff.mp a1).1 hnd).mp (a1.trans b1.symm)
      · show ∃ c, env.cells.lookup x = some c
        rw [e3]; refine hcells x ?_
        have hx' : env.scope.names.lookup x = some .cell := hx
        rw [e1] at hx'; exact hx'
    have S' : SR cx ⟨env, (ps ++ rest).map some⟩ H (args ++ List.replicate rest.length .unb) s' := by
      have hs0 : HS cx H s' := ⟨fun a o e => (S.hr a o e).keep (keep a), fun b o e => keep b o (S.ext b o e), S.low⟩
      refine ⟨hs0, ⟨by simp [hlen], fun a q => ?_, ⟨_, B.toInCall.ns⟩, fun i x hi => ?_⟩, fun a o e q => ?_⟩
      · rcases q with q | ⟨x, q⟩
        · obtain ⟨o, _, _, e, _⟩ := B.toInCall.ns
          exact ⟨o, by rw [q]; exact e⟩
        · obtain ⟨o, e, _⟩ := B.cell x a q
          exact ⟨o, e⟩
      · rw [List.getElem?_map, Option.map_eq_some_iff] at hi
        obtain ⟨y, a1, a2⟩ := hi
        cases a2
        have hx := hkinds x (List.mem_of_getElem? a1)
        have hk : env.kindOf x = scope.names.lookup x := by show env.scope.names.lookup x = _; rw [e1]
        by_cases hip : i < ps.length
        · rw [List.getElem?_append_left hip] at a1
          have hiv : i < vs.length := by rw [hlv]; exact hip
          have hv : vs[i]? = some vs[i] := List.getElem?_eq_getElem hiv
          have hg : getL (args ++ List.replicate rest.length .unb) i = abs vs[i] := getL_args _ (by rw [← hvs, List.getElem?_map, hv]; rfl)
          obtain ⟨b1, b2⟩ := bind_at env.kindOf ps vs (fun _ => none) i x vs[i] (List.nodup_append.mp hnd).1 a1 hv
          rcases hx with hx | hx
          · exact ⟨some vs[i], .inl ⟨by rw [hk]; exact hx, _, B.toInCall.ns, b1 (by rw [hk]; exact hx)⟩, .inr ⟨_, rfl, hg.symm⟩⟩
          · obtain ⟨c, hc⟩ := hcells x hx
            have hc' : env.cells.lookup x = some c := by rw [e3]; exact hc
            exact ⟨some vs[i], .inr ⟨by rw [hk]; exact hx, c, hc', b2 (by rw [hk, hx]; simp) ▸ B.cell x c hc'⟩, .inr ⟨_, rfl, hg.symm⟩⟩
        · have hg : getL (args ++ List.replicate rest.length .unb) i = .unb := getL_unb _ (by rw [hlen]; exact Nat.le_of_not_lt hip)
          rcases hx with hx | hx
          · exact ⟨_, .inl ⟨by rw [hk]; exact hx, _, B.toInCall.ns, rfl⟩, .inl hg⟩
          · obtain ⟨c, hc⟩ := hcells x hx
            have hc' : env.cells.lookup x = some c := by rw [e3]; exact hc
            exact ⟨_, .inr ⟨by rw [hk]; exact hx, c, hc', B.cell x c hc'⟩, .inl hg⟩
      · obtain ⟨ob, e'⟩ := (S.hr a o e).get
        rw [hownnew a q] at e'; cases e'
    have hA' : AOK (A.deeper env) n := by
      obtain ⟨l, hl⟩ := hA.frames
      refine ⟨⟨hA.handled, by show A.depth + 1 + n < 850; omega, by show A.units + 3 + 16 * n < 9000; omega, ⟨env :: l, by show A.frames.map (env :: ·) = _; rw [hl]; rfl⟩⟩, env, l, by show A.frames.map (env :: ·) = _; rw [hl]; rfl, by rw [e1]; exact D.gen, by rw [e1]; exact D.co, e5, e4⟩
    refine wpAny_mono (sSs (fm := ⟨env, (ps ++ rest).map some⟩) C TO hA' W ms body (by show chkSs T ms env.scope _ body = _; rw [e1]; exact hcomp) _ H _ s' _ _ S' h) (fun fl s₁ q => ?_) fun _ _ e => e
    obtain ⟨H₁, μ₁, S₁, k₁, h₁⟩ := q
    have kk : ∀ H₂, LE H₂ H₁ → KE s H s₁ H₂ := fun H₂ le => by
      have k2 := k₁.le le
      have hno : ∀ b o, s.heap.get? b = some o → ¬ (⟨env, (ps ++ rest).map some⟩ : Fm).own b := fun b o e q => by rw [hownnew b q] at e; cases e
      refine ⟨fun b o e hn _ => k2.keep b o (keep b o e) hn (hno b o e), fun a o e hn _ => k2.dom a o (keep a o e) hn (hno a o e), ?_, ?_⟩
      · rw [k2.os, hs']
      · rw [k2.gens, hs']
    cases fl with
    | next =>
      obtain ⟨H₂, le, hq⟩ := h₁
      exact ⟨.none, H₂, rfl, S₁.toHS.le le, kk H₂ le, hq⟩
    | ret v =>
      obtain ⟨H₂, le, hq⟩ := h₁
      exact ⟨v, H₂, rfl, S₁.toHS.le le, kk H₂ le, hq⟩
    | brk => exact h₁.elim
    | cont => exact h₁.elim
end
end Mine
end

section
namespace Mine
open PySem PyProof.Rows

section
variable {cx : Cx} {n : Nat}

theorem CallP.mono {f : Addr} {args : List V} {H : HP} {Q Q' : V → HP → Prop} (h : CallP cx n f args H Q) (q : ∀ v H, Q v H → Q' v H) : CallP cx n f args H Q' :=
  fun A s vs hA S e => codeAny_mono (h A s vs hA S e) fun _ _ ⟨v, H', a, b, c, d⟩ => ⟨v, H', a, b, c, q _ _ d⟩
theorem new_mono {H : HP} {o : O} {Q Q' : V → HP → Prop} (h : new cx H o Q) (q : ∀ v H, Q v H → Q' v H) : new cx H o Q' := fun r hr => q _ _ (h r hr)
theorem TruthP_mono {v : V} {Q Q' : Bool → Prop} (h : TruthP v Q) (q : ∀ b, Q b → Q' b) : TruthP v Q' := by
  cases v <;> first | exact q _ h | exact False.elim h
theorem binP_mono {op : Operator} {a b : V} {H : HP} {Q Q' : V → HP → Prop} (h : binP cx op a b H Q) (q : ∀ v H, Q v H → Q' v H) : binP cx op a b H Q' := by
  cases op with
  | Add => cases a with
    | int => exact onI_mono h fun _ h => q _ _ h
    | ref => exact onR_mono h fun _ h => onO_mono h fun _ h => onO_mono h fun _ h => ⟨h.1, new_mono h.2 q⟩
    | _ => exact False.elim h
  | Mult => cases a with
    | int => exact onI_mono h fun _ h => ⟨h.1, q _ _ h.2⟩
    | ref => exact onI_mono h fun _ h => onO_mono h fun _ h => ⟨h.1, h.2.1, h.2.2.1, new_mono h.2.2.2 q⟩
    | _ => exact False.elim h
  | Sub => exact onI_mono h fun _ h => onI_mono h fun _ h => q _ _ h
  | FloorDiv => exact onI_mono h fun _ h => onI_mono h fun _ h => ⟨h.1, q _ _ h.2⟩
  | Mod => exact onI_mono h fun _ h => onI_mono h fun _ h => ⟨h.1, q _ _ h.2⟩
  | Pow => exact onI_mono h fun _ h => onI_mono h fun _ h => ⟨h.1, h.2.1, q _ _ h.2.2⟩
  | _ => exact False.elim h
theorem callbP_mono {b : BF} {as : List V} {H : HP} {Q Q' : V → HP → Prop} (h : callbP cx b as H Q) (q : ∀ v H, Q v H → Q' v H) : callbP cx b as H Q' := by
  cases b with
  | len => exact on1_mono h fun _ h => onR_mono h fun _ h => onO_mono h fun _ h => ⟨h.1, q _ _ h.2⟩
  | list => exact on1_mono h fun _ h => onR_mono h fun _ h => onO_mono h fun _ h => ⟨h.1, new_mono h.2 q⟩
  | min => exact on2_mono h fun _ _ h => onI_mono h fun _ h => onI_mono h fun _ h => q _ _ h
theorem methP_mono {o : V} {m : Mth} {as : List V} {H : HP} {Q Q' : V → HP → Prop} (h : methP o m as H Q) (q : ∀ v H, Q v H → Q' v H) : methP o m as H Q' := by
  cases m with
  | append => exact onR_mono h fun _ h => onHL_mono h fun _ h => on1_mono h fun _ h => ⟨h.1, q _ _ h.2⟩
  | pop => cases as with
    | nil => exact onR_mono h fun _ h => onHL_mono h fun _ h => onO_mono h fun _ h => ⟨h.1, q _ _ h.2⟩
    | cons => exact onR_mono h fun _ h => onHL_mono h fun _ h => False.elim h
theorem CompP_mono {items : List V} {st : HP → Prop} {H : HP} {turn : V → HP → (Option V → HP → Prop) → Prop} {Q Q' : V → HP → Prop} (h : CompP cx items st H turn Q) (q : ∀ v H, Q v H → Q' v H) : CompP cx items st H turn Q' := by
  obtain ⟨a, I, b, c, d, e⟩ := h
  exact ⟨a, I, b, c, d, fun acc H₁ hi => new_mono (e acc H₁ hi) q⟩

mutual
theorem mwpE_mono : ∀ (e : ME) {μ : List V} {H : HP} {Q Q' : V → HP → Prop}, mwpE cx n e μ H Q → (∀ v H, Q v H → Q' v H) → mwpE cx n e μ H Q'
  | .cint _, _, _, _, _, h, q => q _ _ h
  | .cbool _, _, _, _, _, h, q => q _ _ h
  | .cnone, _, _, _, _, h, q => q _ _ h
  | .cstr _, _, _, _, _, h, q => q _ _ h
  | .loc _, _, _, _, _, h, q => ⟨h.1, q _ _ h.2⟩
  | .bin _ l r, _, _, _, _, h, q => mwpE_mono l h fun _ _ h => mwpE_mono r h fun _ _ h => binP_mono h q
  | .not e, _, _, _, _, h, q => mwpE_mono e h fun _ _ h => TruthP_mono h fun _ h => q _ _ h
  | .cmp l _ r, _, _, _, _, h, q => mwpE_mono l h fun _ _ h => mwpE_mono r h fun _ _ h => onO_mono h fun _ h => q _ _ h
  | .bop _ es, _, _, _, _, h, q => mwpB_mono es h q
  | .callf _ as, _, _, _, _, h, q => mwpEs_mono as h fun _ _ h => h.mono q
  | .callb _ as, _, _, _, _, h, q => mwpEs_mono as h fun _ _ h => callbP_mono h q
  | .isi e _, _, _, _, _, h, q => mwpE_mono e h fun _ _ h => onO_mono h fun _ h => q _ _ h
  | .meth o _ as, _, _, _, _, h, q => mwpE_mono o h fun _ _ h => ⟨h.1, mwpEs_mono as h.2 fun _ _ h => methP_mono h q⟩
  | .sub o i, _, _, _, _, h, q => mwpE_mono o h fun _ _ h => mwpE_mono i h fun _ _ h => onR_mono h fun _ h => onI_mono h fun _ h => onO_mono h fun _ h => ⟨h.1, h.2.1, onO_mono h.2.2 fun _ h => q _ _ h⟩
  | .slice o l u, _, _, _, _, h, q => mwpE_mono o h fun _ _ h => mwpE_mono l h fun _ _ h => mwpE_mono u h fun _ _ h => onR_mono h fun _ h => onSq_mono h (fun _ h => onO_mono h fun _ h => onO_mono h fun _ h => ⟨h.1, new_mono h.2 q⟩) fun _ h => ⟨h.1, onI_mono h.2 fun _ h => ⟨h.1, h.2.1, h.2.2.1, new_mono h.2.2.2 q⟩⟩
  | .list es, _, _, _, _, h, q => mwpEs_mono es h fun _ _ h => ⟨h.1, new_mono h.2 q⟩
  | .tup es, _, _, _, _, h, q => mwpEs_mono es h fun _ _ h => ⟨h.1, new_mono h.2 q⟩
  | .comp _ it _, _, _, _, _, h, q => mwpE_mono it h fun _ _ h => onR_mono h fun _ h => onHL_mono h fun _ h => ⟨h.1, CompP_mono h.2 q⟩
  | .compR _ a b _, _, _, _, _, h, q => mwpE_mono a h fun _ _ h => mwpE_mono b h fun _ _ h => onI_mono h fun _ h => onI_mono h fun _ h => ⟨h.1, h.2.1, CompP_mono h.2.2 q⟩
  | .neg e, _, _, _, _, h, q => mwpE_mono e h fun _ _ h => onI_mono h fun _ h => q _ _ h
  | .cmp2 l _ m _ r, _, _, _, _, h, q => mwpE_mono l h fun _ _ h => mwpE_mono m h fun _ _ h => onO_mono h fun _ h => ⟨fun c => mwpE_mono r (h.1 c) fun _ _ h => onO_mono h fun _ h => q _ _ h, fun c => q _ _ (h.2 c)⟩
  | .ife c t e, _, _, _, _, h, q => mwpE_mono c h fun _ _ h => TruthP_mono h fun _ h => ⟨fun b => mwpE_mono t (h.1 b) q, fun b => mwpE_mono e (h.2 b) q⟩
  | .gint _, _, _, _, _, h, q => q _ _ h
  | .attr _ _ _, _, _, _, _, h, q => ⟨h.1, onR_mono h.2 fun _ h => onIn_mono h fun _ h => onFl_mono h fun _ h => onO_mono h fun _ h => ⟨h.1, q _ _ h.2⟩⟩
  | .callm _ _ _ _ as, _, _, _, _, h, q => ⟨h.1, h.2.1, mwpEs_mono as h.2.2 fun _ _ h => h.mono q⟩
  | .mk _ _ as, _, _, _, _, h, q => mwpEs_mono as h fun _ _ h => ⟨h.1, fun dx hd x hx => (h.2 dx hd x hx).mono fun _ _ h => ⟨h.1, q _ _ h.2⟩⟩
theorem mwpEs_mono : ∀ (es : MEs) {μ : List V} {H : HP} {Q Q' : List V → HP → Prop}, mwpEs cx n es μ H Q → (∀ v H, Q v H → Q' v H) → mwpEs cx n es μ H Q'
  | .nil, _, _, _, _, h, q => q _ _ h
  | .cons e es, _, _, _, _, h, q => mwpE_mono e h fun _ _ h => mwpEs_mono es h fun _ _ h => q _ _ h
theorem mwpB_mono {op : BoolOp} : ∀ (es : MEs) {μ : List V} {H : HP} {Q Q' : V → HP → Prop}, mwpB cx n op es μ H Q → (∀ v H, Q v H → Q' v H) → mwpB cx n op es μ H Q'
  | .nil, _, _, _, _, h, _ => False.elim h
  | .cons e .nil, _, _, _, _, h, q => mwpE_mono e h q
  | .cons e (.cons e' es), _, _, _, _, h, q => mwpE_mono e h fun _ _ h => TruthP_mono h fun _ h => ⟨fun b => mwpB_mono (.cons e' es) (h.1 b) q, fun b => q _ _ (h.2 b)⟩
end
theorem ForP_mono {items : List V} {st : HP → Prop} {μ : List V} {H : HP} {turn turn' : V → List V → HP → (List V → HP → Prop) → Prop} {N N' : List V → HP → Prop} (h : ForP items st μ H turn N)
    (ht : ∀ x μ H K, turn x μ H K → turn' x μ H K) (q : ∀ v H, N v H → N' v H) : ForP items st μ H turn' N' := by
  obtain ⟨I, b, c, d, e⟩ := h
  exact ⟨I, b, c, fun done x rest μ H hi hI => ht _ _ _ _ (d done x rest μ H hi hI), fun μ H hI => q _ _ (e μ H hI)⟩

mutual
theorem mwpS_mono : ∀ (s : MS) {μ : List V} {H : HP} {N N' : List V → HP → Prop} {R R' : V → HP → Prop}, mwpS cx n s μ H N R → (∀ v H, N v H → N' v H) → (∀ v H, R v H → R' v H) → mwpS cx n s μ H N' R'
  | .assign _ e, _, _, _, _, _, _, h, q, _ => mwpE_mono e h fun _ _ h => q _ _ h
  | .setSub o i v, _, _, _, _, _, _, h, q, _ => mwpE_mono v h fun _ _ h => mwpE_mono o h fun _ _ h => mwpE_mono i h fun _ _ h => onR_mono h fun _ h => onI_mono h fun _ h => onHL_mono h fun _ h => ⟨h.1, h.2.1, h.2.2.1, q _ _ h.2.2.2⟩
  | .expr e, _, _, _, _, _, _, h, q, _ => mwpE_mono e h fun _ _ h => q _ _ h
  | .ite c t e, _, _, _, _, _, _, h, q, r => mwpE_mono c h fun _ _ h => TruthP_mono h fun _ h => ⟨fun b => mwpSs_mono t (h.1 b) q r, fun b => mwpSs_mono e (h.2 b) q r⟩
  | .for_ _ it body, _, _, _, _, _, _, h, q, r => mwpE_mono it h fun _ _ h => onR_mono h fun _ h => onHL_mono h fun _ h => ⟨h.1, ForP_mono h.2 (fun _ _ _ _ h => mwpSs_mono body h (fun _ _ h => h) r) q⟩
  | .forR _ a b body, _, _, _, _, _, _, h, q, r => mwpE_mono a h fun _ _ h => mwpE_mono b h fun _ _ h => onI_mono h fun _ h => onI_mono h fun _ h => ⟨h.1, h.2.1, ForP_mono h.2.2 (fun _ _ _ _ h => mwpSs_mono body h (fun _ _ h => h) r) q⟩
  | .while_ c body, _, _, _, _, _, _, h, q, r =>
    let ⟨I, h0, h1⟩ := h
    ⟨I, h0, fun k μ H hI => mwpE_mono c (h1 k μ H hI) fun _ _ h => TruthP_mono h fun _ h => ⟨fun b => mwpSs_mono body (h.1 b) (fun _ _ h => h) r, fun b => q _ _ (h.2 b)⟩⟩
  | .ret e, _, _, _, _, _, _, h, _, r => mwpE_mono e h r
  | .setAttr _ _ _ e, _, _, _, _, _, _, h, q, _ => mwpE_mono e h fun _ _ h => ⟨h.1, onR_mono h.2 fun _ h => onIn_mono h fun _ h => onFl_mono h fun _ h => ⟨h.1, q _ _ h.2⟩⟩
  | .raise_, _, _, _, _, _, _, h, _, _ => False.elim h
  | .retN, _, _, _, _, _, _, h, _, r => r _ _ h
theorem mwpSs_mono : ∀ (s : MSs) {μ : List V} {H : HP} {N N' : List V → HP → Prop} {R R' : V → HP → Prop}, mwpSs cx n s μ H N R → (∀ v H, N v H → N' v H) → (∀ v H, R v H → R' v H) → mwpSs cx n s μ H N' R'
  | .nil, _, _, _, _, _, _, h, q, _ => q _ _ h
  | .cons s r, _, _, _, _, _, _, h, q, rr => mwpS_mono s h (fun _ _ h => mwpSs_mono r h q rr) rr
end

theorem S_cons {s : MS} {r : MSs} {μ : List V} {H : HP} {N : List V → HP → Prop} {R : V → HP → Prop} (h : mwpS cx n s μ H (fun μ H => mwpSs cx n r μ H N R) R) : mwpSs cx n (.cons s r) μ H N R := h
theorem S_nil {μ : List V} {H : HP} {N : List V → HP → Prop} {R : V → HP → Prop} (h : N μ H) : mwpSs cx n .nil μ H N R := h
theorem S_cut {s : MS} {r : MSs} {μ : List V} {H : HP} {N : List V → HP → Prop} {R : V → HP → Prop} (P : List V → HP → Prop) (h : mwpS cx n s μ H P R) (h2 : ∀ μ' H', P μ' H' → mwpSs cx n r μ' H' N R) : mwpSs cx n (.cons s r) μ H N R :=
  mwpS_mono s h h2 fun _ _ h => h
end
end Mine
end

namespace Mine
open PySem PyProof.Rows

section
variable {cx : Cx} {H H' : HP} {n : Nat} {a r : Addr} {o : O} {Q : V → HP → Prop}

theorem lk_same : lk cx (upd H r o) r = some o := by simp [lk, upd_same]
theorem lk_ne (h : a ≠ r) : lk cx (upd H r o) a = lk cx H a := by simp [lk, upd_ne _ h]
theorem Fresh.lk_none (hr : Fresh cx H r) : lk cx H r = none := by simp [lk, hr.1, hr.2.2]
theorem Fresh.ne (hr : Fresh cx H r) {o : O} (h : lk cx H a = some o) : a ≠ r := fun e => by subst e; rw [hr.lk_none] at h; cases h
theorem Fresh.ne' (hr : Fresh cx H r) {o : O} (h : H a = some o) : a ≠ r := fun e => by subst e; rw [hr.1] at h; cases h
theorem lk_fresh (hr : Fresh cx H r) {o' : O} (h : lk cx H a = some o') : lk cx (upd H r o) a = some o' := by rw [lk_ne (hr.ne h)]; exact h
theorem lk_of (h : H a = some o) : lk cx H a = some o := by simp [lk, h]

noncomputable def RQ (Q : V → HP → Prop) : V → HP → Prop := fun v H' => ∃ H₂, LE H₂ H' ∧ Q v H₂
noncomputable def NQ (Q : V → HP → Prop) : List V → HP → Prop := fun _ H' => ∃ H₂, LE H₂ H' ∧ Q .none H₂
theorem RQ.here {v : V} (h : Q v H) : RQ Q v H := ⟨H, LE.refl H, h⟩

noncomputable def m_told_by : MSs :=
  (.cons (.ret (.bin .FloorDiv (.loc 0) (.cint (2))))
  .nil)
noncomputable def m_law_at : MSs :=
  (.cons (.ret (.sub (.bin .Add (.slice (.loc 0) (.loc 1) (.bin .Add (.loc 1) (.cint (1)))) (.list (.cons (.cint (0)) .nil))) (.cint (0))))
  .nil)

noncomputable def m_law_is_int : MSs :=
  (.cons (.ret (.bop .And (.cons (.isi (.loc 0) "int") (.cons (.cmp (.loc 0) .IsNot (.cbool true)) (.cons (.cmp (.loc 0) .IsNot (.cbool false)) .nil)))))
  .nil)

noncomputable def m_law_number : MSs :=
  (.cons (.ite (.cmp (.bin .Mod (.loc 0) (.cint (5))) .Lt (.cint (3))) (.cons (.ret (.bin .Sub (.bin .Mod (.bin .FloorDiv (.loc 0) (.cint (5))) (.cint (41))) (.cint (20))))
    .nil) .nil)
  (.cons (.ite (.cmp (.bin .Mod (.loc 0) (.cint (5))) .Eq (.cint (3))) (.cons (.ret (.sub (.list (.cons (.bin .Sub (.bin .Pow (.cint (10)) (.cint (60))) (.cint (1))) (.cons (.bin .Sub (.cint (1)) (.bin .Pow (.cint (10)) (.cint (60)))) (.cons (.bin .Pow (.cint (10)) (.cint (30))) (.cons (.cint (0)) .nil))))) (.bin .Mod (.bin .FloorDiv (.loc 0) (.cint (5))) (.cint (4)))))
    .nil) .nil)
  (.cons (.ret (.bin .Sub (.bin .Mod (.bin .Mult (.bin .FloorDiv (.loc 0) (.cint (5))) (.bin .Pow (.cint (48271)) (.cint (12)))) (.bin .Sub (.bin .Mult (.cint (2)) (.bin .Pow (.cint (10)) (.cint (60)))) (.cint (1)))) (.bin .Sub (.bin .Pow (.cint (10)) (.cint (60))) (.cint (1)))))
  .nil)))


theorem bopAA : (BoolOp.And == BoolOp.And) = true := rfl
theorem bopAO : (BoolOp.And == BoolOp.Or) = false := rfl
theorem bopOA : (BoolOp.Or == BoolOp.And) = false := rfl
theorem bopOO : (BoolOp.Or == BoolOp.Or) = true := rfl
section
variable (a b : Int) (x y : Addr) (u v : Bool) (s t : Str) (w l h : V)

theorem bin_add : binP cx .Add (.int a) (.int b) H Q = Q (.int (a + b)) H := rfl
theorem bin_sub : binP cx .Sub (.int a) (.int b) H Q = Q (.int (a - b)) H := rfl
theorem bin_mul : binP cx .Mult (.int a) (.int b) H Q = (IntMulOk a b ∧ Q (.int (a * b)) H) := rfl
theorem bin_div : binP cx .FloorDiv (.int a) (.int b) H Q = (b ≠ 0 ∧ Q (.int (a.fdiv b)) H) := rfl
theorem bin_mod : binP cx .Mod (.int a) (.int b) H Q = (b ≠ 0 ∧ Q (.int (a.fmod b)) H) := rfl
theorem bin_pow : binP cx .Pow (.int a) (.int b) H Q = (0 ≤ b ∧ (Builtin.Int.intBits a : Int) * b ≤ 2 ^ 27 ∧ Q (.int (a ^ b.toNat)) H) := rfl
theorem bin_cat : binP cx .Add (.ref x) (.ref y) H Q = onO (lst cx H x) fun xs => onO (lst cx H y) fun ys => xs.length + ys.length ≤ 16777216 ∧ new cx H (.list (xs ++ ys)) Q := rfl
theorem bin_rep : binP cx .Mult (.ref x) (.int a) H Q = onO (lst cx H x) fun xs => -16777216 < a ∧ a < 16777216 ∧ xs.length * a.toNat ≤ 16777216 ∧ new cx H (.list (List.replicate a.toNat xs).flatten) Q := rfl
theorem cm_lt : cmpP cx .Lt (.int a) (.int b) H = some (decide (a < b)) := rfl
theorem cm_le : cmpP cx .LtE (.int a) (.int b) H = some (decide (a ≤ b)) := rfl
theorem cm_gt : cmpP cx .Gt (.int a) (.int b) H = some (decide (b < a)) := rfl
theorem cm_eq : cmpP cx .Eq (.int a) (.int b) H = some (a == b) := rfl
theorem cm_ne : cmpP cx .NotEq (.int a) (.int b) H = some (a != b) := rfl
theorem cm_eqs : cmpP cx .Eq (.str s) (.str t) H = some (s == t) := rfl
theorem cm_nes : cmpP cx .NotEq (.str s) (.str t) H = some (!(s == t)) := rfl
theorem cm_eqb : cmpP cx .Eq (.bool u) (.bool v) H = some (u == v) := rfl
theorem cm_neb : cmpP cx .NotEq (.bool u) (.bool v) H = some (!(u == v)) := rfl
theorem cm_is2 : cmpP cx .IsNot (.int a) (.bool v) H = some true := rfl
theorem cm_ni : cmpP cx .NotIn (.int a) (.ref x) H = (sq cx H x).bind fun vs => (asInts vs).map fun l => !l.contains a := rfl
theorem is_ii : isiP H (.int a) "int" = some true := rfl
theorem is_ib : isiP H (.int a) "bool" = some false := rfl
theorem is_rl : isiP H (.ref x) "list" = (match H x with | some (.list _) => some true | some (.tup _) => none | _ => none) := rfl
theorem is_rt : isiP H (.ref x) "tuple" = (match H x with | some (.list _) => none | some (.tup _) => some true | _ => none) := rfl
theorem tr_b (P : Bool → Prop) : TruthP (.bool u) P = P u := rfl
theorem rn_i (P : List V → Prop) : RngP (.int a) (.int b) P = ((-1152921504606846976 < a ∧ a < 1152921504606846976) ∧ (-1152921504606846976 < b ∧ b < 1152921504606846976) ∧ P (intsV (rangeL a b))) := rfl
theorem cb_len : callbP cx .len [.ref x] H Q = onO (sq cx H x) fun vs => vs.length ≤ 16777216 ∧ Q (.int vs.length) H := rfl
theorem cb_list : callbP cx .list [.ref x] H Q = onO (sq cx H x) fun vs => vs.length ≤ 16777216 ∧ new cx H (.list vs) Q := rfl
theorem cb_min : callbP cx .min [.int a, .int b] H Q = Q (.int (if b < a then b else a)) H := rfl
theorem on_i (P : Int → Prop) : onI (.int a) P = P a := rfl
theorem mt_app : methP (.ref x) .append [w] H Q = onHL (H x) fun vs => vs.length ≤ 16777216 ∧ Q .none (upd H x (.list (vs ++ [w]))) := rfl
theorem mt_pop : methP (.ref x) .pop [] H Q = onHL (H x) fun vs => onO vs.getLast? fun v => vs.length ≤ 16777216 ∧ Q v (upd H x (.list vs.dropLast)) := rfl
theorem la_r : listAt (.ref x) H = onHL (H x) fun _ => True := rfl
theorem su_i : subP cx (.ref x) (.int a) H Q = onO (sq cx H x) fun vs => 0 ≤ a ∧ vs.length ≤ 16777216 ∧ onO vs[a.toNat]? fun v => Q v H := rfl
theorem sl_i : sliceP cx (.ref x) l h H Q = onSq (lk cx H x) (fun vs => onO (cutLo vs.length l) fun l => onO (cutHi vs.length h) fun h => vs.length ≤ 16777216 ∧ new cx H (.list (cut vs l h)) Q)
    fun vs => h = .none ∧ onI l fun i => 1 ≤ i ∧ i.toNat ≤ vs.length ∧ vs.length ≤ 16777216 ∧ new cx H (.tup (vs.drop i.toNat)) Q := rfl
theorem sb_i (P : HP → Prop) : setSubP (.ref x) (.int a) w H P = onHL (H x) fun vs => 0 ≤ a ∧ vs.length ≤ 16777216 ∧ a.toNat < vs.length ∧ P (upd H x (.list (vs.set a.toNat w))) := rfl
theorem it_r (P : List V → (HP → Prop) → HP → Prop) : IterP cx (.ref x) H P = onHL (lk cx H x) fun vs => vs.length ≤ 16777216 ∧ P vs (fun H' => lk cx H' x = some (.list vs)) H := rfl
end


end
end Mine
local macro_rules | `(tactic| walk_at "st") => `(tactic| ((try dsimp only [Mine.e_cint, Mine.e_cbool, Mine.e_cnone, Mine.e_cstr, Mine.e_loc, Mine.e_bin, Mine.e_not, Mine.e_cmp, Mine.e_bop, Mine.e_callf, Mine.e_callb, Mine.e_isi, Mine.e_meth, Mine.e_sub, Mine.e_slice, Mine.e_list, Mine.e_tup, Mine.e_comp, Mine.e_compR, Mine.e_neg, Mine.e_cmp2, Mine.e_ife, Mine.e_gint, Mine.e_attr, Mine.e_callm, Mine.e_mk, Mine.es_nil, Mine.es_cons, Mine.b_one, Mine.b_more, Mine.s_assign, Mine.s_setSub, Mine.s_expr, Mine.s_ite, Mine.s_for, Mine.s_forR, Mine.s_ret, Mine.s_setAttr, Mine.s_raise, Mine.s_retN, Mine.getL, Mine.setL, Mine.bin_add, Mine.bin_sub, Mine.bin_mul, Mine.bin_div, Mine.bin_mod, Mine.bin_pow, Mine.bin_cat, Mine.bin_rep, Mine.cm_lt, Mine.cm_le, Mine.cm_gt, Mine.cm_eq, Mine.cm_ne, Mine.cm_eqs, Mine.cm_nes, Mine.cm_eqb, Mine.cm_neb, Mine.cm_is2, Mine.cm_ni, Mine.is_ii, Mine.is_ib, Mine.is_rl, Mine.is_rt, Mine.tr_b, Mine.rn_i, Mine.cb_len, Mine.cb_list, Mine.cb_min, Mine.mt_app, Mine.mt_pop, Mine.la_r, Mine.su_i, Mine.sl_i, Mine.sb_i, Mine.it_r, Mine.on_i, Mine.onO, Mine.onHL, Mine.onSq, Mine.sq, Mine.lst, Mine.new, List.cons_append, List.nil_append, Mine.bopAA, Mine.bopAO, Mine.bopOA, Mine.bopOO, Bool.not_true, Bool.not_false]); (try simp only [ne_eq, reduceCtorEq, not_false_eq_true, true_and, and_true, Bool.false_eq_true, Bool.true_eq_false, false_implies, true_implies, forall_const, implies_true, bne_self_eq_false, beq_self_eq_true, Bool.not_true, Bool.not_false])))
namespace Mine
open PySem PyProof.Rows
section
variable (a b : Int) (x y : Addr) (u v : Bool) (s t : Str) (w l h : V)

theorem told_ms {w : Int} (h : Q (.int (w.fdiv 2)) H) : mwpSs cx n m_told_by [.int w] H (NQ Q) (RQ Q) := by
  refine S_cons ?_
  walk_at "st"
  exact ⟨by decide, RQ.here h⟩
theorem mulOk_l {a b : Int} (h : Builtin.Int.intBits a ≤ 64) : IntMulOk a b := by
  unfold IntMulOk
  have : decide (Builtin.Int.intBits a > shortFactorBits) = false := decide_eq_false (by unfold shortFactorBits; omega)
  rw [this]; simp
theorem mulOk_r {a b : Int} (h : Builtin.Int.intBits b ≤ 64) : IntMulOk a b := by
  unfold IntMulOk
  have : decide (Builtin.Int.intBits b > shortFactorBits) = false := decide_eq_false (by unfold shortFactorBits; omega)
  rw [this]; simp
theorem ints_length (xs : List Int) : (intsV xs).length = xs.length := by simp [intsV]
theorem ints_get? (xs : List Int) (i : Nat) : (intsV xs)[i]? = xs[i]?.map V.int := by simp [intsV]
theorem ints_set (xs : List Int) (i : Nat) (v : Int) : (intsV xs).set i (.int v) = intsV (xs.set i v) := by simp [intsV, List.map_set]

theorem cutLo_nn {m : Nat} {i : Int} (h : 0 ≤ i) : cutLo m (.int i) = some (min i.toNat m) := if_pos h
theorem cutHi_nn {m : Nat} {i : Int} (h : 0 ≤ i) : cutHi m (.int i) = some (min i.toNat m) := if_pos h
theorem cut_length_le (vs : List V) (l h : Nat) : (cut vs l h).length ≤ vs.length := by simp [cut]; first | lia | omega
theorem cut_ints (xs : List Int) (l h : Nat) : cut (intsV xs) l h = intsV ((xs.take h).drop l) := by simp [cut, intsV]
theorem ints_append (xs ys : List Int) : intsV xs ++ intsV ys = intsV (xs ++ ys) := by simp [intsV]

theorem at_ms {sa : Addr} {ns : List Int} {p : Int} (hs : lk cx H sa = some (.list (intsV ns))) (hlen : ns.length ≤ 1000) (hp : 0 ≤ p)
    (hQ : ∀ v, (v ∈ ns ∨ v = 0) → Q (.int v) H) : mwpSs cx n m_law_at [.ref sa, .int p] H (NQ Q) (RQ Q) := by
  refine S_cons ?_
  walk_at "st"
  simp only [hs, ints_length, cutLo_nn hp, cutHi_nn (show 0 ≤ p + 1 from by first | with_reducible exact Int.natCast_nonneg _ | with_reducible assumption | lia | omega)]
  have hcl := cut_length_le (intsV ns) (min p.toNat ns.length) (min (p + 1).toNat ns.length)
  rw [ints_length] at hcl
  refine ⟨by first | with_reducible exact Int.natCast_nonneg _ | with_reducible assumption | lia | omega, fun r hr => ⟨by simp, fun r2 hr2 => ?_⟩⟩
  have hne : r ≠ r2 := hr2.ne lk_same
  simp only [lk_same, lk_ne hne]
  refine ⟨by simp; omega, fun r3 hr3 => ?_⟩
  refine ⟨by decide, by simp; omega, ?_⟩
  have key : ∃ v, (v ∈ ns ∨ v = 0) ∧ (cut (intsV ns) (min p.toNat ns.length) (min (p + 1).toNat ns.length) ++ [V.int 0])[(0 : Int).toNat]? = some (.int v) := by
    rw [cut_ints, show [V.int 0] = intsV [0] from rfl, ints_append]
    generalize hl : ((ns.take (min (p + 1).toNat ns.length)).drop (min p.toNat ns.length)) = l
    cases l with
    | nil => exact ⟨0, .inr rfl, rfl⟩
    | cons v l =>
      refine ⟨v, .inl ?_, rfl⟩
      have : v ∈ (ns.take (min (p + 1).toNat ns.length)).drop (min p.toNat ns.length) := by rw [hl]; exact List.mem_cons_self
      exact List.mem_of_mem_take (List.mem_of_mem_drop this)
  obtain ⟨v, hv, e⟩ := key
  rw [e]
  exact ⟨H, (LE.fresh hr.1 _).trans ((LE.fresh hr2.1 _).trans (LE.fresh hr3.1 _)), hQ v hv⟩

theorem isint_ms {v : Int} (h : Q (.bool true) H) : mwpSs cx n m_law_is_int [.int v] H (NQ Q) (RQ Q) := by
  refine S_cons ?_
  walk_at "st"
  exact RQ.here h

theorem bits_of {v : Int} {m k : Nat} (h : v.natAbs < 2 ^ k) (hk : k ≤ m) : Builtin.Int.intBits v ≤ m := Nat.le_trans (intBits_le_iff.mpr h) hk
theorem fmod_pos_bounds (a : Int) {b : Int} (hb : 0 < b) : 0 ≤ a.fmod b ∧ a.fmod b < b := ⟨Int.fmod_nonneg_of_pos a hb, Int.fmod_lt_of_pos a hb⟩

theorem number_ms {seed : Int} (hb : Builtin.Int.intBits seed ≤ 3000000) (hQ : ∀ v, Builtin.Int.intBits v ≤ 300 → Q (.int v) H) : mwpSs cx n m_law_number [.int seed] H (NQ Q) (RQ Q) := by
  refine S_cons ?_
  walk_at "st"
  refine ⟨by decide, fun h1 => S_cons ?_, fun h1 => S_nil (S_cons ?_)⟩
  · walk_at "st"
    refine ⟨by decide, by decide, RQ.here (hQ _ ?_)⟩
    have := fmod_pos_bounds (seed.fdiv 5) (b := 41) (by decide)
    exact bits_of (k := 7) (by omega) (by decide)
  · walk_at "st"
    refine ⟨by decide, fun h2 => S_cons ?_, fun h2 => S_nil (S_cons ?_)⟩
    · walk_at "st"
      refine ⟨by decide, by decide, by decide, by decide, by decide, by decide, by simp, fun r hr => ⟨by decide, by decide, ?_⟩⟩
      simp only [lk_same]
      obtain ⟨b1, b2⟩ := fmod_pos_bounds (seed.fdiv 5) (b := 4) (by decide)
      generalize (seed.fdiv 5).fmod 4 = i at b1 b2 ⊢
      refine ⟨b1, by simp, ?_⟩
      have fin : ∀ v, Builtin.Int.intBits v ≤ 300 → RQ Q (.int v) (upd H r (.list [V.int (10 ^ Int.toNat 60 - 1), V.int (1 - 10 ^ Int.toNat 60), V.int (10 ^ Int.toNat 30), V.int 0])) := fun v hv => ⟨H, LE.fresh hr.1 _, hQ v hv⟩
      obtain rfl | rfl | rfl | rfl : i = 0 ∨ i = 1 ∨ i = 2 ∨ i = 3 := by first | with_reducible exact Int.natCast_nonneg _ | with_reducible assumption | lia | omega
      · exact fin _ (by decide +kernel)
      · exact fin _ (by decide +kernel)
      · exact fin _ (by decide +kernel)
      · exact fin _ (by decide +kernel)
    · walk_at "st"
      refine ⟨by decide, by decide, by decide, ?_, by decide, by decide, ?_, ?_, by decide, by decide, RQ.here (hQ _ ?_)⟩
      · exact IntMulOk.of_le (intBits_fdiv_le hb) (show Builtin.Int.intBits (48271 ^ Int.toNat 12) ≤ 300 by decide +kernel) (by decide)
      · exact mulOk_l (by decide)
      · decide +kernel
      · have hm : (0 : Int) < 2 * 10 ^ Int.toNat 60 - 1 := by decide +kernel
        have := fmod_pos_bounds (seed.fdiv 5 * 48271 ^ Int.toNat 12) hm
        generalize (seed.fdiv 5 * 48271 ^ Int.toNat 12).fmod (2 * 10 ^ Int.toNat 60 - 1) = w at this
        have e : (10 : Int) ^ Int.toNat 60 = 1000000000000000000000000000000000000000000000000000000000000 := by decide +kernel
        rw [e] at this ⊢
        exact bits_of (k := 201) (by omega) (by decide)
end
end Mine

section
namespace Mine
open PySem PyProof.Rows

section
variable {cx : Cx} {H H' : HP} {n : Nat} {a r : Addr} {o : O} {Q : V → HP → Prop}
noncomputable def m_number_word : MSs :=
  (.cons (.ret (.bin .Mult (.cint (2)) (.loc 0)))
  .nil)
noncomputable def m_head_word : MSs :=
  (.cons (.ite (.loc 1) (.cons (.ret (.bin .Add (.bin .Mult (.cint (4)) (.loc 0)) (.cint (2))))
    .nil) .nil)
  (.cons (.ret (.bin .Mult (.cint (4)) (.loc 0)))
  .nil))
noncomputable def m_is_link : MSs :=
  (.cons (.ret (.cmp (.bin .Mod (.loc 0) (.cint (2))) .Eq (.cint (1))))
  .nil)
noncomputable def m_fields_of : MSs :=
  (.cons (.ret (.bin .FloorDiv (.loc 0) (.cint (4))))
  .nil)
noncomputable def m_is_marked : MSs :=
  (.cons (.ret (.cmp (.bin .Mod (.bin .FloorDiv (.loc 0) (.cint (2))) (.cint (2))) .Eq (.cint (1))))
  .nil)
theorem numw_ms {p : Int} (h : Q (.int (2 * p)) H) : mwpSs cx n m_number_word [.int p] H (NQ Q) (RQ Q) := by
  refine S_cons ?_
  walk_at "st"
  exact ⟨mulOk_l (by decide), RQ.here h⟩
theorem headw_ms {p : Int} {b : Bool} (h : Q (.int (4 * p + 2 * (if b then 1 else 0))) H) : mwpSs cx n m_head_word [.int p, .bool b] H (NQ Q) (RQ Q) := by
  refine S_cons ?_
  walk_at "st"
  refine ⟨fun e => S_cons ?_, fun e => S_nil (S_cons ?_)⟩
  · walk_at "st"
    subst e
    exact ⟨mulOk_l (by decide), RQ.here h⟩
  · walk_at "st"
    subst e
    refine ⟨mulOk_l (by decide), RQ.here ?_⟩
    simpa using h
theorem islink_ms {w : Int} (h : Q (.bool (w.fmod 2 == 1)) H) : mwpSs cx n m_is_link [.int w] H (NQ Q) (RQ Q) := by
  refine S_cons ?_
  walk_at "st"
  exact ⟨by decide, RQ.here h⟩
theorem fields_ms {w : Int} (h : Q (.int (w.fdiv 4)) H) : mwpSs cx n m_fields_of [.int w] H (NQ Q) (RQ Q) := by
  refine S_cons ?_
  walk_at "st"
  exact ⟨by decide, RQ.here h⟩
theorem ismarked_ms {w : Int} (h : Q (.bool ((w.fdiv 2).fmod 2 == 1)) H) : mwpSs cx n m_is_marked [.int w] H (NQ Q) (RQ Q) := by
  refine S_cons ?_
  walk_at "st"
  exact ⟨by decide, by decide, RQ.here h⟩
theorem fdiv2 (a : Int) : a.fdiv 2 = a / 2 := Int.fdiv_eq_ediv_of_nonneg _ (by decide)
theorem fdiv4 (a : Int) : a.fdiv 4 = a / 4 := Int.fdiv_eq_ediv_of_nonneg _ (by decide)
theorem fmod2 (a : Int) : a.fmod 2 = a % 2 := Int.fmod_eq_emod_of_nonneg _ (by decide)

noncomputable def AtSpec (cx : Cx) (n : Nat) (f sa : Addr) (ns : List Int) : Prop := ∀ (p : Int) (H : HP) (Q : V → HP → Prop), lk cx H sa = some (.list (intsV ns)) → 0 ≤ p → (∀ v, Builtin.Int.intBits v ≤ 1048576 → Q (.int v) H) → CallP cx n f [.ref sa, .int p] H Q
noncomputable def NumSpec (cx : Cx) (n : Nat) (f : Addr) : Prop := ∀ (s : Int) (H : HP) (Q : V → HP → Prop), Builtin.Int.intBits s ≤ 3000000 → (∀ v, Builtin.Int.intBits v ≤ 300 → Q (.int v) H) → CallP cx n f [.int s] H Q
noncomputable def WordsSpec (cx : Cx) (n : Nat) (f : Addr) : Prop := ∀ (fa da : Addr) (xs : List Int) (H : HP) (Q : V → HP → Prop), H fa = some (.list (intsV xs)) → lk cx H da = some (.list (intsV xs)) → xs.length ≤ 1000 → Q (.bool true) H → CallP cx n f [.ref fa, .ref da] H Q
noncomputable def Fn1 (cx : Cx) (n : Nat) (f : Addr) (g : Int → V) : Prop := ∀ (w : Int) (H : HP) (Q : V → HP → Prop), Q (g w) H → CallP cx n f [.int w] H Q
end
end Mine
end

section
namespace Mine

noncomputable abbrev Th := Bool × Int
noncomputable abbrev Bx := List (List Th)

noncomputable def pl (B : Bx) (k : Nat) : Nat := ((B.take k).map (fun f => 1 + f.length)).sum
theorem pl_zero (B : Bx) : pl B 0 = 0 := by simp [pl]
theorem pl_nil (k : Nat) : pl [] k = 0 := by simp [pl]
theorem pl_cons (f : List Th) (B : Bx) (k : Nat) : pl (f :: B) (k + 1) = 1 + f.length + pl B k := by simp [pl]
theorem pl_succ : ∀ {B : Bx} {k : Nat} {f : List Th}, B[k]? = some f → pl B (k + 1) = pl B k + 1 + f.length
  | [], _, _, h => by simp at h
  | g :: B, 0, f, h => by
    simp at h; subst h
    rw [pl_cons, pl_zero, pl_zero]; first | lia | omega
  | g :: B, k + 1, f, h => by
    simp at h
    rw [pl_cons, pl_cons, pl_succ h]; first | lia | omega
theorem pl_step (B : Bx) (k : Nat) : pl B k ≤ pl B (k + 1) := by
  cases h : B[k]? with
  | some f => rw [pl_succ h]; first | lia | omega
  | none =>
    have : B.length ≤ k := List.getElem?_eq_none_iff.mp h
    simp [pl, List.take_of_length_le this, List.take_of_length_le (show B.length ≤ k + 1 by first | lia | omega)]
theorem pl_mono {B : Bx} {i j : Nat} (h : i ≤ j) : pl B i ≤ pl B j := by
  induction h with
  | refl => exact Nat.le_refl _
  | step _ ih => exact Nat.le_trans ih (pl_step B _)
theorem pl_lt {B : Bx} {i j : Nat} (hi : i < B.length) (h : i < j) : pl B i < pl B j := by
  have e := pl_succ (List.getElem?_eq_getElem hi)
  have := pl_mono (B := B) (show i + 1 ≤ j from h)
  first | lia | omega
theorem pl_inj {B : Bx} {i j : Nat} (hi : i < B.length) (hj : j < B.length) (h : pl B i = pl B j) : i = j := by
  rcases Nat.lt_trichotomy i j with q | q | q
  · have := pl_lt hi q; first | lia | omega
  · exact q
  · have := pl_lt hj q; first | lia | omega
theorem pl_ne {B : Bx} {k j i : Nat} {f : List Th} (h : B[k]? = some f) (hj : j < f.length) : pl B k + 1 + j ≠ pl B i := by
  intro e
  have e2 := pl_succ h
  rcases Nat.lt_or_ge k i with q | q
  · have := pl_mono (B := B) (show k + 1 ≤ i from q); first | lia | omega
  · have := pl_mono (B := B) q; first | lia | omega

noncomputable def word (g : Nat → Nat) (t : Th) : Int := if t.1 = true then 2 * (g t.2.toNat : Int) + 1 else 2 * t.2
noncomputable def cellsOf (g : Nat → Nat) (f : List Th) : List Int := (4 * (f.length : Int)) :: f.map (word g)
noncomputable def rowOf (g : Nat → Nat) (B : Bx) : List Int := (B.map (cellsOf g)).flatten
theorem rowOf_cons (g : Nat → Nat) (f : List Th) (B : Bx) : rowOf g (f :: B) = cellsOf g f ++ rowOf g B := by simp [rowOf]
theorem cellsOf_length (g : Nat → Nat) (f : List Th) : (cellsOf g f).length = 1 + f.length := by simp [cellsOf]; first | lia | omega
theorem rowOf_length (g : Nat → Nat) : ∀ B : Bx, (rowOf g B).length = pl B B.length
  | [] => by simp [rowOf, pl]
  | f :: B => by rw [rowOf_cons, List.length_append, cellsOf_length, rowOf_length g B, List.length_cons, pl_cons]
theorem rowOf_append (g : Nat → Nat) (B C : Bx) : rowOf g (B ++ C) = rowOf g B ++ rowOf g C := by simp [rowOf]
theorem rowOf_at (g : Nat → Nat) (zs : List Int) : ∀ {B : Bx} {k : Nat} {f : List Th} (j : Nat), B[k]? = some f → j < 1 + f.length → (rowOf g B ++ zs)[pl B k + j]? = (cellsOf g f)[j]?
  | [], _, _, _, h, _ => by simp at h
  | e :: B, 0, f, j, h, hj => by
    simp at h; subst h
    rw [pl_zero, rowOf_cons, List.append_assoc, Nat.zero_add, List.getElem?_append_left (by rw [cellsOf_length]; exact hj)]
  | e :: B, k + 1, f, j, h, hj => by
    simp at h
    rw [pl_cons, rowOf_cons, List.append_assoc, List.getElem?_append_right (by rw [cellsOf_length]; omega), cellsOf_length]
    rw [show 1 + e.length + pl B k + j - (1 + e.length) = pl B k + j from by first | lia | omega]
    exact rowOf_at g zs j h hj
theorem rowOf_head (g : Nat → Nat) (zs : List Int) {B : Bx} {k : Nat} {f : List Th} (h : B[k]? = some f) : (rowOf g B ++ zs)[pl B k]? = some (4 * (f.length : Int)) := by
  have := rowOf_at g zs 0 h (by first | lia | omega)
  simpa [cellsOf] using this
theorem rowOf_field (g : Nat → Nat) (zs : List Int) {B : Bx} {k j : Nat} {f : List Th} {t : Th} (h : B[k]? = some f) (hj : f[j]? = some t) : (rowOf g B ++ zs)[pl B k + 1 + j]? = some (word g t) := by
  have hl : j < f.length := (List.getElem?_eq_some_iff.mp hj).1
  have := rowOf_at g zs (1 + j) h (by first | lia | omega)
  rw [show pl B k + 1 + j = pl B k + (1 + j) from by first | lia | omega, this, Nat.add_comm 1 j]
  simp [cellsOf, hj]

structure Shp (B : Bx) (xs : List Int) : Prop where
  len : xs.length ≤ 1000
  hd : ∀ {k : Nat} {f : List Th}, B[k]? = some f → xs[pl B k]? = some (4 * (f.length : Int))
  fld : ∀ {k j : Nat} {f : List Th} {t : Th}, B[k]? = some f → f[j]? = some t → xs[pl B k + 1 + j]? = some (word (pl B) t)
structure WFB (B : Bx) : Prop where
  pos : 0 < B.length
  tgt : ∀ f ∈ B, ∀ t ∈ f, t.1 = true → ∃ j : Nat, t.2 = (j : Int) ∧ j < B.length
theorem shp_rowOf {B : Bx} {zs : List Int} (h : (rowOf (pl B) B ++ zs).length ≤ 1000) : Shp B (rowOf (pl B) B ++ zs) :=
  ⟨h, fun h => rowOf_head _ _ h, fun h hj => rowOf_field _ _ h hj⟩

inductive Reach (B : Bx) : Nat → Prop
  | zero : Reach B 0
  | step {k j : Nat} {f : List Th} : Reach B k → B[k]? = some f → (true, (j : Int)) ∈ f → Reach B j
theorem Reach.lt {B : Bx} (w : WFB B) {k : Nat} (h : Reach B k) : k < B.length := by
  cases h with
  | zero => exact w.pos
  | step _ hf ht =>
    obtain ⟨j, e, hj⟩ := w.tgt _ (List.mem_of_getElem? hf) _ ht rfl
    have : _ = j := Int.ofNat.inj e
    first | lia | omega

theorem nodup_bound : ∀ (n : Nat) {l : List Nat}, l.Nodup → (∀ k ∈ l, k < n) → l.length ≤ n
  | 0, l, _, h => by
    cases l with
    | nil => simp
    | cons a l => exact absurd (h a List.mem_cons_self) (by first | lia | omega)
  | n + 1, l, hn, h => by
    by_cases q : n ∈ l
    · have h1 := nodup_bound n (l := l.erase n) (hn.erase n) (fun k hk => by
        have h2 := h k (List.mem_of_mem_erase hk)
        have h3 : k ≠ n := fun e => by subst e; exact (List.Nodup.not_mem_erase hn) hk
        omega)
      rw [List.length_erase_of_mem q] at h1
      first | lia | omega
    · have := nodup_bound n hn (fun k hk => by
        have h2 := h k hk
        have h3 : k ≠ n := fun e => by subst e; exact q hk
        omega)
      first | lia | omega

noncomputable def bump (xs : List Int) (cs : List Nat) : List Int := xs.mapIdx fun i x => if i ∈ cs then x + 2 else x
theorem bump_length (xs : List Int) (cs : List Nat) : (bump xs cs).length = xs.length := by simp [bump]
theorem bump_get (xs : List Int) (cs : List Nat) (i : Nat) : (bump xs cs)[i]? = xs[i]?.map fun x => if i ∈ cs then x + 2 else x := by simp [bump]
theorem bump_nil (xs : List Int) : bump xs [] = xs := by
  apply List.ext_getElem?; intro i; rw [bump_get]; simp
theorem bump_congr (xs : List Int) {cs ds : List Nat} (h : ∀ i, i ∈ cs ↔ i ∈ ds) : bump xs cs = bump xs ds := by
  apply List.ext_getElem?; intro i; rw [bump_get, bump_get]; simp [h]
theorem bump_set {xs : List Int} {cs : List Nat} {c : Nat} {x : Int} (hx : xs[c]? = some x) : (bump xs cs).set c (x + 2) = bump xs (c :: cs) := by
  apply List.ext_getElem?; intro i
  rw [List.getElem?_set, bump_get, bump_get, bump_length]
  by_cases h : c = i
  · subst h
    have : c < xs.length := (List.getElem?_eq_some_iff.mp hx).1
    simp [this, (List.getElem?_eq_some_iff.mp hx).2]
  · have : ¬ i = c := fun e => h e.symm
    simp [h, this]

theorem getD_of {B : Bx} {k : Nat} {fl : List Th} (h : B[k]? = some fl) : B.getD k [] = fl := by simp [List.getD, h]
theorem tgt_of {B : Bx} (w : WFB B) {i f : Nat} {fi : List Th} {v : Int} (h : B[i]? = some fi) (hf : fi[f]? = some (true, v)) : ∃ j : Nat, v = (j : Int) ∧ j < B.length :=
  w.tgt _ (List.mem_of_getElem? h) _ (List.mem_of_getElem? hf) rfl
end Mine
end

section
namespace Mine

noncomputable def kl (p : Nat → Bool) (n : Nat) : List Nat := (List.range n).filter p
theorem kl_succ (p : Nat → Bool) (n : Nat) : kl p (n + 1) = kl p n ++ if p n then [n] else [] := by
  simp [kl, List.range_succ, List.filter_append, List.filter_cons]
theorem kl_mem {p : Nat → Bool} {n x : Nat} : x ∈ kl p n ↔ x < n ∧ p x = true := by simp [kl]
theorem kl_sorted (p : Nat → Bool) (n : Nat) : (kl p n).Pairwise (· < ·) := List.Pairwise.filter _ List.pairwise_lt_range

end Mine
end

section
namespace Mine

noncomputable def setAll (zs : List Int) (cs : List Nat) (v : Int) : List Int := zs.mapIdx fun i x => if i ∈ cs then v else x
theorem setAll_get (zs : List Int) (cs : List Nat) (v : Int) (i : Nat) : (setAll zs cs v)[i]? = zs[i]?.map fun x => if i ∈ cs then v else x := by simp [setAll]
theorem setAll_length (zs : List Int) (cs : List Nat) (v : Int) : (setAll zs cs v).length = zs.length := by simp [setAll]
theorem setAll_nil (zs : List Int) (v : Int) : setAll zs [] v = zs := by
  apply List.ext_getElem?; intro i; rw [setAll_get]; simp
theorem setAll_cons (zs : List Int) (c : Nat) (cs : List Nat) (v : Int) : setAll (zs.set c v) cs v = setAll zs (c :: cs) v := by
  apply List.ext_getElem?; intro i
  rw [setAll_get, setAll_get, List.getElem?_set]
  by_cases h : c = i
  · subst h
    by_cases hl : c < zs.length
    · simp [hl]
    · simp [hl]
  · have : ¬ i = c := fun e => h e.symm
    simp [h, this]
theorem setAll_set (zs : List Int) {h : Nat} {cs : List Nat} (hn : h ∉ cs) (v x : Int) : setAll (zs.set h x) cs v = (setAll zs cs v).set h x := by
  apply List.ext_getElem?; intro i
  rw [setAll_get, List.getElem?_set, List.getElem?_set, setAll_get, setAll_length]
  by_cases q : h = i
  · subst q
    by_cases hl : h < zs.length
    · simp [hl, hn]
    · simp [hl]
  · simp [q]

noncomputable def Chain (xs : List Int) : Int → List Nat → Int → Prop
  | w, [], e => w = e
  | w, c :: cs, e => w = 2 * (c : Int) + 1 ∧ ∃ w', xs[c]? = some w' ∧ Chain xs w' cs e
theorem Chain.set {xs : List Int} {k : Nat} {x : Int} {e : Int} : ∀ {cs : List Nat} {w : Int}, k ∉ cs → Chain xs w cs e → Chain (xs.set k x) w cs e
  | [], _, _, h => h
  | c :: cs, w, hn, ⟨h1, w', h2, h3⟩ => by
    simp only [List.mem_cons, not_or] at hn
    refine ⟨h1, w', ?_, Chain.set hn.2 h3⟩
    rw [List.getElem?_set_ne hn.1]; exact h2

end Mine
end

section
namespace Mine
open PySem PyProof.Rows

structure Ext (cx : Cx) (H H' : HP) : Prop where
  le : LE H H'
  z : ∀ a l, cx.Z a = some l → H a = none → H' a = none
section
variable {cx : Cx} {H H' H'' : HP} {n : Nat} {a r : Addr} {o : O} {Q : V → HP → Prop}
theorem Ext.refl (cx : Cx) (H : HP) : Ext cx H H := ⟨LE.refl H, fun _ _ _ h => h⟩
theorem Ext.trans (x : Ext cx H H') (y : Ext cx H' H'') : Ext cx H H'' := ⟨x.le.trans y.le, fun a l h1 h2 => y.z a l h1 (x.z a l h1 h2)⟩
theorem Ext.lk (x : Ext cx H H') (h : lk cx H a = some o) : Mine.lk cx H' a = some o := by
  unfold Mine.lk at h ⊢
  cases e : H a with
  | some o' => rw [e] at h; rw [x.le a o' e]; exact h
  | none =>
    rw [e] at h
    cases e2 : cx.Z a with
    | none => rw [e2] at h; cases h
    | some l => rw [e2] at h; rw [x.z a l e2 e]; exact h
theorem Ext.upd (x : Ext cx H H') (h1 : H r = none) (h2 : cx.Z r = none) (o : O) : Ext cx H (upd H' r o) := by
  refine ⟨fun b o' e => ?_, fun b l e1 e2 => ?_⟩
  · have : b ≠ r := fun q => by subst q; rw [h1] at e; cases e
    rw [upd_ne _ this]; exact x.le b o' e
  · have : b ≠ r := fun q => by subst q; rw [h2] at e1; cases e1
    rw [upd_ne _ this]; exact x.z b l e1 e2
theorem Ext.new (hr : Fresh cx H r) (o : O) : Ext cx H (Mine.upd H r o) := (Ext.refl cx H).upd hr.1 hr.2.2 o
theorem Ext.new' (x : Ext cx H H') (hr : Fresh cx H' r) (o : O) : Ext cx H (Mine.upd H' r o) := x.trans (Ext.new hr o)
theorem Ext.fresh (x : Ext cx H H') (hr : Fresh cx H' r) : Fresh cx H r := by
  refine ⟨?_, hr.2⟩
  cases e : H r with
  | none => rfl
  | some o => have := x.le r o e; rw [hr.1] at this; cases this

noncomputable def All2 {α β : Type} (R : α → β → Prop) (xs : List α) (ys : List β) : Prop := xs.length = ys.length ∧ ∀ (i : Nat) (x : α) (y : β), xs[i]? = some x → ys[i]? = some y → R x y
theorem All2.nil {α β : Type} {R : α → β → Prop} : All2 R [] [] := ⟨rfl, fun i x y h => by simp at h⟩
theorem All2.snoc {α β : Type} {R : α → β → Prop} {xs : List α} {ys : List β} (h : All2 R xs ys) {x : α} {y : β} (hr : R x y) : All2 R (xs ++ [x]) (ys ++ [y]) := by
  refine ⟨by simp [h.1], fun i u v hu hv => ?_⟩
  by_cases q : i < xs.length
  · rw [List.getElem?_append_left q] at hu
    rw [List.getElem?_append_left (by rw [← h.1]; exact q)] at hv
    exact h.2 i u v hu hv
  · rw [List.getElem?_append_right (by omega)] at hu
    rw [List.getElem?_append_right (by rw [← h.1]; omega), ← h.1] at hv
    cases e : i - xs.length with
    | zero => rw [e] at hu hv; simp at hu hv; subst hu; subst hv; exact hr
    | succ m => rw [e] at hu; simp at hu
theorem All2.imp {α β : Type} {R S : α → β → Prop} {xs : List α} {ys : List β} (h : All2 R xs ys) (f : ∀ x y, R x y → S x y) : All2 S xs ys := ⟨h.1, fun i x y a b => f x y (h.2 i x y a b)⟩
theorem All2.get {α β : Type} {R : α → β → Prop} {xs : List α} {ys : List β} (h : All2 R xs ys) {i : Nat} {x : α} (hx : xs[i]? = some x) : ∃ y, ys[i]? = some y ∧ R x y := by
  have hl := (List.getElem?_eq_some_iff.mp hx).1
  have hl' : i < ys.length := by rw [← h.1]; exact hl
  have hy : ys[i]? = some ys[i] := List.getElem?_eq_getElem hl'
  exact ⟨_, hy, h.2 i x _ hx hy⟩
theorem All2.get' {α β : Type} {R : α → β → Prop} {xs : List α} {ys : List β} (h : All2 R xs ys) {i : Nat} {y : β} (hy : ys[i]? = some y) : ∃ x, xs[i]? = some x ∧ R x y := by
  have hl := (List.getElem?_eq_some_iff.mp hy).1
  have hl' : i < xs.length := by rw [h.1]; exact hl
  have hx : xs[i]? = some xs[i] := List.getElem?_eq_getElem hl'
  exact ⟨_, hx, h.2 i _ y hx hy⟩

noncomputable def natsV (l : List Nat) : List V := intsV (l.map fun k : Nat => (k : Int))
theorem natsV_length (l : List Nat) : (natsV l).length = l.length := by simp [natsV, intsV]
theorem natsV_get? (l : List Nat) (i : Nat) : (natsV l)[i]? = l[i]?.map fun k : Nat => V.int (k : Int) := by simp [natsV, intsV]; rfl
theorem natsV_snoc (l : List Nat) (k : Nat) : natsV l ++ [.int (k : Int)] = natsV (l ++ [k]) := by simp [natsV, intsV]

noncomputable def thV (t : Th) : List V := [.str (Str.ofString (if t.1 = true then "box" else "number")), .int t.2]
noncomputable def ThAt (cx : Cx) (H : HP) (v : V) (t : Th) : Prop := ∃ b, v = .ref b ∧ lk cx H b = some (.tup (thV t))
noncomputable def FldAt (cx : Cx) (H : HP) (v : V) (f : List Th) : Prop := ∃ a vs, v = .ref a ∧ lk cx H a = some (.list vs) ∧ All2 (ThAt cx H) vs f
noncomputable def BoxAt (cx : Cx) (H : HP) (v : V) (B : Bx) : Prop := ∃ a vs, v = .ref a ∧ lk cx H a = some (.list vs) ∧ All2 (FldAt cx H) vs B
theorem ThAt.ext (x : Ext cx H H') {v : V} {t : Th} : ThAt cx H v t → ThAt cx H' v t := fun ⟨b, h1, h2⟩ => ⟨b, h1, x.lk h2⟩
theorem FldAt.ext (x : Ext cx H H') {v : V} {f : List Th} : FldAt cx H v f → FldAt cx H' v f := fun ⟨b, vs, h1, h2, h3⟩ => ⟨b, vs, h1, x.lk h2, h3.imp fun _ _ => ThAt.ext x⟩
theorem BoxAt.ext (x : Ext cx H H') {v : V} {f : Bx} : BoxAt cx H v f → BoxAt cx H' v f := fun ⟨b, vs, h1, h2, h3⟩ => ⟨b, vs, h1, x.lk h2, h3.imp fun _ _ => FldAt.ext x⟩
end
theorem len_le_pl (B : Bx) : ∀ {k}, k ≤ B.length → k ≤ pl B k
  | 0, _ => Nat.zero_le _
  | k + 1, h => by
    have := len_le_pl B (show k ≤ B.length by first | with_reducible exact Int.natCast_nonneg _ | with_reducible assumption | lia | omega)
    have := pl_lt (B := B) (i := k) (j := k + 1) (by first | with_reducible exact Int.natCast_nonneg _ | with_reducible assumption | lia | omega) (by first | with_reducible exact Int.natCast_nonneg _ | with_reducible assumption | lia | omega)
    first | lia | omega
theorem fld_le_pl {B : Bx} {k : Nat} {f : List Th} (h : B[k]? = some f) : f.length < pl B B.length := by
  have hk := (List.getElem?_eq_some_iff.mp h).1
  have h1 := pl_succ h
  have := pl_mono (B := B) (show k + 1 ≤ B.length from hk)
  first | lia | omega

section
variable {cx : Cx} {H H' : HP} {n : Nat} {a r : Addr} {o : O} {Q : V → HP → Prop}
noncomputable def m_heads (f_fields_of : Addr) : MSs :=
  (.cons (.assign 2 (.list .nil))
  (.cons (.assign 3 (.cint (0)))
  (.cons (.while_ (.cmp (.loc 3) .Lt (.loc 1)) (.cons (.expr (.meth (.loc 2) .append (.cons (.loc 3) .nil)))
    (.cons (.assign 3 (.bin .Add (.bin .Add (.loc 3) (.cint (1))) (.callf f_fields_of (.cons (.sub (.loc 0) (.loc 3)) .nil))))
    .nil)))
  (.cons (.ret (.loc 2))
  .nil))))
noncomputable def m_with_mark (f_head_word f_fields_of : Addr) : MSs :=
  (.cons (.assign 2 (.callb .list (.cons (.loc 0) .nil)))
  (.cons (.setSub (.loc 2) (.loc 1) (.callf f_head_word (.cons (.callf f_fields_of (.cons (.sub (.loc 0) (.loc 1)) .nil)) (.cons (.cbool true) .nil))))
  (.cons (.ret (.loc 2))
  .nil)))
noncomputable def m_marked (f_with_mark f_fields_of f_is_link f_is_marked f_told_by : Addr) : MSs :=
  (.cons (.assign 2 (.callf f_with_mark (.cons (.loc 0) (.cons (.cint (0)) .nil))))
  (.cons (.assign 3 (.list (.cons (.cint (0)) .nil)))
  (.cons (.while_ (.cmp (.callb .len (.cons (.loc 3) .nil)) .Gt (.cint (0))) (.cons (.assign 4 (.meth (.loc 3) .pop .nil))
    (.cons (.for_ 5 (.slice (.loc 2) (.bin .Add (.loc 4) (.cint (1))) (.bin .Add (.bin .Add (.loc 4) (.cint (1))) (.callf f_fields_of (.cons (.sub (.loc 2) (.loc 4)) .nil)))) (.cons (.ite (.bop .And (.cons (.callf f_is_link (.cons (.loc 5) .nil)) (.cons (.not (.callf f_is_marked (.cons (.sub (.loc 2) (.callf f_told_by (.cons (.loc 5) .nil))) .nil))) .nil))) (.cons (.assign 2 (.callf f_with_mark (.cons (.loc 2) (.cons (.callf f_told_by (.cons (.loc 5) .nil)) .nil))))
        (.cons (.expr (.meth (.loc 3) .append (.cons (.callf f_told_by (.cons (.loc 5) .nil)) .nil)))
        .nil)) .nil)
      .nil))
    .nil)))
  (.cons (.ret (.loc 2))
  .nil))))

theorem withmark_ms {f_head_word f_fields_of row : Addr} {xs : List Int} {p : Nat} {w : Int} (h1 : ∀ (p : Int) (b : Bool) (H : HP) (Q : V → HP → Prop), Q (.int (4 * p + 2 * (if b then 1 else 0))) H → CallP cx n f_head_word [.int p, .bool b] H Q) (h2 : Fn1 cx n f_fields_of fun w => .int (w.fdiv 4))
    (hrow : lk cx H row = some (.list (intsV xs))) (hlen : xs.length ≤ 1000) (hp : xs[p]? = some w)
    (hQ : ∀ r, Fresh cx H r → Q (.ref r) (upd H r (.list (intsV (xs.set p (4 * (w.fdiv 4) + 2)))))) :
    mwpSs cx n (m_with_mark f_head_word f_fields_of) [.ref row, .int p, .unb] H (NQ Q) (RQ Q) := by
  have hpl : p < xs.length := (List.getElem?_eq_some_iff.mp hp).1
  refine S_cons ?_
  walk_at "st"
  simp only [hrow, ints_length]
  refine ⟨by first | with_reducible exact Int.natCast_nonneg _ | with_reducible assumption | lia | omega, fun r hr => S_cons ?_⟩
  walk_at "st"
  simp only [lk_fresh hr hrow, ints_length, ints_get?, Int.toNat_natCast, hp, Option.map_some]
  refine ⟨by first | with_reducible exact Int.natCast_nonneg _ | with_reducible assumption | lia | omega, by first | with_reducible exact Int.natCast_nonneg _ | with_reducible assumption | lia | omega, h2 _ _ _ ?_⟩
  dsimp only
  refine h1 _ _ _ _ ?_
  simp only [upd_same, ints_length, Int.toNat_natCast, ints_set, upd_upd]
  refine ⟨by first | with_reducible exact Int.natCast_nonneg _ | with_reducible assumption | lia | omega, by first | with_reducible exact Int.natCast_nonneg _ | with_reducible assumption | lia | omega, hpl, S_cons ?_⟩
  walk_at "st"
  exact RQ.here (by simpa using hQ r hr)
noncomputable def WithMarkSpec (cx : Cx) (n : Nat) (f : Addr) : Prop := ∀ (row : Addr) (xs : List Int) (p : Nat) (w : Int) (H : HP) (Q : V → HP → Prop), lk cx H row = some (.list (intsV xs)) → xs.length ≤ 1000 → xs[p]? = some w →
  (∀ r, Fresh cx H r → Q (.ref r) (upd H r (.list (intsV (xs.set p (4 * (w.fdiv 4) + 2)))))) → CallP cx n f [.ref row, .int p] H Q

theorem heads_ms {f_fields_of row : Addr} {xs : List Int} {B : Bx} (h2 : Fn1 cx n f_fields_of fun w => .int (w.fdiv 4))
    (hrow : lk cx H row = some (.list (intsV xs))) (s : Shp B xs) (hB : pl B B.length ≤ 1000)
    (hQ : ∀ r H', Ext cx H H' → Fresh cx H r → H' r = some (.list (natsV ((List.range B.length).map (pl B)))) → Q (.ref r) H') :
    mwpSs cx n (m_heads f_fields_of) [.ref row, .int (pl B B.length), .unb, .unb] H (NQ Q) (RQ Q) := by
  refine S_cons ?_
  walk_at "st"
  refine ⟨by simp, fun r hr => S_cons ?_⟩
  walk_at "st"
  refine S_cut (fun μ H' => μ = [.ref row, .int (pl B B.length), .ref r, .int (pl B B.length)] ∧ Ext cx H H' ∧ H' r = some (.list (natsV ((List.range B.length).map (pl B))))) ?_ ?_
  · rw [s_while]
    refine ⟨fun m μ H' => ∃ k, k + m = B.length ∧ μ = [.ref row, .int (pl B B.length), .ref r, .int (pl B k)] ∧ Ext cx H H' ∧ H' r = some (.list (natsV ((List.range k).map (pl B)))), ⟨B.length, 0, by first | with_reducible exact Int.natCast_nonneg _ | with_reducible assumption | lia | omega, by rw [pl_zero]; rfl, Ext.new hr _, by rw [upd_same]; rfl⟩, ?_⟩
    rintro m μ H' ⟨k, hm, rfl, hE, hr'⟩
    walk_at "st"
    cases m with
    | zero =>
      have : k = B.length := by omega
      subst this
      refine ⟨fun q => ?_, fun _ => ⟨rfl, hE, hr'⟩⟩
      rw [decide_eq_true_iff] at q; first | lia | omega
    | succ m =>
      have hk : B[k]? = some B[k] := List.getElem?_eq_getElem (by omega)
      have hkl := len_le_pl B (show B.length ≤ B.length by first | with_reducible exact Int.natCast_nonneg _ | with_reducible assumption | lia | omega)
      refine ⟨fun _ => S_cons ?_, fun q => ?_⟩
      · walk_at "st"
        simp only [hr', natsV_length, List.length_map, List.length_range]
        refine ⟨trivial, by first | with_reducible exact Int.natCast_nonneg _ | with_reducible assumption | lia | omega, S_cons ?_⟩
        have hE2 := hE.upd hr.1 hr.2.2 (.list (natsV ((List.range k).map (pl B)) ++ [.int (pl B k)]))
        walk_at "st"
        have := s.len
        simp only [hE2.lk hrow, ints_length, ints_get?, Int.toNat_natCast, s.hd hk, Option.map_some]
        refine ⟨by first | with_reducible exact Int.natCast_nonneg _ | with_reducible assumption | lia | omega, by first | with_reducible exact Int.natCast_nonneg _ | with_reducible assumption | lia | omega, h2 _ _ _ ?_⟩
        walk_at "st"
        refine S_nil ⟨_, LE.refl _, m, by first | with_reducible exact Int.natCast_nonneg _ | with_reducible assumption | lia | omega, k + 1, by first | with_reducible exact Int.natCast_nonneg _ | with_reducible assumption | lia | omega, ?_, hE2, ?_⟩
        · rw [pl_succ hk, fdiv4, show ((pl B k : Int) + 1 + 4 * (B[k].length : Int) / 4) = ((pl B k + 1 + B[k].length : Nat) : Int) from by first | with_reducible exact Int.natCast_nonneg _ | with_reducible assumption | lia | omega]
        · rw [upd_same, natsV_snoc, List.range_succ, List.map_append]; rfl
      · have := pl_lt (B := B) (i := k) (j := B.length) (by first | with_reducible exact Int.natCast_nonneg _ | with_reducible assumption | lia | omega) (by first | with_reducible exact Int.natCast_nonneg _ | with_reducible assumption | lia | omega)
        rw [decide_eq_false_iff_not] at q; first | lia | omega
  rintro μ' H' ⟨rfl, hE, hr'⟩
  refine S_cons ?_
  walk_at "st"
  exact RQ.here (hQ r H' hE hr hr')
noncomputable def HeadsSpec (cx : Cx) (n : Nat) (f : Addr) : Prop := ∀ (row : Addr) (xs : List Int) (B : Bx) (H : HP) (Q : V → HP → Prop), lk cx H row = some (.list (intsV xs)) → Shp B xs → pl B B.length ≤ 1000 →
  (∀ r H', Ext cx H H' → Fresh cx H r → H' r = some (.list (natsV ((List.range B.length).map (pl B)))) → Q (.ref r) H') → CallP cx n f [.ref row, .int (pl B B.length)] H Q
end
end Mine
end

section
namespace Mine
open PySem PyProof.Rows

structure MK (B : Bx) (M W : List Nat) (ex : Nat → Prop) : Prop where
  nd : M.Nodup
  rc : ∀ k ∈ M, Reach B k
  z : 0 ∈ M
  sub : ∀ k ∈ W, k ∈ M
  cl : ∀ k ∈ M, k ∉ W → ¬ ex k → ∀ f, B[k]? = some f → ∀ j : Nat, (true, (j : Int)) ∈ f → j ∈ M
section
variable {B : Bx} {M W : List Nat} {ex : Nat → Prop} {k j : Nat}
theorem MK.start : MK B [0] [0] (fun _ => False) := ⟨by simp, fun k hk => by rw [List.mem_singleton.mp hk]; exact Reach.zero, by simp, fun k hk => hk, fun k hk hn => absurd hk hn⟩
theorem MK.pop (h : MK B M (W ++ [k]) fun _ => False) : MK B M W (fun i => i = k) ∧ k ∈ M := by
  refine ⟨⟨h.nd, h.rc, h.z, fun i hi => h.sub i (List.mem_append_left _ hi), fun i hi hn he => h.cl i hi ?_ (fun q => q)⟩, h.sub k (by simp)⟩
  intro hm
  rcases List.mem_append.mp hm with q | q
  · exact hn q
  · exact he (List.mem_singleton.mp q)
theorem MK.add (h : MK B M W ex) (hr : Reach B j) (hj : j ∉ M) : MK B (j :: M) (W ++ [j]) ex := by
  refine ⟨List.nodup_cons.mpr ⟨hj, h.nd⟩, ?_, List.mem_cons_of_mem _ h.z, ?_, ?_⟩
  · intro i hi
    rcases List.mem_cons.mp hi with rfl | hi
    · exact hr
    · exact h.rc i hi
  · intro i hi
    rcases List.mem_append.mp hi with q | q
    · exact List.mem_cons_of_mem _ (h.sub i q)
    · rw [List.mem_singleton.mp q]; exact List.mem_cons_self
  · intro i hi hn he f hf t ht
    rcases List.mem_cons.mp hi with rfl | hi
    · exact absurd (List.mem_append_right _ List.mem_cons_self) hn
    · exact List.mem_cons_of_mem _ (h.cl i hi (fun q => hn (List.mem_append_left _ q)) he f hf t ht)
theorem MK.fin (h : MK B M W fun i => i = k) (hk : ∀ f, B[k]? = some f → ∀ j : Nat, (true, (j : Int)) ∈ f → j ∈ M) : MK B M W fun _ => False := by
  refine ⟨h.nd, h.rc, h.z, h.sub, fun i hi hn _ f hf t ht => ?_⟩
  by_cases q : i = k
  · subst q; exact hk f hf t ht
  · exact h.cl i hi hn q f hf t ht
theorem MK.done (h : MK B M [] fun _ => False) (k : Nat) : k ∈ M ↔ Reach B k := by
  refine ⟨h.rc k, fun hr => ?_⟩
  induction hr with
  | zero => exact h.z
  | step _ hf ht ih => exact h.cl _ ih (by simp) (fun q => q) _ hf _ ht
theorem MK.len (w : WFB B) (h : MK B M W ex) : M.length ≤ B.length := nodup_bound _ h.nd fun k hk => (h.rc k hk).lt w
end
theorem slice_eq {ys l : List Int} {a : Nat} (h : ∀ j, j < l.length → ys[a + j]? = l[j]?) (hl : l.length = 0 ∨ a + l.length ≤ ys.length) : (ys.take (min (a + l.length) ys.length)).drop (min a ys.length) = l := by
  apply List.ext_getElem?; intro i
  rw [List.getElem?_drop, List.getElem?_take]
  by_cases q : i < l.length
  · rw [if_pos (by first | with_reducible exact Int.natCast_nonneg _ | with_reducible assumption | lia | omega), show min a ys.length = a from by first | with_reducible exact Int.natCast_nonneg _ | with_reducible assumption | lia | omega]; exact h i q
  · rw [List.getElem?_eq_none (show l.length ≤ i by first | with_reducible exact Int.natCast_nonneg _ | with_reducible assumption | lia | omega)]
    rcases hl with hl | hl
    · rw [if_neg (by first | with_reducible exact Int.natCast_nonneg _ | with_reducible assumption | lia | omega)]
    · rw [if_neg (by first | with_reducible exact Int.natCast_nonneg _ | with_reducible assumption | lia | omega)]
theorem bump_head {B : Bx} {xs : List Int} {M : List Nat} {k : Nat} {f : List Th} (s : Shp B xs) (hM : ∀ k ∈ M, k < B.length) (h : B[k]? = some f) : (bump xs (M.map (pl B)))[pl B k]? = some (4 * (f.length : Int) + if k ∈ M then 2 else 0) := by
  have hkl := (List.getElem?_eq_some_iff.mp h).1
  rw [bump_get, s.hd h, Option.map_some]
  have : pl B k ∈ M.map (pl B) ↔ k ∈ M := by
    rw [List.mem_map]
    refine ⟨fun ⟨i, hi, e⟩ => ?_, fun q => ⟨k, q, rfl⟩⟩
    rw [← pl_inj (hM i hi) hkl e]; exact hi
  by_cases q : k ∈ M
  · rw [if_pos (this.mpr q), if_pos q]
  · rw [if_neg (fun q' => q (this.mp q')), if_neg q]; simp
theorem bump_fld {B : Bx} {xs : List Int} {M : List Nat} {k j : Nat} {f : List Th} {t : Th} (s : Shp B xs) (h : B[k]? = some f) (hj : f[j]? = some t) : (bump xs (M.map (pl B)))[pl B k + 1 + j]? = some (word (pl B) t) := by
  rw [bump_get, s.fld h hj, Option.map_some, if_neg]
  intro hm
  obtain ⟨i, _, e⟩ := List.mem_map.mp hm
  exact pl_ne h (List.getElem?_eq_some_iff.mp hj).1 e.symm
theorem bump_mark {B : Bx} {xs : List Int} {M : List Nat} {k : Nat} {f : List Th} (s : Shp B xs) (h : B[k]? = some f) : (bump xs (M.map (pl B))).set (pl B k) (4 * ((4 * (f.length : Int)).fdiv 4) + 2) = bump xs ((k :: M).map (pl B)) := by
  rw [fdiv4, show (4 * (f.length : Int)) / 4 = f.length from by first | with_reducible exact Int.natCast_nonneg _ | with_reducible assumption | lia | omega, bump_set (s.hd h)]; rfl

section
variable {cx : Cx} {H H' : HP} {n : Nat} {a r : Addr} {o : O} {Q : V → HP → Prop}
structure MS1 (cx : Cx) (B : Bx) (xs : List Int) (H0 : HP) (wa fa : Addr) (M W : List Nat) (H : HP) : Prop where
  ext : Ext cx H0 H
  fr : Fresh cx H0 fa
  fd : H fa = some (.list (intsV (bump xs (M.map (pl B)))))
  wt : H wa = some (.list (natsV (W.map (pl B))))
  ne : fa ≠ wa
noncomputable abbrev MI1 (cx : Cx) (B : Bx) (xs : List Int) (H : HP) (row wa : Addr) (used : Int) (m : Nat) (μ : List V) (H' : HP) : Prop :=
  ∃ fa M W z4 z5, μ = [.ref row, .int used, .ref fa, .ref wa, z4, z5] ∧ MS1 cx B xs H wa fa M W H' ∧ MK B M W (fun _ => False) ∧ m = 2 * (B.length - M.length) + W.length ∧ m ≤ 2 * B.length
noncomputable abbrev MI2 (cx : Cx) (B : Bx) (xs : List Int) (H : HP) (row wa sl : Addr) (used : Int) (m k : Nat) (f : List Th) (done μ : List V) (H' : HP) : Prop :=
  ∃ fa M' W' z5, μ = [.ref row, .int used, .ref fa, .ref wa, .int (pl B k), z5] ∧ MS1 cx B xs H wa fa M' W' H' ∧ H' sl = some (.list (intsV (f.map (word (pl B))))) ∧ MK B M' W' (fun i => i = k) ∧ 2 * (B.length - M'.length) + W'.length < m ∧ k ∈ M' ∧
    (∀ i (j : Nat), i < done.length → f[i]? = some (true, (j : Int)) → j ∈ M')
noncomputable abbrev MI3 (cx : Cx) (B : Bx) (xs : List Int) (H : HP) (row wa : Addr) (used : Int) (μ : List V) (H' : HP) : Prop :=
  ∃ fa M z4 z5, μ = [.ref row, .int used, .ref fa, .ref wa, z4, z5] ∧ MS1 cx B xs H wa fa M [] H' ∧ MK B M [] fun _ => False
theorem marked_ms {f_with_mark f_fields_of f_is_link f_is_marked f_told_by row : Addr} {xs : List Int} {B : Bx} {used : Int} (hwm : WithMarkSpec cx n f_with_mark) (h2 : Fn1 cx n f_fields_of fun w => .int (w.fdiv 4)) (h3 : Fn1 cx n f_is_link fun w => .bool (w.fmod 2 == 1)) (h4 : Fn1 cx n f_is_marked fun w => .bool ((w.fdiv 2).fmod 2 == 1)) (h5 : Fn1 cx n f_told_by fun w => .int (w.fdiv 2))
    (hrow : lk cx H row = some (.list (intsV xs))) (s : Shp B xs) (w : WFB B) (hB : B.length ≤ 1000)
    (hQ : ∀ (r : Addr) (H' : HP) (M : List Nat), Ext cx H H' → Fresh cx H r → H' r = some (.list (intsV (bump xs (M.map (pl B))))) → (∀ k, k ∈ M ↔ Reach B k) → Q (.ref r) H') :
    mwpSs cx n (m_marked f_with_mark f_fields_of f_is_link f_is_marked f_told_by) [.ref row, .int used, .unb, .unb, .unb, .unb] H (NQ Q) (RQ Q) := by
  have hlen := s.len
  have hpos := w.pos
  have h00 : B[0]? = some B[0] := List.getElem?_eq_getElem w.pos
  refine S_cons ?_
  try (walk_at "st")
  have hp0 := s.hd h00
  rw [pl_zero] at hp0
  refine hwm _ xs 0 _ _ _ hrow hlen hp0 fun fa hfa => ?_
  have hb0 := bump_mark (M := []) s h00
  rw [List.map_nil, bump_nil, pl_zero] at hb0
  rw [hb0]
  refine S_cons ?_
  try (walk_at "st")
  refine ⟨by simp, fun wa hwa => ?_⟩
  have hfw : fa ≠ wa := hwa.ne lk_same
  have hwaH : Fresh cx H wa := (Ext.new hfa _).fresh hwa
  have I0 : MS1 cx B xs H wa fa [0] [0] (upd (upd H fa (.list (intsV (bump xs ([0].map (pl B)))))) wa (.list [.int 0])) :=
    ⟨(Ext.new hfa _).new' hwa _, hfa, by rw [upd_ne _ hfw, upd_same], by rw [upd_same]; simp [natsV, intsV, pl_zero], hfw⟩
  refine S_cut (MI3 cx B xs H row wa used) ?_ ?_
  · rw [s_while]
    refine ⟨MI1 cx B xs H row wa used, ⟨_, fa, [0], [0], _, _, rfl, I0, MK.start, rfl, by have := w.pos; simp; omega⟩, ?_⟩
    rintro m μ H1 ⟨fa, M, W, z4, z5, rfl, I, K, hm, hm2⟩
    try (walk_at "st")
    simp only [lk_of I.wt, natsV_length, List.length_map]
    refine ⟨by first | with_reducible exact Int.natCast_nonneg _ | with_reducible assumption | lia | omega, ?_⟩
    try (walk_at "st")
    rcases List.eq_nil_or_concat W with rfl | ⟨W, k, rfl⟩
    · refine ⟨fun q => ?_, fun _ => ⟨fa, M, z4, z5, rfl, I, K⟩⟩
      simp at q
    rw [List.concat_eq_append] at *
    refine ⟨fun _ => S_cons ?_, fun q => False.elim (by rw [decide_eq_false_iff_not, List.length_append, List.length_singleton] at q; omega)⟩
    obtain ⟨K1, hkM⟩ := K.pop
    have hkr := K.rc k hkM
    have hkl := hkr.lt w
    have hk : B[k]? = some B[k] := List.getElem?_eq_getElem hkl
    have hMl : ∀ i ∈ M, i < B.length := fun i hi => (K.rc i hi).lt w
    try (walk_at "st")
    have hlast : (natsV ((W ++ [k]).map (pl B))).getLast? = some (.int (pl B k)) := by simp [natsV, intsV]
    have hdrop : (natsV ((W ++ [k]).map (pl B))).dropLast = natsV (W.map (pl B)) := by simp [natsV, intsV]
    simp only [I.wt, natsV_length, List.length_map, List.length_append, List.length_cons, List.length_nil, hlast, hdrop]
    refine ⟨trivial, by simp at hm; omega, S_cons ?_⟩
    have hwt2 : (upd H1 wa (.list (natsV (W.map (pl B))))) wa = some (.list (natsV (W.map (pl B)))) := upd_same _ _ _
    have hfd2 : (upd H1 wa (.list (natsV (W.map (pl B))))) fa = some (.list (intsV (bump xs (M.map (pl B))))) := by rw [upd_ne _ I.ne]; exact I.fd
    have I2 : MS1 cx B xs H wa fa M W (upd H1 wa (.list (natsV (W.map (pl B))))) := ⟨I.ext.upd hwaH.1 hwaH.2.2 _, I.fr, hfd2, hwt2, I.ne⟩
    clear hwt2 hfd2 hlast hdrop
    generalize upd H1 wa (.list (natsV (W.map (pl B)))) = H2 at I2
    try (walk_at "st")
    have hbl : (bump xs (M.map (pl B))).length = xs.length := bump_length _ _
    simp only [lk_of I2.fd, ints_length, ints_get?, Int.toNat_natCast, bump_head s hMl hk, if_pos hkM, Option.map_some, hbl]
    refine ⟨by first | with_reducible exact Int.natCast_nonneg _ | with_reducible assumption | lia | omega, by first | with_reducible exact Int.natCast_nonneg _ | with_reducible assumption | lia | omega, h2 _ _ _ ?_⟩
    have hfd : (4 * (B[k].length : Int) + 2).fdiv 4 = (B[k].length : Int) := by rw [fdiv4]; first | lia | omega
    dsimp only
    rw [hfd]
    try (walk_at "st")
    simp only [lk_of I2.fd, ints_length, hbl]
    rw [show ((pl B k : Int) + 1 + (B[k].length : Int)) = ((pl B k + 1 + B[k].length : Nat) : Int) from by first | with_reducible exact Int.natCast_nonneg _ | with_reducible assumption | lia | omega, show ((pl B k : Int) + 1) = ((pl B k + 1 : Nat) : Int) from by first | with_reducible exact Int.natCast_nonneg _ | with_reducible assumption | lia | omega, cutLo_nn (by first | with_reducible exact Int.natCast_nonneg _ | with_reducible assumption | lia | omega), cutHi_nn (by first | with_reducible exact Int.natCast_nonneg _ | with_reducible assumption | lia | omega)]
    simp only [Int.toNat_natCast, cut_ints]
    have hsl : ((bump xs (M.map (pl B))).take (min (pl B k + 1 + B[k].length) xs.length)).drop (min (pl B k + 1) xs.length) = B[k].map (word (pl B)) := by
      have := slice_eq (ys := bump xs (M.map (pl B))) (l := B[k].map (word (pl B))) (a := pl B k + 1) ?_ ?_
      · rw [List.length_map, hbl] at this; exact this
      · intro j hj
        rw [List.length_map] at hj
        have ht : B[k][j]? = some B[k][j] := List.getElem?_eq_getElem hj
        rw [bump_fld s hk ht, List.getElem?_map, ht]; rfl
      · rw [List.length_map, hbl]
        cases hz : B[k].length with
        | zero => exact .inl rfl
        | succ m =>
          have ht : B[k][m]? = some B[k][m] := List.getElem?_eq_getElem (by omega)
          have := (List.getElem?_eq_some_iff.mp (s.fld hk ht)).1
          exact .inr (by first | with_reducible exact Int.natCast_nonneg _ | with_reducible assumption | lia | omega)
    rw [hsl]
    refine ⟨by first | with_reducible exact Int.natCast_nonneg _ | with_reducible assumption | lia | omega, fun sl hsl' => ?_⟩
    have hsw : sl ≠ wa := fun e => hsl'.ne (lk_of I2.wt) e.symm
    have hsf : fa ≠ sl := hsl'.ne (lk_of I2.fd)
    simp only [lk_same, ints_length, List.length_map]
    have hfl : B[k].length ≤ 1000 := by
      have := fld_le_pl hk
      cases hz : B[k].length with
      | zero => omega
      | succ m =>
        have ht : B[k][m]? = some B[k][m] := List.getElem?_eq_getElem (by omega)
        have := (List.getElem?_eq_some_iff.mp (s.fld hk ht)).1
        first | lia | omega
    refine ⟨by first | with_reducible exact Int.natCast_nonneg _ | with_reducible assumption | lia | omega, MI2 cx B xs H row wa sl used m k B[k], ?_, ?_, ?_, ?_⟩
    · refine ⟨fa, M, W, _, rfl, ⟨I2.ext.new' hsl' _, I2.fr, by rw [upd_ne _ hsf]; exact I2.fd, by rw [upd_ne _ (Ne.symm hsw)]; exact I2.wt, I2.ne⟩, upd_same _ _ _, K1, by simp at hm; omega, hkM, fun i j hi => absurd hi (by simp)⟩
    · rintro done μ H' ⟨_, _, _, _, _, _, h, _⟩; exact lk_of h
    · rintro done x rest μ H3 hitems ⟨fa', M', W', z5', rfl, I3, hsl3, K3, hm3, hkM', hall⟩
      have hx : (intsV (B[k].map (word (pl B))))[done.length]? = some x := by rw [hitems]; simp
      rw [ints_get?, List.getElem?_map] at hx
      cases ht : B[k][done.length]? with
      | none => rw [ht] at hx; cases hx
      | some t =>
      rw [ht] at hx
      simp only [Option.map_some, Option.some.injEq] at hx
      subst hx
      have hMl' : ∀ i ∈ M', i < B.length := fun i hi => (K3.rc i hi).lt w
      refine S_cons ?_
      try (walk_at "st")
      refine h3 _ _ _ ?_
      try (walk_at "st")
      rw [fmod2]
      obtain ⟨b, v⟩ := t
      cases b with
      | false =>
        have e : (word (pl B) (false, v) % 2 == 1) = false := by simp [word]
        rw [e]
        refine ⟨fun q => (by cases q), fun _ => ?_⟩
        refine ⟨fun q => (by cases q), fun _ => S_nil (S_nil ⟨_, LE.refl _, fa', M', W', _, rfl, I3, hsl3, K3, hm3, hkM', fun i j hi hij => ?_⟩)⟩
        rw [List.length_append] at hi
        by_cases q : i = done.length
        · subst q; rw [ht] at hij; cases hij
        · exact hall i j (by simp at hi; omega) hij
      | true =>
        obtain ⟨j, rfl, hj⟩ := tgt_of w hk ht
        have hjB : B[j]? = some B[j] := List.getElem?_eq_getElem hj
        have ew : word (pl B) (true, (j : Int)) = 2 * (pl B j : Int) + 1 := by simp [word]
        have e : (word (pl B) (true, (j : Int)) % 2 == 1) = true := by rw [ew, beq_iff_eq]; first | lia | omega
        have e2 : (word (pl B) (true, (j : Int))).fdiv 2 = (pl B j : Int) := by rw [ew, fdiv2]; first | lia | omega
        rw [e]
        refine ⟨fun _ => ?_, fun q => by cases q⟩
        refine h5 _ _ _ ?_
        dsimp only
        rw [e2]
        walk_at "st"
        have hbl' : (bump xs (M'.map (pl B))).length = xs.length := bump_length _ _
        simp only [lk_of I3.fd, ints_length, ints_get?, Int.toNat_natCast, bump_head s hMl' hjB, Option.map_some, hbl']
        refine ⟨by first | with_reducible exact Int.natCast_nonneg _ | with_reducible assumption | lia | omega, by first | with_reducible exact Int.natCast_nonneg _ | with_reducible assumption | lia | omega, h4 _ _ _ ?_⟩
        try (walk_at "st")
        have hkeep : j ∈ M' → ∀ i (j' : Nat), i < (done ++ [V.int (word (pl B) (true, (j : Int)))]).length → B[k][i]? = some (true, (j' : Int)) → j' ∈ M' := by
          intro hjM i j' hi hij
          rw [List.length_append] at hi
          by_cases q : i = done.length
          · subst q; rw [ht] at hij
            have : j = j' := by injection hij with q; injection q with _ q; exact Int.ofNat.inj q
            exact this ▸ hjM
          · exact hall i j' (by simp at hi; omega) hij
        by_cases hjM : j ∈ M'
        · rw [if_pos hjM]
          have e4 : ((4 * (B[j].length : Int) + 2).fdiv 2).fmod 2 == 1 := by rw [fdiv2, fmod2, beq_iff_eq]; first | lia | omega
          rw [e4]
          refine ⟨fun q => (by cases q), fun _ => S_nil (S_nil ⟨_, LE.refl _, fa', M', W', _, rfl, I3, hsl3, K3, hm3, hkM', hkeep hjM⟩)⟩
        · rw [if_neg hjM]
          have e4 : (((4 * (B[j].length : Int) + 0).fdiv 2).fmod 2 == 1) = false := by rw [fdiv2, fmod2, beq_eq_false_iff_ne]; first | lia | omega
          rw [e4]
          refine ⟨fun _ => S_cons ?_, fun q => by cases q⟩
          try (walk_at "st")
          refine h5 _ _ _ ?_
          dsimp only
          rw [e2]
          have hgj := bump_head s hMl' hjB
          rw [if_neg hjM, Int.add_zero] at hgj
          refine hwm _ _ _ _ _ _ (lk_of I3.fd) (by first | with_reducible exact Int.natCast_nonneg _ | with_reducible assumption | lia | omega) hgj fun fb hfb => ?_
          rw [bump_mark s hjB]
          have hfbw : fb ≠ wa := fun e => hfb.ne (lk_of I3.wt) e.symm
          have hfbs : fb ≠ sl := fun e => hfb.ne (lk_of hsl3) e.symm
          refine S_cons ?_
          try (walk_at "st")
          simp only [upd_ne _ (Ne.symm hfbw), I3.wt]
          refine ⟨trivial, h5 _ _ _ ?_⟩
          dsimp only
          rw [e2]
          simp only [upd_ne _ (Ne.symm hfbw), I3.wt, natsV_length, List.length_map]
          have hMlen := (K3.add (Reach.step hkr hk (List.mem_of_getElem? ht)) hjM).len w
          rw [List.length_cons] at hMlen
          refine ⟨by first | with_reducible exact Int.natCast_nonneg _ | with_reducible assumption | lia | omega, S_nil (S_nil ⟨_, LE.refl _, fb, j :: M', W' ++ [j], _, rfl, ⟨?_, I3.ext.fresh hfb, ?_, ?_, hfbw⟩, ?_, K3.add (Reach.step hkr hk (List.mem_of_getElem? ht)) hjM, ?_, List.mem_cons_of_mem _ hkM', ?_⟩)⟩
          · exact (I3.ext.new' hfb _).upd hwaH.1 hwaH.2.2 _
          · rw [upd_ne _ hfbw, upd_same]
          · rw [upd_same, natsV_snoc, List.map_append]; rfl
          · rw [upd_ne _ hsw, upd_ne _ (Ne.symm hfbs)]; exact hsl3
          · simp only [List.length_cons, List.length_append, List.length_nil]; first | lia | omega
          · intro i j' hi hij
            rw [List.length_append] at hi
            by_cases q : i = done.length
            · subst q; rw [ht] at hij
              have : j = j' := by injection hij with q; injection q with _ q; exact Int.ofNat.inj q
              exact this ▸ List.mem_cons_self
            · exact List.mem_cons_of_mem _ (hall i j' (by simp at hi; omega) hij)
    · rintro μ H' ⟨fa', M', W', z5', rfl, I3, hsl3, K3, hm3, hkM', hall⟩
      refine S_nil ⟨_, LE.refl _, _, hm3, fa', M', W', _, _, rfl, I3, K3.fin ?_, rfl, by first | with_reducible exact Int.natCast_nonneg _ | with_reducible assumption | lia | omega⟩
      intro f hf j hjf
      rw [hk] at hf; cases hf
      obtain ⟨i, hi⟩ := List.getElem?_of_mem hjf
      refine hall i j ?_ hi
      have := (List.getElem?_eq_some_iff.mp hi).1
      simpa [intsV] using this
  rintro μ' H' ⟨fa, M, z4, z5, rfl, I, K⟩
  refine S_cons ?_
  try (walk_at "st")
  exact RQ.here (hQ fa H' M I.ext I.fr I.fd K.done)
noncomputable def MarkedSpec (cx : Cx) (n : Nat) (f : Addr) : Prop := ∀ (row : Addr) (xs : List Int) (B : Bx) (used : Int) (H : HP) (Q : V → HP → Prop), lk cx H row = some (.list (intsV xs)) → Shp B xs → WFB B → B.length ≤ 1000 →
  (∀ (r : Addr) (H' : HP) (M : List Nat), Ext cx H H' → Fresh cx H r → H' r = some (.list (intsV (bump xs (M.map (pl B))))) → (∀ k, k ∈ M ↔ Reach B k) → Q (.ref r) H') → CallP cx n f [.ref row, .int used] H Q
end
end Mine
end

section
namespace Mine
open PySem PyProof.Rows

section
variable {cx : Cx} {H H' : HP} {n : Nat} {a r : Addr} {o : O} {Q : V → HP → Prop}
noncomputable def m_link_word : MSs :=
  (.cons (.ret (.bin .Add (.bin .Mult (.cint (2)) (.loc 0)) (.cint (1))))
  .nil)
noncomputable def m_hung (f_told_by f_link_word : Addr) : MSs :=
  (.cons (.assign 2 (.callb .list (.cons (.loc 0) .nil)))
  (.cons (.assign 3 (.callf f_told_by (.cons (.sub (.loc 0) (.loc 1)) .nil)))
  (.cons (.setSub (.loc 2) (.loc 1) (.sub (.loc 0) (.loc 3)))
  (.cons (.setSub (.loc 2) (.loc 3) (.callf f_link_word (.cons (.loc 1) .nil)))
  (.cons (.ret (.loc 2))
  .nil)))))

theorem link_ms {p : Int} (h : Q (.int (2 * p + 1)) H) : mwpSs cx n m_link_word [.int p] H (NQ Q) (RQ Q) := by
  refine S_cons ?_
  walk_at "st"
  exact ⟨mulOk_l (by decide), RQ.here h⟩

theorem hung_ms {f_told_by f_link_word row : Addr} {xs : List Int} {k h : Nat} {wk wh : Int}
    (ht : ∀ w H Q, Q (.int (w.fdiv 2)) H → CallP cx n f_told_by [.int w] H Q) (hl : ∀ p H Q, Q (.int (2 * p + 1)) H → CallP cx n f_link_word [.int p] H Q)
    (hrow : lk cx H row = some (.list (intsV xs))) (hlen : xs.length ≤ 1000) (hk : xs[k]? = some wk) (hwk : wk.fdiv 2 = h) (hh : xs[h]? = some wh)
    (hQ : ∀ r, Fresh cx H r → Q (.ref r) (upd H r (.list (intsV ((xs.set k wh).set h (2 * (k : Int) + 1)))))) :
    mwpSs cx n (m_hung f_told_by f_link_word) [.ref row, .int k, .unb, .unb] H (NQ Q) (RQ Q) := by
  have hkl : k < xs.length := (List.getElem?_eq_some_iff.mp hk).1
  have hhl : h < xs.length := (List.getElem?_eq_some_iff.mp hh).1
  refine S_cons ?_
  walk_at "st"
  simp only [hrow, ints_length]
  refine ⟨by first | lia | omega, fun r hr => S_cons ?_⟩
  walk_at "st"
  simp only [lk_fresh hr hrow, ints_length, ints_get?, Int.toNat_natCast, hk, Option.map_some]
  refine ⟨by first | lia | omega, by first | lia | omega, ht _ _ _ ?_⟩
  rw [hwk]
  refine S_cons ?_
  walk_at "st"
  simp only [lk_fresh hr hrow, hh, Option.map_some, upd_same, ints_length, ints_get?, Int.toNat_natCast, ints_set, upd_upd]
  refine ⟨by first | lia | omega, by first | lia | omega, by first | lia | omega, by first | lia | omega, hkl, S_cons ?_⟩
  walk_at "st"
  refine hl _ _ _ ?_
  simp only [upd_same, ints_length, Int.toNat_natCast, ints_set, upd_upd, List.length_set]
  refine ⟨by first | lia | omega, by first | lia | omega, hhl, S_cons ?_⟩
  walk_at "st"
  exact RQ.here (hQ r hr)

noncomputable def m_led (f_is_link f_told_by f_link_word : Addr) : MSs :=
  (.cons (.assign 3 (.callb .list (.cons (.loc 0) .nil)))
  (.cons (.assign 4 (.sub (.loc 3) (.loc 1)))
  (.cons (.while_ (.callf f_is_link (.cons (.loc 4) .nil)) (.cons (.assign 5 (.callf f_told_by (.cons (.loc 4) .nil)))
    (.cons (.assign 4 (.sub (.loc 3) (.loc 5)))
    (.cons (.setSub (.loc 3) (.loc 5) (.callf f_link_word (.cons (.loc 2) .nil)))
    .nil))))
  (.cons (.setSub (.loc 3) (.loc 1) (.loc 4))
  (.cons (.ret (.loc 3))
  .nil)))))
theorem led_ms {f_is_link f_told_by f_link_word row : Addr} {xs : List Int} {h : Nat} {p w e : Int} {cs : List Nat} (h1 : Fn1 cx n f_is_link fun w => .bool (w.fmod 2 == 1)) (h2 : Fn1 cx n f_told_by fun w => .int (w.fdiv 2)) (h3 : Fn1 cx n f_link_word fun p => .int (2 * p + 1))
    (hrow : lk cx H row = some (.list (intsV xs))) (hlen : xs.length ≤ 1000) (hh : xs[h]? = some w) (hc : Chain xs w cs e) (hnd : cs.Nodup) (hhn : h ∉ cs) (he : e % 2 = 0)
    (hQ : ∀ r, Fresh cx H r → Q (.ref r) (upd H r (.list (intsV ((setAll xs cs (2 * p + 1)).set h e))))) :
    mwpSs cx n (m_led f_is_link f_told_by f_link_word) [.ref row, .int h, .int p, .unb, .unb, .unb] H (NQ Q) (RQ Q) := by
  have hhl : h < xs.length := (List.getElem?_eq_some_iff.mp hh).1
  refine S_cons ?_
  walk_at "st"
  simp only [hrow, ints_length]
  refine ⟨by first | lia | omega, fun r hr => S_cons ?_⟩
  walk_at "st"
  simp only [lk_same, ints_length, ints_get?, Int.toNat_natCast, hh, Option.map_some]
  refine ⟨by first | lia | omega, by first | lia | omega, ?_⟩
  refine S_cut (fun μ H' => ∃ z, ∃ ys : List Int, μ = [.ref row, .int h, .int p, .ref r, .int e, z] ∧ ys.length = xs.length ∧ H' = upd H r (.list (intsV ys)) ∧ ys = setAll xs cs (2 * p + 1)) ?_ ?_
  · rw [s_while]
    refine ⟨fun k μ H' => ∃ (z : V) (ys : List Int) (w' : Int) (cs' : List Nat), μ = [.ref row, .int h, .int p, .ref r, .int w', z] ∧ H' = upd H r (.list (intsV ys)) ∧ ys.length = xs.length ∧ cs'.length = k ∧ Chain ys w' cs' e ∧ cs'.Nodup ∧ setAll ys cs' (2 * p + 1) = setAll xs cs (2 * p + 1), ⟨_, _, xs, w, cs, rfl, rfl, rfl, rfl, hc, hnd, rfl⟩, ?_⟩
    rintro k μ H' ⟨z, ys, w', cs', rfl, rfl, hyl, rfl, hch, hnd', heq⟩
    walk_at "st"
    refine h1 _ _ _ ?_
    walk_at "st"
    rw [fmod2]
    cases cs' with
    | nil =>
      have hw : w' = e := hch
      subst hw
      refine ⟨fun q => ?_, fun _ => ⟨_, ys, rfl, hyl, rfl, by rw [← heq, setAll_nil]⟩⟩
      rw [he] at q; cases q
    | cons c cs' =>
      obtain ⟨hw, w2, hw2, hch2⟩ := hch
      have hcl : c < ys.length := (List.getElem?_eq_some_iff.mp hw2).1
      refine ⟨fun _ => S_cons ?_, fun q => ?_⟩
      · walk_at "st"
        refine h2 _ _ _ ?_
        have e1 : w'.fdiv 2 = (c : Int) := by rw [fdiv2]; first | lia | omega
        dsimp only
        rw [e1]
        refine S_cons ?_
        walk_at "st"
        simp only [lk_same, ints_length, ints_get?, Int.toNat_natCast, hw2, Option.map_some]
        refine ⟨by first | lia | omega, by first | lia | omega, S_cons ?_⟩
        walk_at "st"
        refine h3 _ _ _ ?_
        dsimp only
        simp only [upd_same, ints_length, Int.toNat_natCast, ints_set, upd_upd]
        refine ⟨by first | lia | omega, by first | lia | omega, hcl, S_nil ⟨_, LE.refl _, cs'.length, by simp, _, ys.set c (2 * p + 1), w2, cs', rfl, rfl, by simp [hyl], rfl, Chain.set (List.nodup_cons.mp hnd').1 hch2, (List.nodup_cons.mp hnd').2, ?_⟩⟩
        rw [setAll_cons]; exact heq
      · rw [show w' % 2 = 1 from by first | lia | omega] at q; cases q
  rintro μ' H' ⟨z, ys, rfl, hyl, rfl, hys⟩
  refine S_cons ?_
  walk_at "st"
  simp only [upd_same, ints_length, Int.toNat_natCast, ints_set, upd_upd]
  refine ⟨by first | lia | omega, by first | lia | omega, by first | lia | omega, S_cons ?_⟩
  walk_at "st"
  rw [hys]
  exact RQ.here (hQ r hr)

noncomputable def LedSpec (cx : Cx) (n : Nat) (f : Addr) : Prop := ∀ (row : Addr) (xs : List Int) (h : Nat) (p w e : Int) (cs : List Nat) (H : HP) (Q : V → HP → Prop), lk cx H row = some (.list (intsV xs)) → xs.length ≤ 1000 → xs[h]? = some w → Chain xs w cs e → cs.Nodup → h ∉ cs → e % 2 = 0 →
    (∀ r, Fresh cx H r → Q (.ref r) (upd H r (.list (intsV ((setAll xs cs (2 * p + 1)).set h e))))) → CallP cx n f [.ref row, .int h, .int p] H Q
end
end Mine
end

section
namespace Mine

noncomputable def nw (B : Bx) (p : Nat → Bool) : Nat → Nat
  | 0 => 0
  | k + 1 => nw B p k + if p k then 1 + (B.getD k []).length else 0
noncomputable def kept (B : Bx) (p : Nat → Bool) : Nat → Bx
  | 0 => []
  | k + 1 => kept B p k ++ if p k then [B.getD k []] else []
theorem nw_succ {B : Bx} {p : Nat → Bool} {k : Nat} {fl : List Th} (h : B[k]? = some fl) : nw B p (k + 1) = nw B p k + if p k then 1 + fl.length else 0 := by rw [nw, getD_of h]
theorem nw_le {B : Bx} (p : Nat → Bool) : ∀ {k}, k ≤ B.length → nw B p k ≤ pl B k
  | 0, _ => by simp [nw]
  | k + 1, hk => by
    have ih := nw_le p (show k ≤ B.length by first | lia | omega)
    have h : B[k]? = some B[k] := List.getElem?_eq_getElem (by first | lia | omega)
    rw [pl_succ h, nw_succ h]
    split <;> omega
theorem kept_len (g : Nat → Nat) (B : Bx) (p : Nat → Bool) : ∀ k, (rowOf g (kept B p k)).length = nw B p k
  | 0 => by simp [kept, nw, rowOf]
  | k + 1 => by
    rw [kept, nw, rowOf_append, List.length_append, kept_len g B p k]
    split
    · simp [rowOf, cellsOf_length]
    · simp [rowOf]

theorem Chain.congr {xs ys : List Int} {e : Int} : ∀ {cs : List Nat} {w : Int}, (∀ c ∈ cs, ys[c]? = xs[c]?) → Chain xs w cs e → Chain ys w cs e
  | [], _, _, h => h
  | c :: cs, w, hn, ⟨h1, w', h2, h3⟩ => ⟨h1, w', by rw [hn c List.mem_cons_self]; exact h2, Chain.congr (fun c hc => hn c (List.mem_cons_of_mem _ hc)) h3⟩

structure TH (B : Bx) (lo N : Nat) (cs : Nat → List Nat) (val : Nat → Int) (row : List Int) : Prop where
  len : row.length = N
  hd : ∀ j, lo ≤ j → j < B.length → ∃ w, row[pl B j]? = some w ∧ Chain row w (cs j) (val (pl B j))
  vl : ∀ c, pl B lo ≤ c → c < N → (∀ j, c ∉ cs j) → (∀ j, j < B.length → c ≠ pl B j) → row[c]? = some (val c)
  nd : ∀ j, (cs j).Nodup
  dj : ∀ i j c, c ∈ cs i → c ∈ cs j → i = j
  nh : ∀ i j c, c ∈ cs i → j < B.length → c ≠ pl B j

theorem TH.hung {B : Bx} {lo N : Nat} {cs : Nat → List Nat} {val : Nat → Int} {row : List Int} (T : TH B lo N cs val row) {c j : Nat} {w : Int} (hlo : lo ≤ j) (hj : j < B.length) (hc : c < N)
    (h1 : ∀ i, c ∉ cs i) (h2 : ∀ i, i < B.length → c ≠ pl B i) (hw : row[pl B j]? = some w) :
    TH B lo N (fun i => if i = j then c :: cs j else cs i) val ((row.set c w).set (pl B j) (2 * (c : Int) + 1)) := by
  have hcl : c < row.length := by rw [T.len]; exact hc
  have hpl : pl B j < row.length := (List.getElem?_eq_some_iff.mp hw).1
  have hcj : c ≠ pl B j := h2 j hj
  refine ⟨by simp [T.len], ?_, ?_, ?_, ?_, ?_⟩
  · intro i hi hin
    by_cases q : i = j
    · subst q
      rw [if_pos rfl]
      obtain ⟨w', e1, e2⟩ := T.hd i hi hin
      rw [hw] at e1; cases e1
      refine ⟨2 * (c : Int) + 1, by simp [hpl], rfl, w, ?_, ?_⟩
      · rw [List.getElem?_set_ne (Ne.symm hcj)]; simp [hcl]
      · exact Chain.set (fun h => T.nh i i _ h hin rfl) (Chain.set (h1 i) e2)
    · rw [if_neg q]
      obtain ⟨w', e1, e2⟩ := T.hd i hi hin
      refine ⟨w', ?_, Chain.set (fun h => T.nh i j _ h hj rfl) (Chain.set (h1 i) e2)⟩
      rw [List.getElem?_set_ne (fun e => q (pl_inj hj hin e).symm), List.getElem?_set_ne (h2 i hin)]
      exact e1
  · intro c' hlo' hc' hn hh
    have hne : c ≠ c' := by
      intro e; subst e
      have := hn j
      rw [if_pos rfl] at this
      exact this List.mem_cons_self
    rw [List.getElem?_set_ne (fun e => hh j hj e.symm), List.getElem?_set_ne hne]
    refine T.vl c' hlo' hc' (fun i hi => ?_) hh
    have := hn i
    by_cases q : i = j
    · subst q; rw [if_pos rfl] at this; exact this (List.mem_cons_of_mem _ hi)
    · rw [if_neg q] at this; exact this hi
  · intro i
    by_cases q : i = j
    · subst q; rw [if_pos rfl]; exact List.nodup_cons.mpr ⟨h1 i, T.nd i⟩
    · rw [if_neg q]; exact T.nd i
  · intro i i' x hx hx'
    by_cases q : i = j
    · by_cases q' : i' = j
      · rw [q, q']
      · rw [if_pos q] at hx; rw [if_neg q'] at hx'
        rcases List.mem_cons.mp hx with rfl | hx
        · exact absurd hx' (h1 i')
        · rw [q]; exact T.dj j i' x hx hx'
    · by_cases q' : i' = j
      · rw [if_neg q] at hx; rw [if_pos q'] at hx'
        rcases List.mem_cons.mp hx' with rfl | hx'
        · exact absurd hx (h1 i)
        · rw [q']; exact T.dj i j x hx hx'
      · rw [if_neg q] at hx; rw [if_neg q'] at hx'; exact T.dj i i' x hx hx'
  · intro i i' x hx hi'
    by_cases q : i = j
    · rw [if_pos q] at hx
      rcases List.mem_cons.mp hx with rfl | hx
      · exact h2 i' hi'
      · exact T.nh j i' x hx hi'
    · rw [if_neg q] at hx; exact T.nh i i' x hx hi'

theorem TH.led {B : Bx} {lo N : Nat} {cs : Nat → List Nat} {val : Nat → Int} {row : List Int} (T : TH B lo N cs val row) {j : Nat} (v : Int) (hlo : lo ≤ j) (hj : j < B.length) :
    TH B lo N (fun i => if i = j then [] else cs i) (fun c => if c ∈ cs j then v else val c) ((setAll row (cs j) v).set (pl B j) (val (pl B j))) := by
  obtain ⟨w, hw, _⟩ := T.hd j hlo hj
  have hpl : pl B j < row.length := (List.getElem?_eq_some_iff.mp hw).1
  have hnj : ∀ i, i < B.length → pl B i ∉ cs j := fun i hi h => T.nh j i _ h hi rfl
  refine ⟨by simp [T.len, setAll_length], ?_, ?_, ?_, ?_, ?_⟩
  · intro i hi hin
    rw [if_neg (hnj i hin)]
    by_cases q : i = j
    · subst q
      rw [if_pos rfl]
      exact ⟨_, by simp [setAll_length, hpl], rfl⟩
    · rw [if_neg q]
      obtain ⟨w', e1, e2⟩ := T.hd i hi hin
      refine ⟨w', ?_, Chain.congr (fun c hc => ?_) e2⟩
      · rw [List.getElem?_set_ne (fun e => q (pl_inj hj hin e).symm), setAll_get, e1, Option.map_some, if_neg (hnj i hin)]
      · rw [List.getElem?_set_ne (fun e => T.nh i j c hc hj e.symm), setAll_get]
        have : c ∉ cs j := fun h => q (T.dj i j c hc h)
        simp [this]
  · intro c hlo' hc hn hh
    rw [List.getElem?_set_ne (fun e => hh j hj e.symm), setAll_get]
    have hcl : c < row.length := by rw [T.len]; exact hc
    by_cases q : c ∈ cs j
    · rw [if_pos q, List.getElem?_eq_getElem hcl]; simp [q]
    · rw [if_neg q, T.vl c hlo' hc (fun i hi => ?_) hh]
      · simp [q]
      · by_cases q2 : i = j
        · subst q2; exact q hi
        · have := hn i; rw [if_neg q2] at this; exact this hi
  · intro i
    by_cases q : i = j
    · rw [if_pos q]; exact List.nodup_nil
    · rw [if_neg q]; exact T.nd i
  · intro i i' x hx hx'
    by_cases q : i = j
    · rw [if_pos q] at hx; cases hx
    · by_cases q' : i' = j
      · rw [if_pos q'] at hx'; cases hx'
      · rw [if_neg q] at hx; rw [if_neg q'] at hx'; exact T.dj i i' x hx hx'
  · intro i i' x hx hi'
    by_cases q : i = j
    · rw [if_pos q] at hx; cases hx
    · rw [if_neg q] at hx; exact T.nh i i' x hx hi'

structure IG (B : Bx) (p : Nat → Bool) (D R : Nat → Nat → Nat → Prop) (cs : Nat → List Nat) (val : Nat → Int) : Prop where
  cs : ∀ c j, c ∈ cs j ↔ ∃ (i f : Nat) (fl : List Th), B[i]? = some fl ∧ fl[f]? = some (true, (j : Int)) ∧ c = pl B i + 1 + f ∧ D i f j
  vn : ∀ {i f : Nat} {fl : List Th} {v : Int}, B[i]? = some fl → fl[f]? = some (false, v) → val (pl B i + 1 + f) = 2 * v
  vr : ∀ {i f j : Nat} {fl : List Th}, B[i]? = some fl → fl[f]? = some (true, (j : Int)) → R i f j → val (pl B i + 1 + f) = 2 * (nw B p j : Int) + 1
  vo : ∀ {i f j : Nat} {fl : List Th}, B[i]? = some fl → fl[f]? = some (true, (j : Int)) → ¬ R i f j → val (pl B i + 1 + f) = 2 * (pl B j : Int) + 1
  hd : ∀ {j : Nat} {fl : List Th}, B[j]? = some fl → val (pl B j) = 4 * (fl.length : Int) + if p j then 2 else 0

theorem cell_inj {B : Bx} {i i' f f' : Nat} {fl fl' : List Th} (h : B[i]? = some fl) (h' : B[i']? = some fl') (hf : f < fl.length) (hf' : f' < fl'.length) (e : pl B i + 1 + f = pl B i' + 1 + f') : i = i' ∧ f = f' := by
  have a := pl_succ h
  have a' := pl_succ h'
  rcases Nat.lt_trichotomy i i' with q | q | q
  · have := pl_mono (B := B) (show i + 1 ≤ i' from q); first | lia | omega
  · subst q; exact ⟨rfl, by first | lia | omega⟩
  · have := pl_mono (B := B) (show i' + 1 ≤ i from q); first | lia | omega

noncomputable def ST (B : Bx) (p : Nat → Bool) (lo N : Nat) (D R : Nat → Nat → Nat → Prop) (row : List Int) : Prop := ∃ cs val, TH B lo N cs val row ∧ IG B p D R cs val

section
variable {B : Bx} {p : Nat → Bool} {lo N : Nat} {D R D' R' : Nat → Nat → Nat → Prop} {row : List Int}

theorem ST.congr (w : WFB B) (S : ST B p lo N D R row) (hD : ∀ (i f j : Nat) (fl : List Th), B[i]? = some fl → fl[f]? = some (true, (j : Int)) → j < B.length → (D i f j ↔ D' i f j)) (hR : ∀ (i f j : Nat) (fl : List Th), B[i]? = some fl → fl[f]? = some (true, (j : Int)) → j < B.length → (R i f j ↔ R' i f j)) : ST B p lo N D' R' row := by
  obtain ⟨cs, val, T, I⟩ := S
  have key : ∀ {i f j : Nat} {fl : List Th}, B[i]? = some fl → fl[f]? = some (true, (j : Int)) → fl[f]? = some (true, (j : Int)) ∧ j < B.length := by
    intro i f j fl h1 h2
    refine ⟨h2, ?_⟩
    obtain ⟨j', e, hj⟩ := w.tgt _ (List.mem_of_getElem? h1) _ (List.mem_of_getElem? h2) rfl
    have : j = j' := Int.ofNat.inj e
    omega
  refine ⟨cs, val, T, ?_, I.vn, ?_, ?_, I.hd⟩
  · intro c j
    rw [I.cs]
    refine ⟨fun ⟨i, f, fl, a, b, e, d⟩ => ⟨i, f, fl, a, b, e, (hD i f j fl a (key a b).1 (key a b).2).mp d⟩, fun ⟨i, f, fl, a, b, e, d⟩ => ⟨i, f, fl, a, b, e, (hD i f j fl a (key a b).1 (key a b).2).mpr d⟩⟩
  · intro i f j fl a b d; exact I.vr a b ((hR i f j fl a (key a b).1 (key a b).2).mpr d)
  · intro i f j fl a b d; exact I.vo a b fun q => d ((hR i f j fl a (key a b).1 (key a b).2).mp q)

theorem ST.head (S : ST B p lo N D R row) {k : Nat} {fl : List Th} (hlo : lo ≤ k) (hk : B[k]? = some fl) (hDR : ∀ i f j, D i f j → ¬ R i f j) :
    ∃ (w : Int) (cs : List Nat), row[pl B k]? = some w ∧ Chain row w cs (4 * (fl.length : Int) + if p k then 2 else 0) ∧ cs.Nodup ∧ pl B k ∉ cs ∧ (∀ c ∈ cs, ∃ (i f : Nat) (fl : List Th), B[i]? = some fl ∧ f < fl.length ∧ c = pl B i + 1 + f ∧ D i f k) ∧
      ((setAll row cs (2 * (nw B p k : Int) + 1)).set (pl B k) (4 * (fl.length : Int) + if p k then 2 else 0))[pl B k]? = some (4 * (fl.length : Int) + if p k then 2 else 0) ∧
      ST B p lo N (fun i f j => D i f j ∧ j ≠ k) (fun i f j => R i f j ∨ (D i f j ∧ j = k)) ((setAll row cs (2 * (nw B p k : Int) + 1)).set (pl B k) (4 * (fl.length : Int) + if p k then 2 else 0)) := by
  obtain ⟨cs, val, T, I⟩ := S
  have hkl : k < B.length := (List.getElem?_eq_some_iff.mp hk).1
  obtain ⟨w, hw, hc⟩ := T.hd k hlo hkl
  have hpl : pl B k < row.length := (List.getElem?_eq_some_iff.mp hw).1
  have hv := I.hd hk
  rw [hv] at hc
  refine ⟨w, cs k, hw, hc, T.nd k, fun h => T.nh k k _ h hkl rfl, ?_, by simp [setAll_length, hpl], _, _, (by have := T.led (2 * (nw B p k : Int) + 1) hlo hkl; rw [hv] at this; exact this), ?_, ?_, ?_, ?_, ?_⟩
  · intro c hc
    obtain ⟨i, f, fl', a, b, e, d⟩ := (I.cs _ _).mp hc
    exact ⟨i, f, fl', a, (List.getElem?_eq_some_iff.mp b).1, e, d⟩
  · intro c j
    by_cases q : j = k
    · rw [if_pos q]
      refine ⟨fun h => (by cases h), fun ⟨i, f, fl, a, b, e, d⟩ => absurd q d.2⟩
    · rw [if_neg q, I.cs]
      exact ⟨fun ⟨i, f, fl, a, b, e, d⟩ => ⟨i, f, fl, a, b, e, d, q⟩, fun ⟨i, f, fl, a, b, e, d⟩ => ⟨i, f, fl, a, b, e, d.1⟩⟩
  · intro i f fl' v a b
    rw [if_neg, I.vn a b]
    intro h
    obtain ⟨i', f', fl'', a', b', e', d'⟩ := (I.cs _ _).mp h
    obtain ⟨rfl, rfl⟩ := cell_inj a a' (List.getElem?_eq_some_iff.mp b).1 (List.getElem?_eq_some_iff.mp b').1 e'
    rw [a] at a'; cases a'
    rw [b] at b'; cases b'
  · intro i f j fl' a b d
    rcases d with d | ⟨d, rfl⟩
    · by_cases q : pl B i + 1 + f ∈ cs k
      · rw [if_pos q]
        obtain ⟨i', f', fl'', a', b', e', d'⟩ := (I.cs _ _).mp q
        obtain ⟨rfl, rfl⟩ := cell_inj a a' (List.getElem?_eq_some_iff.mp b).1 (List.getElem?_eq_some_iff.mp b').1 e'
        rw [a] at a'; cases a'
        rw [b] at b'
        have : j = k := by injection b' with b'; injection b' with _ b'; exact Int.ofNat.inj b'
        subst this; rfl
      · rw [if_neg q]; exact I.vr a b d
    · rw [if_pos ((I.cs _ _).mpr ⟨i, f, fl', a, b, rfl, d⟩)]
  · intro i f j fl' a b d
    rw [if_neg]
    · exact I.vo a b fun q => d (.inl q)
    · intro q
      obtain ⟨i', f', fl'', a', b', e', d'⟩ := (I.cs _ _).mp q
      obtain ⟨rfl, rfl⟩ := cell_inj a a' (List.getElem?_eq_some_iff.mp b).1 (List.getElem?_eq_some_iff.mp b').1 e'
      rw [a] at a'; cases a'
      rw [b] at b'
      have : j = k := by injection b' with b'; injection b' with _ b'; exact Int.ofNat.inj b'
      subst this
      exact d (.inr ⟨d', rfl⟩)
  · intro j fl' a
    rw [if_neg fun h => T.nh k j _ h (List.getElem?_eq_some_iff.mp a).1 rfl]
    exact I.hd a

theorem ST.cell (S : ST B p lo N D R row) {k f : Nat} {fl : List Th} {t : Th} (hlo : lo ≤ k) (hk : B[k]? = some fl) (hf : fl[f]? = some t) (hN : pl B (k + 1) ≤ N) (hD : ∀ j : Nat, t = (true, (j : Int)) → ¬ D k f j) :
    ∃ v, row[pl B k + 1 + f]? = some v ∧ (t.1 = false → v = 2 * t.2) ∧ ∀ j : Nat, t = (true, (j : Int)) → (R k f j → v = 2 * (nw B p j : Int) + 1) ∧ (¬ R k f j → v = 2 * (pl B j : Int) + 1) := by
  obtain ⟨cs, val, T, I⟩ := S
  have hfl := (List.getElem?_eq_some_iff.mp hf).1
  have h1 := pl_succ hk
  have h2 := pl_mono (B := B) hlo
  refine ⟨_, T.vl _ (by first | lia | omega) (by first | lia | omega) (fun j h => ?_) (fun j _ => pl_ne hk hfl), ?_, ?_⟩
  · obtain ⟨i', f', fl'', a', b', e', d'⟩ := (I.cs _ _).mp h
    obtain ⟨rfl, rfl⟩ := cell_inj hk a' hfl (List.getElem?_eq_some_iff.mp b').1 e'
    rw [hk] at a'; cases a'
    rw [hf] at b'; cases b'
    exact hD j rfl d'
  · intro e
    obtain ⟨b, v⟩ := t
    dsimp only at e; subst e
    exact I.vn hk hf
  · rintro j rfl
    exact ⟨I.vr hk hf, I.vo hk hf⟩

theorem ST.hung (S : ST B p lo N D R row) {k f j : Nat} {fl : List Th} (hk : B[k]? = some fl) (hf : fl[f]? = some (true, (j : Int))) (hN : pl B (k + 1) ≤ N) (hlo : lo ≤ j) (hj : j < B.length) (hD : ¬ D k f j) (hR : ¬ R k f j) :
    ∃ w, row[pl B j]? = some w ∧ ST B p lo N (fun i g j => D i g j ∨ (i = k ∧ g = f)) R ((row.set (pl B k + 1 + f) w).set (pl B j) (2 * ((pl B k + 1 + f : Nat) : Int) + 1)) := by
  obtain ⟨cs, val, T, I⟩ := S
  have hfl := (List.getElem?_eq_some_iff.mp hf).1
  have h1 := pl_succ hk
  obtain ⟨w, hw, hc⟩ := T.hd j hlo hj
  have hno : ∀ i, pl B k + 1 + f ∉ cs i := fun j' h => by
    obtain ⟨i', f', fl'', a', b', e', d'⟩ := (I.cs _ _).mp h
    obtain ⟨rfl, rfl⟩ := cell_inj hk a' hfl (List.getElem?_eq_some_iff.mp b').1 e'
    rw [hk] at a'; cases a'
    rw [hf] at b'
    have : j = j' := by injection b' with b'; injection b' with _ b'; exact Int.ofNat.inj b'
    subst this
    exact hD d'
  refine ⟨w, hw, _, _, T.hung hlo hj (by first | lia | omega) hno (fun i _ => pl_ne hk hfl) hw, ?_, I.vn, I.vr, I.vo, I.hd⟩
  intro c j'
  by_cases q : j' = j
  · subst q
    rw [if_pos rfl, List.mem_cons, I.cs]
    constructor
    · rintro (rfl | ⟨i, g, fl', a, b, e, d⟩)
      · exact ⟨k, f, fl, hk, hf, rfl, .inr ⟨rfl, rfl⟩⟩
      · exact ⟨i, g, fl', a, b, e, .inl d⟩
    · rintro ⟨i, g, fl', a, b, e, d | ⟨rfl, rfl⟩⟩
      · exact .inr ⟨i, g, fl', a, b, e, d⟩
      · exact .inl e
  · rw [if_neg q, I.cs]
    constructor
    · rintro ⟨i, g, fl', a, b, e, d⟩; exact ⟨i, g, fl', a, b, e, .inl d⟩
    · rintro ⟨i, g, fl', a, b, e, d | ⟨rfl, rfl⟩⟩
      · exact ⟨i, g, fl', a, b, e, d⟩
      · rw [hk] at a; cases a
        rw [hf] at b
        have : j = j' := by injection b with b; injection b with _ b; exact Int.ofNat.inj b
        exact absurd this.symm q

theorem ST.up (S : ST B p lo N D R row) {row' : List Int} (hl : row'.length = row.length) (hlt : lo < B.length) (h : ∀ c, pl B (lo + 1) ≤ c → row'[c]? = row[c]?) (hD : ∀ i f j, D i f j → lo < i) : ST B p (lo + 1) N D R row' := by
  obtain ⟨cs, val, T, I⟩ := S
  have hs := pl_step B lo
  refine ⟨cs, val, ⟨hl.trans T.len, ?_, ?_, T.nd, T.dj, T.nh⟩, I⟩
  · intro j hj hjn
    obtain ⟨w, hw, hc⟩ := T.hd j (by first | lia | omega) hjn
    refine ⟨w, by rw [h _ (pl_mono hj)]; exact hw, Chain.congr (fun c hc => ?_) hc⟩
    obtain ⟨i, f, fl, a, b, e, d⟩ := (I.cs _ _).mp hc
    refine h c ?_
    have := pl_mono (B := B) (show lo + 1 ≤ i from hD i f j d)
    omega
  · intro c hlo hc hn hh
    rw [h c hlo]
    exact T.vl c (by first | lia | omega) hc hn hh

theorem ST.start {xs : List Int} {M : List Nat} (w : WFB B) (s : Shp B xs) (hp : ∀ k, p k = true ↔ k ∈ M) (hM : ∀ k ∈ M, k < B.length) : ST B p 0 xs.length (fun _ _ _ => False) (fun _ _ _ => False) (bump xs (M.map (pl B))) := by
  have hf : ∀ {i f : Nat} {fl : List Th} {t : Th}, B[i]? = some fl → fl[f]? = some t → (bump xs (M.map (pl B))).getD (pl B i + 1 + f) 0 = word (pl B) t := by
    intro i f fl t a b
    rw [List.getD, bump_get, s.fld a b, Option.map_some, if_neg]
    · rfl
    · intro h
      obtain ⟨k, _, e⟩ := List.mem_map.mp h
      exact pl_ne a (List.getElem?_eq_some_iff.mp b).1 e.symm
  have hh : ∀ {j : Nat} {fl : List Th}, B[j]? = some fl → (bump xs (M.map (pl B)))[pl B j]? = some (4 * (fl.length : Int) + if p j then 2 else 0) := by
    intro j fl a
    have hjl := (List.getElem?_eq_some_iff.mp a).1
    rw [bump_get, s.hd a, Option.map_some]
    have : pl B j ∈ M.map (pl B) ↔ p j = true := by
      rw [hp, List.mem_map]
      refine ⟨fun ⟨k, hk, e⟩ => ?_, fun h => ⟨j, h, rfl⟩⟩
      rw [← pl_inj (hM k hk) hjl e]; exact hk
    by_cases q : p j = true
    · rw [if_pos (this.mpr q), if_pos q]
    · rw [if_neg (fun h => q (this.mp h)), if_neg q]; simp
  refine ⟨fun _ => [], fun c => (bump xs (M.map (pl B))).getD c 0, ⟨by rw [bump_length], ?_, ?_, fun _ => List.nodup_nil, fun _ _ _ h => (by cases h), fun _ _ _ h => (by cases h)⟩, ?_, ?_, ?_, ?_, ?_⟩
  · intro j _ hj
    have := hh (List.getElem?_eq_getElem hj)
    exact ⟨_, this, by rw [Chain, List.getD, this]; rfl⟩
  · intro c _ hc _ _
    have : c < (bump xs (M.map (pl B))).length := by rw [bump_length]; exact hc
    simp [List.getD, this]
  · intro c j
    exact ⟨fun h => (by cases h), fun ⟨_, _, _, _, _, _, h⟩ => h.elim⟩
  · intro i f fl v a b
    rw [hf a b]; simp [word]
  · intro i f j fl a b h; exact h.elim
  · intro i f j fl a b _
    rw [hf a b]; simp [word]
  · intro j fl a
    rw [List.getD, hh a]; rfl
end
end Mine
end

section
namespace Mine
section
variable {B : Bx} {p : Nat → Bool} {N k : Nat} {row : List Int} {fl : List Th}

noncomputable def S1 (B : Bx) (p : Nat → Bool) (N h C : Nat) (row : List Int) : Prop := ST B p 0 N (fun i f j => p i = true ∧ pl B i + 1 + f < C ∧ (h ≤ j ∨ j ≤ i)) (fun i f j => p i = true ∧ pl B i + 1 + f < C ∧ i < j ∧ j < h) row
noncomputable def S2 (B : Bx) (p : Nat → Bool) (N lo h : Nat) (row : List Int) : Prop := ST B p lo N (fun i _ j => p i = true ∧ j ≤ i ∧ h ≤ j) (fun i _ j => p i = true ∧ (i < j ∨ j < h)) row

theorem cell_lt {i f k : Nat} {fi : List Th} (h : B[i]? = some fi) (hf : f < fi.length) (hlt : pl B i + 1 + f < pl B k + 1) : i < k := by
  rcases Nat.lt_or_ge i k with q | q
  · exact q
  · have := pl_mono (B := B) q; first | lia | omega
theorem cell_lt' {i f k : Nat} {fi : List Th} (h : B[i]? = some fi) (hf : f < fi.length) (hlt : i < k) : pl B i + 1 + f < pl B k := by
  have a := pl_succ h
  have := pl_mono (B := B) (show i + 1 ≤ k from hlt); first | lia | omega
theorem len_of {f : Nat} {t : Th} {fi : List Th} (h : fi[f]? = some t) : f < fi.length := (List.getElem?_eq_some_iff.mp h).1

theorem S1.start {xs : List Int} {M : List Nat} (w : WFB B) (s : Shp B xs) (hp : ∀ k, p k = true ↔ k ∈ M) (hM : ∀ k ∈ M, k < B.length) : S1 B p xs.length 0 (pl B 0) (bump xs (M.map (pl B))) := by
  refine (ST.start w s hp hM).congr w ?_ ?_
  · intro i f j fi _ _ _; rw [pl_zero]; constructor
    · exact False.elim
    · rintro ⟨_, h, _⟩; first | lia | omega
  · intro i f j fi _ _ _; rw [pl_zero]; constructor
    · exact False.elim
    · rintro ⟨_, h, _⟩; first | lia | omega

theorem S1.head (w : WFB B) (S : S1 B p N k (pl B k) row) (hk : B[k]? = some fl) :
    ∃ (w : Int) (cs : List Nat), row[pl B k]? = some w ∧ Chain row w cs (4 * (fl.length : Int) + if p k then 2 else 0) ∧ cs.Nodup ∧ pl B k ∉ cs ∧
      ((setAll row cs (2 * (nw B p k : Int) + 1)).set (pl B k) (4 * (fl.length : Int) + if p k then 2 else 0))[pl B k]? = some (4 * (fl.length : Int) + if p k then 2 else 0) ∧
      S1 B p N (k + 1) (pl B k + 1) ((setAll row cs (2 * (nw B p k : Int) + 1)).set (pl B k) (4 * (fl.length : Int) + if p k then 2 else 0)) := by
  obtain ⟨wd, cs, h1, h2, h3, h4, _, h5, h6⟩ := ST.head S (Nat.zero_le k) hk (fun i f j ⟨_, _, a⟩ ⟨_, _, b⟩ => by first | lia | omega)
  refine ⟨wd, cs, h1, h2, h3, h4, h5, h6.congr w ?_ ?_⟩
  · intro i f j fi hi hf hj
    have hfl := len_of hf
    constructor
    · rintro ⟨⟨a, b, c⟩, d⟩; exact ⟨a, by first | lia | omega, by first | lia | omega⟩
    · rintro ⟨a, b, c⟩
      have := cell_lt hi hfl b
      have := cell_lt' hi hfl this
      exact ⟨⟨a, by first | lia | omega, by first | lia | omega⟩, by first | lia | omega⟩
  · intro i f j fi hi hf hj
    have hfl := len_of hf
    constructor
    · rintro (⟨a, b, c⟩ | ⟨⟨a, b, c⟩, d⟩)
      · exact ⟨a, by first | lia | omega, by first | lia | omega⟩
      · have := cell_lt hi hfl (show pl B i + 1 + f < pl B k + 1 by first | lia | omega)
        exact ⟨a, by first | lia | omega, by first | lia | omega⟩
    · rintro ⟨a, b, c, d⟩
      have := cell_lt hi hfl b
      have := cell_lt' hi hfl this
      by_cases q : j = k
      · exact .inr ⟨⟨a, by first | lia | omega, by first | lia | omega⟩, q⟩
      · exact .inl ⟨a, by first | lia | omega, by first | lia | omega⟩


theorem S1.field (w : WFB B) {f : Nat} {t : Th} (S : S1 B p N (k + 1) (pl B k + 1 + f) row) (hk : B[k]? = some fl) (hp : p k = true) (hf : fl[f]? = some t) (hN : pl B (k + 1) ≤ N) :
    (t.1 = false ∧ row[pl B k + 1 + f]? = some (2 * t.2) ∧ S1 B p N (k + 1) (pl B k + 1 + (f + 1)) row) ∨
    ∃ (j : Nat) (wh : Int), row[pl B k + 1 + f]? = some (2 * (pl B j : Int) + 1) ∧ row[pl B j]? = some wh ∧ S1 B p N (k + 1) (pl B k + 1 + (f + 1)) ((row.set (pl B k + 1 + f) wh).set (pl B j) (2 * ((pl B k + 1 + f : Nat) : Int) + 1)) := by
  have hfl := len_of hf
  obtain ⟨v, e1, e2, e3⟩ := ST.cell S (Nat.zero_le k) hk hf hN (fun j _ ⟨_, a, _⟩ => by first | lia | omega)
  obtain ⟨b, u⟩ := t
  cases b with
  | false =>
    refine .inl ⟨rfl, by rw [e1, e2 rfl], ?_⟩
    refine ST.congr w S ?_ ?_
    · intro i g j fi hi hg hj
      have hgl := len_of hg
      constructor
      · rintro ⟨a, b, c⟩; exact ⟨a, by first | lia | omega, c⟩
      · rintro ⟨a, b, c⟩
        refine ⟨a, ?_, c⟩
        by_cases q : pl B i + 1 + g = pl B k + 1 + f
        · obtain ⟨rfl, rfl⟩ := cell_inj hi hk hgl hfl q
          rw [hk] at hi; cases hi; rw [hf] at hg; cases hg
        · omega
    · intro i g j fi hi hg hj
      have hgl := len_of hg
      constructor
      · rintro ⟨a, b, c⟩; exact ⟨a, by first | lia | omega, c⟩
      · rintro ⟨a, b, c⟩
        refine ⟨a, ?_, c⟩
        by_cases q : pl B i + 1 + g = pl B k + 1 + f
        · obtain ⟨rfl, rfl⟩ := cell_inj hi hk hgl hfl q
          rw [hk] at hi; cases hi; rw [hf] at hg; cases hg
        · omega
  | true =>
    obtain ⟨j, rfl, hj⟩ := tgt_of w hk hf
    have hnR : ¬ (p k = true ∧ pl B k + 1 + f < pl B k + 1 + f ∧ k < j ∧ j < k + 1) := fun ⟨_, a, _⟩ => by first | lia | omega
    obtain ⟨wh, g1, g2⟩ := ST.hung S hk hf hN (Nat.zero_le j) hj (fun ⟨_, a, _⟩ => by first | lia | omega) hnR
    refine .inr ⟨j, wh, by rw [e1, (e3 j rfl).2 hnR], g1, g2.congr w ?_ ?_⟩
    · intro i g j' fi hi hg hj'
      have hgl := len_of hg
      constructor
      · rintro (⟨a, b, c⟩ | ⟨rfl, rfl⟩)
        · exact ⟨a, by first | lia | omega, c⟩
        · exact ⟨hp, by first | lia | omega, by first | lia | omega⟩
      · rintro ⟨a, b, c⟩
        by_cases q : pl B i + 1 + g = pl B k + 1 + f
        · obtain ⟨rfl, rfl⟩ := cell_inj hi hk hgl hfl q
          exact .inr ⟨rfl, rfl⟩
        · exact .inl ⟨a, by first | lia | omega, c⟩
    · intro i g j' fi hi hg hj'
      have hgl := len_of hg
      constructor
      · rintro ⟨a, b, c⟩; exact ⟨a, by first | lia | omega, c⟩
      · rintro ⟨a, b, c⟩
        refine ⟨a, ?_, c⟩
        by_cases q : pl B i + 1 + g = pl B k + 1 + f
        · obtain ⟨rfl, rfl⟩ := cell_inj hi hk hgl hfl q
          omega
        · omega
theorem S1.skip (w : WFB B) (S : S1 B p N (k + 1) (pl B k + 1) row) (hk : B[k]? = some fl) (hp : p k = false) : S1 B p N (k + 1) (pl B (k + 1)) row := by
  have hs := pl_succ hk
  refine ST.congr w S ?_ ?_
  · intro i g j fi hi hg hj
    have hgl := len_of hg
    constructor
    · rintro ⟨a, b, c⟩; exact ⟨a, by first | lia | omega, c⟩
    · rintro ⟨a, b, c⟩
      have h1 := cell_lt (k := k + 1) hi hgl (by first | lia | omega)
      have h2 : i ≠ k := fun e => by subst e; rw [hp] at a; cases a
      have h3 := cell_lt' (k := k) hi hgl (by first | lia | omega)
      exact ⟨a, by first | lia | omega, c⟩
  · intro i g j fi hi hg hj
    have hgl := len_of hg
    constructor
    · rintro ⟨a, b, c⟩; exact ⟨a, by first | lia | omega, c⟩
    · rintro ⟨a, b, c⟩
      have h1 := cell_lt (k := k + 1) hi hgl (by first | lia | omega)
      have h2 : i ≠ k := fun e => by subst e; rw [hp] at a; cases a
      have h3 := cell_lt' (k := k) hi hgl (by first | lia | omega)
      exact ⟨a, by first | lia | omega, c⟩
theorem S1.fin (w : WFB B) (S : S1 B p N B.length (pl B B.length) row) : S2 B p N 0 0 row := by
  refine ST.congr w S ?_ ?_
  · intro i g j fi hi hg hj
    have hgl := len_of hg
    have hil := (List.getElem?_eq_some_iff.mp hi).1
    have h3 := cell_lt' (k := B.length) hi hgl hil
    constructor
    · rintro ⟨a, b, c⟩; exact ⟨a, by first | lia | omega, by first | lia | omega⟩
    · rintro ⟨a, b, c⟩; exact ⟨a, by first | lia | omega, by first | lia | omega⟩
  · intro i g j fi hi hg hj
    have hgl := len_of hg
    have hil := (List.getElem?_eq_some_iff.mp hi).1
    have h3 := cell_lt' (k := B.length) hi hgl hil
    constructor
    · rintro ⟨a, b, c⟩; exact ⟨a, by first | lia | omega⟩
    · rintro ⟨a, b⟩; exact ⟨a, by first | lia | omega, by first | lia | omega⟩

structure P2S (B : Bx) (p : Nat → Bool) (N k : Nat) (row : List Int) : Prop where
  s : S2 B p N k k row
  pre : row.take (nw B p k) = rowOf (nw B p) (kept B p k)
structure P2M (B : Bx) (p : Nat → Bool) (N k : Nat) (fl : List Th) (row : List Int) : Prop where
  s : S2 B p N k (k + 1) row
  pre : row.take (nw B p k) = rowOf (nw B p) (kept B p k)
  flds : p k = true → ∀ {f : Nat} {t : Th}, fl[f]? = some t → row[pl B k + 1 + f]? = some (word (nw B p) t)
theorem S2.len (S : S2 B p N k k row) : row.length = N := by
  obtain ⟨_, _, T, _⟩ := S; exact T.len
theorem take_ext {xs ys : List Int} {n : Nat} (h : ∀ i, i < n → xs[i]? = ys[i]?) : xs.take n = ys.take n := by
  apply List.ext_getElem?; intro i
  rw [List.getElem?_take, List.getElem?_take]
  split
  · rename_i q; exact h i q
  · rfl
theorem P2S.head (w : WFB B) (S : P2S B p N k row) (hk : B[k]? = some fl) (hN : pl B B.length ≤ N) :
    ∃ (w : Int) (cs : List Nat), row[pl B k]? = some w ∧ Chain row w cs (4 * (fl.length : Int) + if p k then 2 else 0) ∧ cs.Nodup ∧ pl B k ∉ cs ∧
      ((setAll row cs (2 * (nw B p k : Int) + 1)).set (pl B k) (4 * (fl.length : Int) + if p k then 2 else 0))[pl B k]? = some (4 * (fl.length : Int) + if p k then 2 else 0) ∧
      P2M B p N k fl ((setAll row cs (2 * (nw B p k : Int) + 1)).set (pl B k) (4 * (fl.length : Int) + if p k then 2 else 0)) := by
  have hkl := (List.getElem?_eq_some_iff.mp hk).1
  obtain ⟨wd, cs, h1, h2, h3, h4, hcs, h5, h6⟩ := ST.head S.s (Nat.le_refl k) hk (fun i f j ⟨_, a, b⟩ ⟨_, c⟩ => by first | lia | omega)
  have S' : S2 B p N k (k + 1) ((setAll row cs (2 * (nw B p k : Int) + 1)).set (pl B k) (4 * (fl.length : Int) + if p k then 2 else 0)) := by
    refine h6.congr w ?_ ?_
    · intro i f j fi hi hf hj
      constructor
      · rintro ⟨⟨a, b, c⟩, d⟩; exact ⟨a, b, by first | lia | omega⟩
      · rintro ⟨a, b, c⟩; exact ⟨⟨a, b, by first | lia | omega⟩, by first | lia | omega⟩
    · intro i f j fi hi hf hj
      constructor
      · rintro (⟨a, b⟩ | ⟨⟨a, b, c⟩, d⟩)
        · exact ⟨a, by first | lia | omega⟩
        · exact ⟨a, by first | lia | omega⟩
      · rintro ⟨a, b⟩
        by_cases q : j = k
        · by_cases q2 : k ≤ i
          · exact .inr ⟨⟨a, by first | lia | omega, by first | lia | omega⟩, q⟩
          · exact .inl ⟨a, by first | lia | omega⟩
        · exact .inl ⟨a, by first | lia | omega⟩
  refine ⟨wd, cs, h1, h2, h3, h4, h5, S', ?_, ?_⟩
  · rw [← S.pre]
    have hnl := nw_le (B := B) p (show k ≤ B.length by first | lia | omega)
    refine take_ext fun i hi => ?_
    rw [List.getElem?_set_ne (by first | lia | omega), setAll_get]
    have : i ∉ cs := by
      intro h
      obtain ⟨i', f, fi, a, b, e, _, d, _⟩ := hcs i h
      have := pl_mono (B := B) d
      omega
    simp [this]
  · intro hp f t hf
    have hN' : pl B (k + 1) ≤ N := Nat.le_trans (pl_mono (show k + 1 ≤ B.length by first | lia | omega)) hN
    obtain ⟨v, e1, e2, e3⟩ := ST.cell S' (Nat.le_refl k) hk hf hN' (fun j _ ⟨_, a, b⟩ => by first | lia | omega)
    rw [e1]
    obtain ⟨b, u⟩ := t
    cases b with
    | false => rw [e2 rfl]; simp [word]
    | true =>
      obtain ⟨j, rfl, hj⟩ := tgt_of w hk hf
      rw [(e3 j rfl).1 ⟨hp, by first | lia | omega⟩]; simp [word]
theorem S2.up {lo : Nat} {row' : List Int} (S : S2 B p N lo (lo + 1) row) (hl : row'.length = row.length) (hlt : lo < B.length) (h : ∀ c, pl B (lo + 1) ≤ c → row'[c]? = row[c]?) : S2 B p N (lo + 1) (lo + 1) row' :=
  ST.up S hl hlt h fun i f j ⟨_, a, b⟩ => by first | lia | omega
theorem P2M.skip (S : P2M B p N k fl row) (hk : B[k]? = some fl) (hp : p k = false) : P2S B p N (k + 1) row := by
  have hkl := (List.getElem?_eq_some_iff.mp hk).1
  refine ⟨S.s.up rfl hkl fun _ _ => rfl, ?_⟩
  rw [nw_succ hk, kept, hp]
  simpa using S.pre
structure Mvd (row ys : List Int) (at_ free many : Nat) : Prop where
  len : ys.length = row.length
  head : ys[free]? = some (4 * (many : Int))
  flds : ∀ i, i < many → ys[free + 1 + i]? = row[at_ + 1 + i]?
  rest : ∀ i, i < free ∨ free + 1 + many ≤ i → ys[i]? = row[i]?
theorem P2M.move {ys : List Int} (S : P2M B p N k fl row) (hk : B[k]? = some fl) (hp : p k = true) (M : Mvd row ys (pl B k) (nw B p k) fl.length) : P2S B p N (k + 1) ys := by
  have hkl := (List.getElem?_eq_some_iff.mp hk).1
  have hnl := nw_le (B := B) p (show k ≤ B.length by first | lia | omega)
  have hs := pl_succ hk
  refine ⟨S.s.up M.len hkl fun c hc => M.rest c (.inr (by first | lia | omega)), ?_⟩
  have hlen : (rowOf (nw B p) (kept B p k)).length = nw B p k := kept_len _ _ _ _
  rw [nw_succ hk, hp, kept, hp, getD_of hk, rowOf_append]
  simp only [if_true]
  have hc : rowOf (nw B p) [fl] = cellsOf (nw B p) fl := by simp [rowOf]
  rw [hc]
  apply List.ext_getElem?; intro i
  rw [List.getElem?_take]
  rcases Nat.lt_or_ge i (nw B p k) with q | q
  · rw [if_pos (by first | lia | omega), M.rest i (.inl q), List.getElem?_append_left (by first | lia | omega), ← S.pre, List.getElem?_take, if_pos q]
  · rw [List.getElem?_append_right (by first | lia | omega), hlen]
    obtain ⟨d, rfl⟩ : ∃ d, i = nw B p k + d := ⟨i - nw B p k, by first | lia | omega⟩
    rw [Nat.add_sub_cancel_left]
    by_cases q2 : d < 1 + fl.length
    · rw [if_pos (by first | lia | omega)]
      cases d with
      | zero => rw [Nat.add_zero, M.head]; rfl
      | succ d =>
        rw [show nw B p k + (d + 1) = nw B p k + 1 + d from by first | lia | omega, M.flds d (by first | lia | omega)]
        have hd : fl[d]? = some fl[d] := List.getElem?_eq_getElem (by first | lia | omega)
        rw [S.flds hp hd]
        simp [cellsOf, show d < fl.length by first | lia | omega]
    · rw [if_neg (by first | lia | omega), List.getElem?_eq_none]
      rw [cellsOf_length]; first | lia | omega
theorem P2S.start (S : S2 B p N 0 0 row) : P2S B p N 0 row := ⟨S, by simp [nw, kept, rowOf]⟩
end
end Mine
end

section
namespace Mine
theorem kl_split {p : Nat → Bool} : ∀ {n : Nat} {d rest : List Nat} {x : Nat}, kl p n = d ++ x :: rest → d = kl p x ∧ p x = true ∧ x < n
  | 0, d, rest, x, h => by simp [kl] at h
  | n + 1, d, rest, x, h => by
    rw [kl_succ] at h
    by_cases q : p n = true
    · rw [if_pos q] at h
      rcases List.eq_nil_or_concat rest with rfl | ⟨r, y, rfl⟩
      · have := List.append_inj' h rfl
        obtain ⟨e1, e2⟩ := this
        cases e2
        exact ⟨e1.symm, q, by first | lia | omega⟩
      · rw [List.concat_eq_append, ← List.cons_append, ← List.append_assoc] at h
        obtain ⟨e1, e2⟩ := List.append_inj' h rfl
        obtain ⟨a, b, c⟩ := kl_split e1
        exact ⟨a, b, by first | lia | omega⟩
    · rw [if_neg q, List.append_nil] at h
      obtain ⟨a, b, c⟩ := kl_split h
      exact ⟨a, b, by first | lia | omega⟩
section
variable {B : Bx} {p : Nat → Bool}
theorem kept_eq : ∀ k, kept B p k = (kl p k).map fun i => B.getD i []
  | 0 => by simp [kept, kl]
  | k + 1 => by
    rw [kept, kl_succ, List.map_append, kept_eq k]
    split <;> simp
noncomputable def nidx (p : Nat → Bool) (k : Nat) : Nat := (kl p k).length
theorem nidx_succ (k : Nat) : nidx p (k + 1) = nidx p k + if p k then 1 else 0 := by
  rw [nidx, kl_succ, List.length_append, nidx]
  split <;> simp
theorem nidx_mono {i j : Nat} (h : i ≤ j) : nidx p i ≤ nidx p j := by
  induction h with
  | refl => exact Nat.le_refl _
  | step _ ih => rw [nidx_succ]; first | lia | omega
noncomputable def ren (p : Nat → Bool) (t : Th) : Th := if t.1 = true then (true, (nidx p t.2.toNat : Int)) else t
noncomputable def box2 (B : Bx) (p : Nat → Bool) (k : Nat) : Bx := (kept B p k).map fun f => f.map (ren p)
theorem box2_succ (k : Nat) : box2 B p (k + 1) = box2 B p k ++ if p k then [(B.getD k []).map (ren p)] else [] := by
  rw [box2, kept, List.map_append, box2]
  split <;> simp
theorem box2_length (k : Nat) : (box2 B p k).length = nidx p k := by simp [box2, kept_eq, nidx]
theorem box2_get : ∀ {n k : Nat}, k < n → p k = true → (box2 B p n)[nidx p k]? = some ((B.getD k []).map (ren p))
  | n + 1, k, h, hp => by
    rw [box2_succ]
    by_cases q : k = n
    · subst q
      rw [if_pos hp, ← box2_length (B := B), List.getElem?_append_right (Nat.le_refl _)]; simp
    · have hlt : nidx p k < (box2 B p n).length := by
        rw [box2_length]
        have := nidx_mono (p := p) (show k + 1 ≤ n by first | lia | omega)
        rw [nidx_succ, if_pos hp] at this; first | lia | omega
      rw [List.getElem?_append_left hlt]
      exact box2_get (by first | lia | omega) hp
theorem box2_pl {n : Nat} : ∀ {k}, k ≤ n → pl (box2 B p n) (nidx p k) = nw B p k
  | 0, _ => by simp [nidx, kl, pl, nw]
  | k + 1, h => by
    rw [nidx_succ, nw]
    by_cases q : p k = true
    · rw [if_pos q, if_pos q, pl_succ (box2_get (by first | lia | omega) q), box2_pl (by first | lia | omega)]; simp; first | lia | omega
    · rw [if_neg q, if_neg q, Nat.add_zero, Nat.add_zero, box2_pl (by first | lia | omega)]
theorem nidx_all : ∀ {n i : Nat}, i < nidx p n → ∃ k, k < n ∧ p k = true ∧ i = nidx p k
  | 0, i, h => by simp [nidx, kl] at h
  | n + 1, i, h => by
    rw [nidx_succ] at h
    by_cases q : i < nidx p n
    · obtain ⟨k, a, b, c⟩ := nidx_all q
      exact ⟨k, by first | lia | omega, b, c⟩
    · by_cases q2 : p n = true
      · rw [if_pos q2] at h
        exact ⟨n, by first | lia | omega, q2, by first | lia | omega⟩
      · rw [if_neg q2] at h; first | lia | omega

theorem row2 (w : WFB B) : rowOf (pl (box2 B p B.length)) (box2 B p B.length) = rowOf (nw B p) (kept B p B.length) := by
  unfold rowOf
  rw [show (box2 B p B.length).map (cellsOf (pl (box2 B p B.length))) = (kept B p B.length).map (cellsOf (nw B p)) from ?_]
  conv => lhs; rw [box2]
  rw [List.map_map]
  apply List.map_congr_left
  intro f hf
  rw [kept_eq] at hf
  obtain ⟨k, hk, rfl⟩ := List.mem_map.mp hf
  obtain ⟨hkl, hpk⟩ := kl_mem.mp hk
  have hB : B[k]? = some B[k] := List.getElem?_eq_getElem hkl
  rw [getD_of hB]
  simp only [Function.comp, cellsOf, List.length_map, List.map_map]
  congr 1
  apply List.map_congr_left
  intro t ht
  obtain ⟨b, v⟩ := t
  cases b with
  | false => simp [word, ren]
  | true =>
    obtain ⟨j, e, hj⟩ := w.tgt _ (List.mem_of_getElem? hB) _ ht rfl
    simp only at e; subst e
    have hb := box2_pl (B := B) (p := p) (n := B.length) (show j ≤ B.length by first | lia | omega)
    unfold box2 at hb
    simp [word, ren, hb]
theorem reach2 (hp : ∀ k, p k = true ↔ Reach B k) (w : WFB B) {k : Nat} (h : Reach B k) : Reach (box2 B p B.length) (nidx p k) := by
  induction h with
  | zero => exact (by simp [nidx, kl] : nidx p 0 = 0) ▸ Reach.zero
  | @step k j f hk hf ht ih =>
    have hkl := (List.getElem?_eq_some_iff.mp hf).1
    refine Reach.step ih (box2_get hkl ((hp k).mpr hk)) ?_
    rw [getD_of hf]
    exact List.mem_map.mpr ⟨_, ht, by simp [ren]⟩
theorem wfb2 (hp : ∀ k, p k = true ↔ Reach B k) (w : WFB B) : WFB (box2 B p B.length) := by
  have key : ∀ {j}, Reach B j → nidx p j < nidx p B.length := by
    intro j hr
    have hl := hr.lt w
    have := nidx_mono (p := p) (show j + 1 ≤ B.length by first | lia | omega)
    rw [nidx_succ, if_pos ((hp j).mpr hr)] at this; first | lia | omega
  refine ⟨?_, fun f hf t ht e => ?_⟩
  · rw [box2_length]
    have := key Reach.zero
    omega
  · rw [box2_length]
    obtain ⟨f0, hf0, rfl⟩ := List.mem_map.mp hf
    rw [kept_eq] at hf0
    obtain ⟨k, hk, rfl⟩ := List.mem_map.mp hf0
    obtain ⟨hkl, hpk⟩ := kl_mem.mp hk
    have hB : B[k]? = some B[k] := List.getElem?_eq_getElem hkl
    rw [getD_of hB] at ht
    obtain ⟨⟨b, v⟩, hu, rfl⟩ := List.mem_map.mp ht
    cases b with
    | false => simp [ren] at e
    | true =>
      obtain ⟨j, e, hj⟩ := w.tgt _ (List.mem_of_getElem? hB) _ hu rfl
      simp only at e; subst e
      exact ⟨nidx p j, by simp [ren], key (Reach.step ((hp k).mp hpk) hB hu)⟩
theorem all2 (hp : ∀ k, p k = true ↔ Reach B k) (w : WFB B) {i : Nat} (hi : i < (box2 B p B.length).length) : Reach (box2 B p B.length) i := by
  rw [box2_length] at hi
  obtain ⟨k, _, hk, rfl⟩ := nidx_all hi
  exact reach2 hp w ((hp k).mp hk)
theorem nw_all : ∀ {k}, k ≤ B.length → (∀ i, i < B.length → p i = true) → nw B p k = pl B k
  | 0, _, _ => by simp [nw, pl_zero]
  | k + 1, h, hp => by
    have hB : B[k]? = some B[k] := List.getElem?_eq_getElem (by first | lia | omega)
    rw [nw_succ hB, pl_succ hB, nw_all (by first | lia | omega) hp, if_pos (hp k (by first | lia | omega))]; first | lia | omega
theorem kept_all (hp : ∀ i, i < B.length → p i = true) : ∀ {k}, k ≤ B.length → kept B p k = B.take k
  | 0, _ => by simp [kept]
  | k + 1, h => by
    have hB : B[k]? = some B[k] := List.getElem?_eq_getElem (by first | lia | omega)
    rw [kept, kept_all hp (by first | lia | omega), if_pos (hp k (by first | lia | omega)), getD_of hB, List.take_succ, hB]; rfl
theorem row_all (w : WFB B) (hp : ∀ i, i < B.length → p i = true) : rowOf (nw B p) (kept B p B.length) = rowOf (pl B) B := by
  rw [kept_all hp (Nat.le_refl _), List.take_length]
  unfold rowOf
  congr 1
  apply List.map_congr_left
  intro f hf
  unfold cellsOf
  congr 1
  apply List.map_congr_left
  intro t ht
  obtain ⟨b, v⟩ := t
  cases b with
  | false => simp [word]
  | true =>
    obtain ⟨j, e, hj⟩ := w.tgt _ hf _ ht rfl
    simp only at e; subst e
    simp [word, nw_all (B := B) (p := p) (show j ≤ B.length by first | lia | omega) hp]
end
end Mine
end

section
namespace Mine
open PySem PyProof.Rows
theorem rep_zero (m : Nat) : (List.replicate m [V.int 0]).flatten = intsV (List.replicate m 0) := by
  induction m with
  | zero => rfl
  | succ m ih => simp [List.replicate_succ, ih, intsV]
theorem S1.len {B : Bx} {p : Nat → Bool} {N h C : Nat} {row : List Int} (S : S1 B p N h C row) : row.length = N := by
  obtain ⟨_, _, T, _⟩ := S; exact T.len
theorem P2M.len {B : Bx} {p : Nat → Bool} {N k : Nat} {fl : List Th} {row : List Int} (S : P2M B p N k fl row) : row.length = N := by
  obtain ⟨_, _, T, _⟩ := S.s; exact T.len
theorem P2S.len {B : Bx} {p : Nat → Bool} {N k : Nat} {row : List Int} (S : P2S B p N k row) : row.length = N := by
  obtain ⟨_, _, T, _⟩ := S.s; exact T.len
theorem hw_even (l : Nat) (b : Bool) : (4 * (l : Int) + if b then 2 else 0) % 2 = 0 := by split <;> omega
theorem hw_fields (l : Nat) (b : Bool) : (4 * (l : Int) + if b then 2 else 0).fdiv 4 = (l : Int) := by rw [fdiv4]; split <;> omega
theorem hw_marked (l : Nat) (b : Bool) : (((4 * (l : Int) + if b then 2 else 0).fdiv 2).fmod 2 == 1) = b := by
  rw [fdiv2, fmod2]
  cases b
  · simp; first | lia | omega
  · simp; first | lia | omega
section
variable {cx : Cx} {H H' : HP} {n : Nat} {a r : Addr} {o : O} {Q : V → HP → Prop}
noncomputable def m_threaded (f_led f_fields_of f_is_marked f_is_link f_hung : Addr) : MSs :=
  (.cons (.assign 2 (.cint (0)))
  (.cons (.assign 3 (.cint (0)))
  (.cons (.while_ (.cmp (.loc 2) .Lt (.loc 1)) (.cons (.assign 0 (.callf f_led (.cons (.loc 0) (.cons (.loc 2) (.cons (.loc 3) .nil)))))
    (.cons (.assign 4 (.callf f_fields_of (.cons (.sub (.loc 0) (.loc 2)) .nil)))
    (.cons (.ite (.callf f_is_marked (.cons (.sub (.loc 0) (.loc 2)) .nil)) (.cons (.forR 5 (.bin .Add (.loc 2) (.cint (1))) (.bin .Add (.bin .Add (.loc 2) (.cint (1))) (.loc 4)) (.cons (.ite (.callf f_is_link (.cons (.sub (.loc 0) (.loc 5)) .nil)) (.cons (.assign 0 (.callf f_hung (.cons (.loc 0) (.cons (.loc 5) .nil))))
          .nil) .nil)
        .nil))
      (.cons (.assign 3 (.bin .Add (.bin .Add (.loc 3) (.cint (1))) (.loc 4)))
      .nil)) .nil)
    (.cons (.assign 2 (.bin .Add (.bin .Add (.loc 2) (.cint (1))) (.loc 4)))
    .nil)))))
  (.cons (.ret (.loc 0))
  .nil))))
noncomputable def m_moved (f_head_word : Addr) : MSs :=
  (.cons (.assign 4 (.callb .list (.cons (.loc 0) .nil)))
  (.cons (.setSub (.loc 4) (.loc 2) (.callf f_head_word (.cons (.loc 3) (.cons (.cbool false) .nil))))
  (.cons (.forR 5 (.cint (1)) (.bin .Add (.loc 3) (.cint (1))) (.cons (.setSub (.loc 4) (.bin .Add (.loc 2) (.loc 5)) (.sub (.loc 0) (.bin .Add (.loc 1) (.loc 5))))
    .nil))
  (.cons (.ret (.loc 4))
  .nil))))
noncomputable def m_pushed (f_threaded f_marked f_led f_fields_of f_is_marked f_moved : Addr) : MSs :=
  (.cons (.assign 0 (.callf f_threaded (.cons (.callf f_marked (.cons (.loc 0) (.cons (.loc 1) .nil))) (.cons (.loc 1) .nil))))
  (.cons (.assign 2 (.cint (0)))
  (.cons (.assign 3 (.cint (0)))
  (.cons (.while_ (.cmp (.loc 2) .Lt (.loc 1)) (.cons (.assign 0 (.callf f_led (.cons (.loc 0) (.cons (.loc 2) (.cons (.loc 3) .nil)))))
    (.cons (.assign 4 (.callf f_fields_of (.cons (.sub (.loc 0) (.loc 2)) .nil)))
    (.cons (.ite (.callf f_is_marked (.cons (.sub (.loc 0) (.loc 2)) .nil)) (.cons (.assign 0 (.callf f_moved (.cons (.loc 0) (.cons (.loc 2) (.cons (.loc 3) (.cons (.loc 4) .nil))))))
      (.cons (.assign 3 (.bin .Add (.bin .Add (.loc 3) (.cint (1))) (.loc 4)))
      .nil)) .nil)
    (.cons (.assign 2 (.bin .Add (.bin .Add (.loc 2) (.cint (1))) (.loc 4)))
    .nil)))))
  (.cons (.ret (.tup (.cons (.bin .Add (.slice (.loc 0) .cnone (.loc 3)) (.bin .Mult (.list (.cons (.cint (0)) .nil)) (.bin .Sub (.callb .len (.cons (.loc 0) .nil)) (.loc 3)))) (.cons (.loc 3) .nil))))
  .nil)))))
noncomputable def HungSp (cx : Cx) (n : Nat) (f : Addr) : Prop := ∀ (row : Addr) (xs : List Int) (k h : Nat) (wk wh : Int) (H : HP) (Q : V → HP → Prop), lk cx H row = some (.list (intsV xs)) → xs.length ≤ 1000 → xs[k]? = some wk → wk.fdiv 2 = (h : Int) → xs[h]? = some wh →
  (∀ r, Fresh cx H r → Q (.ref r) (upd H r (.list (intsV ((xs.set k wh).set h (2 * (k : Int) + 1)))))) → CallP cx n f [.ref row, .int k] H Q

theorem moved_ms {f_head_word row : Addr} {xs : List Int} {at_ free many : Nat} (h1 : ∀ (p : Int) (b : Bool) (H : HP) (Q : V → HP → Prop), Q (.int (4 * p + 2 * (if b then 1 else 0))) H → CallP cx n f_head_word [.int p, .bool b] H Q)
    (hrow : lk cx H row = some (.list (intsV xs))) (hlen : xs.length ≤ 1000) (ha : at_ + many < xs.length) (hf : free + many < xs.length)
    (hQ : ∀ (r : Addr) (ys : List Int), Fresh cx H r → Mvd xs ys at_ free many → Q (.ref r) (upd H r (.list (intsV ys)))) :
    mwpSs cx n (m_moved f_head_word) [.ref row, .int at_, .int free, .int many, .unb, .unb] H (NQ Q) (RQ Q) := by
  refine S_cons ?_
  try (walk_at "st")
  simp only [hrow, ints_length]
  refine ⟨by first | lia | omega, fun r hr => S_cons ?_⟩
  try (walk_at "st")
  refine h1 _ _ _ _ ?_
  simp only [upd_same, ints_length, Int.toNat_natCast, ints_set, upd_upd]
  refine ⟨by first | lia | omega, by first | lia | omega, by first | lia | omega, ?_⟩
  refine S_cut (fun μ H' => ∃ (ys : List Int) (z : V), μ = [.ref row, .int at_, .int free, .int many, .ref r, z] ∧ H' = upd H r (.list (intsV ys)) ∧ Mvd xs ys at_ free many) ?_ ?_
  · try (walk_at "st")
    refine ⟨by decide, by first | lia | omega, fun done μ H' => ∃ (ys : List Int) (z : V), μ = [.ref row, .int at_, .int free, .int many, .ref r, z] ∧ H' = upd H r (.list (intsV ys)) ∧ ys.length = xs.length ∧ ys[free]? = some (4 * (many : Int)) ∧ (∀ i, i < done.length → ys[free + 1 + i]? = xs[at_ + 1 + i]?) ∧ (∀ i, i < free ∨ free + 1 + done.length ≤ i → ys[i]? = xs[i]?), ?_, fun _ _ _ _ => trivial, ?_, ?_⟩
    · refine ⟨_, _, rfl, rfl, by simp, ?_, fun i hi => absurd hi (by simp), fun i hi => ?_⟩
      · rw [List.getElem?_set_self (by first | lia | omega)]; simp
      · rw [List.getElem?_set_ne (by simp at hi; omega)]
    · rintro done x rest μ H' hitems ⟨ys, z, rfl, rfl, hyl, hy1, hy2, hy3⟩
      have hx : (intsV (rangeL 1 ((many : Int) + 1)))[done.length]? = some x := by rw [hitems]; simp
      obtain ⟨rfl, hlt⟩ := rangeL_get hx
      have hd : done.length < many := by first | lia | omega
      have hv : xs[at_ + 1 + done.length]? = some xs[at_ + 1 + done.length] := List.getElem?_eq_getElem (by first | lia | omega)
      refine S_cons ?_
      try (walk_at "st")
      rw [show (at_ : Int) + (1 + (done.length : Int)) = ((at_ + 1 + done.length : Nat) : Int) from by first | lia | omega, show (free : Int) + (1 + (done.length : Int)) = ((free + 1 + done.length : Nat) : Int) from by first | lia | omega]
      simp only [lk_fresh hr hrow, upd_same, ints_length, ints_get?, Int.toNat_natCast, hv, Option.map_some, ints_set, upd_upd, hyl]
      refine ⟨by first | lia | omega, by first | lia | omega, by first | lia | omega, by first | lia | omega, by first | lia | omega, S_nil ⟨_, LE.refl _, _, _, rfl, rfl, by simp [hyl], ?_, fun i hi => ?_, fun i hi => ?_⟩⟩
      · rw [List.getElem?_set_ne (by first | lia | omega)]; exact hy1
      · rw [List.length_append, List.length_singleton] at hi
        by_cases q : i = done.length
        · subst q; rw [List.getElem?_set_self (by first | lia | omega), hv]
        · rw [List.getElem?_set_ne (by first | lia | omega)]; exact hy2 i (by first | lia | omega)
      · rw [List.length_append, List.length_singleton] at hi
        rw [List.getElem?_set_ne (by first | lia | omega)]; exact hy3 i (by first | lia | omega)
    · rintro μ H' ⟨ys, z, rfl, rfl, hyl, hy1, hy2, hy3⟩
      have : (intsV (rangeL 1 ((many : Int) + 1))).length = many := by simp [intsV, rangeL]
      rw [this] at hy2 hy3
      exact ⟨ys, z, rfl, rfl, hyl, hy1, hy2, hy3⟩
  rintro μ' H' ⟨ys, z, rfl, rfl, hM⟩
  refine S_cons ?_
  try (walk_at "st")
  exact RQ.here (hQ r ys hr hM)
noncomputable def MovedSpec (cx : Cx) (n : Nat) (f : Addr) : Prop := ∀ (row : Addr) (xs : List Int) (at_ free many : Nat) (H : HP) (Q : V → HP → Prop), lk cx H row = some (.list (intsV xs)) → xs.length ≤ 1000 → at_ + many < xs.length → free + many < xs.length →
  (∀ (r : Addr) (ys : List Int), Fresh cx H r → Mvd xs ys at_ free many → Q (.ref r) (upd H r (.list (intsV ys)))) → CallP cx n f [.ref row, .int at_, .int free, .int many] H Q

theorem threaded_ms {f_led f_fields_of f_is_marked f_is_link f_hung row : Addr} {B : Bx} {p : Nat → Bool} {N : Nat} {zs : List Int} (hl : LedSpec cx n f_led) (h2 : Fn1 cx n f_fields_of fun w => .int (w.fdiv 4)) (h4 : Fn1 cx n f_is_marked fun w => .bool ((w.fdiv 2).fmod 2 == 1)) (h3 : Fn1 cx n f_is_link fun w => .bool (w.fmod 2 == 1)) (hh : HungSp cx n f_hung)
    (hrow : lk cx H row = some (.list (intsV zs))) (w : WFB B) (hN : N ≤ 1000) (hp : pl B B.length ≤ N) (S : S1 B p N 0 (pl B 0) zs)
    (hQ : ∀ (r : Addr) (H' : HP) (ys : List Int), Ext cx H H' → lk cx H' r = some (.list (intsV ys)) → S2 B p N 0 0 ys → Q (.ref r) H') :
    mwpSs cx n (m_threaded f_led f_fields_of f_is_marked f_is_link f_hung) [.ref row, .int (pl B B.length), .unb, .unb, .unb, .unb] H (NQ Q) (RQ Q) := by
  refine S_cons ?_
  try (walk_at "st")
  refine S_cons ?_
  try (walk_at "st")
  refine S_cut (fun μ H' => ∃ (ra : Addr) (ys : List Int) (z2 z3 z4 z5 : V), μ = [.ref ra, .int (pl B B.length), z2, z3, z4, z5] ∧ Ext cx H H' ∧ lk cx H' ra = some (.list (intsV ys)) ∧ S2 B p N 0 0 ys) ?_ ?_
  · rw [s_while]
    refine ⟨fun m μ H' => ∃ (k : Nat) (ra : Addr) (ys : List Int) (z4 z5 : V), k + m = B.length ∧ μ = [.ref ra, .int (pl B B.length), .int (pl B k), .int (nw B p k), z4, z5] ∧ Ext cx H H' ∧ lk cx H' ra = some (.list (intsV ys)) ∧ S1 B p N k (pl B k) ys, ⟨B.length, 0, row, zs, _, _, by first | lia | omega, by rw [pl_zero]; rfl, Ext.refl _ _, hrow, S⟩, ?_⟩
    rintro m μ H1 ⟨k, ra, ys, z4, z5, hm, rfl, hE, hra, S⟩
    rw [e_cmp, e_loc]
    refine ⟨by simp [getL], ?_⟩
    rw [e_loc]
    refine ⟨by simp [getL], ?_⟩
    simp only [getL, cm_lt, onO, tr_b]
    refine ⟨fun q => ?_, fun q => ?_⟩
    · rw [decide_eq_true_iff] at q
      have hkl : k < B.length := by
        rcases Nat.lt_or_ge k B.length with h | h
        · exact h
        · have := pl_mono (B := B) h; first | lia | omega
      have hk : B[k]? = some B[k] := List.getElem?_eq_getElem hkl
      generalize B[k] = fl at hk
      have hps := pl_succ hk
      have hpm := pl_mono (B := B) (show k + 1 ≤ B.length from hkl)
      have hnw := nw_le (B := B) p (show k ≤ B.length by first | lia | omega)
      obtain ⟨wd, cs, g1, g2, g3, g4, g5, g6⟩ := S.head w hk
      have hyl := S.len
      refine S_cons ?_
      try (walk_at "st")
      refine hl _ ys (pl B k) (nw B p k) wd _ cs _ _ hra (by first | lia | omega) g1 g2 g3 g4 (hw_even _ _) fun r1 hr1 => ?_
      have hz1 := g6.len
      have x1 := hE.new' hr1 (.list (intsV ((setAll ys cs (2 * (nw B p k : Int) + 1)).set (pl B k) (4 * (fl.length : Int) + if p k then 2 else 0))))
      have hr1' : lk cx (upd H1 r1 (.list (intsV ((setAll ys cs (2 * (nw B p k : Int) + 1)).set (pl B k) (4 * (fl.length : Int) + if p k then 2 else 0))))) r1 = some (.list (intsV ((setAll ys cs (2 * (nw B p k : Int) + 1)).set (pl B k) (4 * (fl.length : Int) + if p k then 2 else 0)))) := lk_same
      generalize upd H1 r1 (.list (intsV ((setAll ys cs (2 * (nw B p k : Int) + 1)).set (pl B k) (4 * (fl.length : Int) + if p k then 2 else 0)))) = H2 at x1 hr1' ⊢
      generalize (setAll ys cs (2 * (nw B p k : Int) + 1)).set (pl B k) (4 * (fl.length : Int) + if p k then 2 else 0) = ys1 at g5 g6 hz1 hr1'
      refine S_cons ?_
      try (walk_at "st")
      simp only [hr1', ints_length, ints_get?, Int.toNat_natCast, g5, Option.map_some]
      refine ⟨by first | lia | omega, by first | lia | omega, h2 _ _ _ ?_⟩
      dsimp only
      rw [hw_fields]
      refine S_cut (fun μ H' => ∃ (ra : Addr) (ys : List Int) (z5 : V), μ = [.ref ra, .int (pl B B.length), .int (pl B k), .int (nw B p (k + 1)), .int fl.length, z5] ∧ Ext cx H H' ∧ lk cx H' ra = some (.list (intsV ys)) ∧ S1 B p N (k + 1) (pl B (k + 1)) ys) ?_ ?_
      · try (walk_at "st")
        simp only [hr1', ints_length, ints_get?, Int.toNat_natCast, g5, Option.map_some]
        refine ⟨by first | lia | omega, by first | lia | omega, h4 _ _ _ ?_⟩
        rw [tr_b, hw_marked]
        refine ⟨fun hpk => S_cut (fun μ H' => ∃ (ra : Addr) (ys : List Int) (z5 : V), μ = [.ref ra, .int (pl B B.length), .int (pl B k), .int (nw B p k), .int fl.length, z5] ∧ Ext cx H H' ∧ lk cx H' ra = some (.list (intsV ys)) ∧ S1 B p N (k + 1) (pl B (k + 1)) ys) ?_ ?_, fun hpk => S_nil ⟨r1, ys1, z5, ?_, x1, hr1', g6.skip w hk hpk⟩⟩
        · try (walk_at "st")
          refine ⟨by first | lia | omega, by first | lia | omega, fun done μ H' => ∃ (ra : Addr) (ys : List Int) (z5 : V), μ = [.ref ra, .int (pl B B.length), .int (pl B k), .int (nw B p k), .int fl.length, z5] ∧ Ext cx H H' ∧ lk cx H' ra = some (.list (intsV ys)) ∧ S1 B p N (k + 1) (pl B k + 1 + done.length) ys, ⟨r1, ys1, _, rfl, x1, hr1', g6⟩, fun _ _ _ _ => trivial, ?_, ?_⟩
          · rintro done x rest μ H' hitems ⟨ra, ys, z5, rfl, hE, hra, S⟩
            have hx : (intsV (rangeL ((pl B k : Int) + 1) ((pl B k : Int) + 1 + (fl.length : Int))))[done.length]? = some x := by rw [hitems]; simp
            obtain ⟨rfl, hlt⟩ := rangeL_get hx
            have hd : done.length < fl.length := by first | lia | omega
            have ht : fl[done.length]? = some fl[done.length] := List.getElem?_eq_getElem hd
            generalize fl[done.length] = t at ht
            have hyl := S.len
            rw [show (pl B k : Int) + 1 + (done.length : Int) = ((pl B k + 1 + done.length : Nat) : Int) from by first | lia | omega]
            refine S_cons ?_
            try (walk_at "st")
            rcases S.field w hk hpk ht (by first | lia | omega) with ⟨t1, t2, t3⟩ | ⟨j, wh, t1, t2, t3⟩
            · simp only [hra, ints_length, ints_get?, Int.toNat_natCast, t2, Option.map_some]
              refine ⟨by first | lia | omega, by first | lia | omega, h3 _ _ _ ?_⟩
              rw [tr_b, fmod2, show ((2 * t.2) % 2 == 1) = false from by rw [beq_eq_false_iff_ne]; omega]
              refine ⟨fun q => (by cases q), fun _ => S_nil (S_nil ⟨_, LE.refl _, ra, ys, _, rfl, hE, hra, ?_⟩)⟩
              rw [List.length_append, List.length_singleton]; exact t3
            · simp only [hra, ints_length, ints_get?, Int.toNat_natCast, t1, Option.map_some]
              refine ⟨by first | lia | omega, by first | lia | omega, h3 _ _ _ ?_⟩
              rw [tr_b, fmod2, show ((2 * (pl B j : Int) + 1) % 2 == 1) = true from by rw [beq_iff_eq]; omega]
              refine ⟨fun _ => S_cons ?_, fun q => by cases q⟩
              try (walk_at "st")
              refine hh _ ys _ (pl B j) _ wh _ _ hra (by first | lia | omega) t1 (by rw [fdiv2]; omega) t2 fun r3 hr3 => ?_
              refine S_nil (S_nil ⟨_, LE.refl _, r3, _, _, rfl, hE.new' hr3 _, lk_same, ?_⟩)
              rw [List.length_append, List.length_singleton]; exact t3
          · rintro μ H' ⟨ra, ys, z5, rfl, hE, hra, S⟩
            refine ⟨ra, ys, z5, rfl, hE, hra, ?_⟩
            have : (intsV (rangeL ((pl B k : Int) + 1) ((pl B k : Int) + 1 + (fl.length : Int)))).length = fl.length := by simp [intsV, rangeL]; first | lia | omega
            rw [this] at S
            rw [hps]; exact S
        · rintro μ' H' ⟨ra, ys, z5, rfl, hE, hra, S⟩
          refine S_cons ?_
          try (walk_at "st")
          refine S_nil ⟨ra, ys, z5, ?_, hE, hra, S⟩
          rw [nw_succ hk, if_pos hpk, show (nw B p k : Int) + 1 + (fl.length : Int) = ((nw B p k + (1 + fl.length) : Nat) : Int) from by first | lia | omega]
        · rw [nw_succ hk, if_neg (by rw [hpk]; simp), Nat.add_zero]
      rintro μ' H' ⟨ra, ys, z5, rfl, hE, hra, S⟩
      refine S_cons ?_
      try (walk_at "st")
      refine S_nil ⟨_, LE.refl _, B.length - (k + 1), by first | lia | omega, k + 1, ra, ys, .int fl.length, z5, by first | lia | omega, ?_, hE, hra, S⟩
      rw [hps, show (pl B k : Int) + 1 + (fl.length : Int) = ((pl B k + 1 + fl.length : Nat) : Int) from by first | lia | omega]
    · rw [decide_eq_false_iff_not] at q
      have hke : k = B.length := by
        rcases Nat.lt_or_ge k B.length with h | h
        · have := pl_lt h h; first | lia | omega
        · omega
      subst hke
      exact ⟨ra, ys, _, _, _, _, rfl, hE, hra, S.fin w⟩
  rintro μ' H' ⟨ra, ys, z2, z3, z4, z5, rfl, hE, hra, S⟩
  refine S_cons ?_
  try (walk_at "st")
  exact RQ.here (hQ ra H' ys hE hra S)
noncomputable def ThreadSpec (cx : Cx) (n : Nat) (f : Addr) : Prop := ∀ (row : Addr) (B : Bx) (p : Nat → Bool) (N : Nat) (zs : List Int) (H : HP) (Q : V → HP → Prop), lk cx H row = some (.list (intsV zs)) → WFB B → N ≤ 1000 → pl B B.length ≤ N → S1 B p N 0 (pl B 0) zs →
  (∀ (r : Addr) (H' : HP) (ys : List Int), Ext cx H H' → lk cx H' r = some (.list (intsV ys)) → S2 B p N 0 0 ys → Q (.ref r) H') → CallP cx n f [.ref row, .int (pl B B.length)] H Q

theorem pushed_ms {f_threaded f_marked f_led f_fields_of f_is_marked f_moved row : Addr} {B : Bx} {xs : List Int} (ht : ThreadSpec cx n f_threaded) (hmk : MarkedSpec cx n f_marked) (hl : LedSpec cx n f_led) (h2 : Fn1 cx n f_fields_of fun w => .int (w.fdiv 4)) (h4 : Fn1 cx n f_is_marked fun w => .bool ((w.fdiv 2).fmod 2 == 1)) (hmv : MovedSpec cx n f_moved)
    (hrow : lk cx H row = some (.list (intsV xs))) (s : Shp B xs) (w : WFB B) (hp : pl B B.length ≤ xs.length)
    (hQ : ∀ (t r : Addr) (H' : HP) (p : Nat → Bool), Ext cx H H' → Fresh cx H r → (∀ k, p k = true ↔ Reach B k) → nw B p B.length ≤ xs.length → H' r = some (.list (intsV (rowOf (nw B p) (kept B p B.length) ++ List.replicate (xs.length - nw B p B.length) 0))) → H' t = some (.tup [.ref r, .int (nw B p B.length)]) → Q (.ref t) H') :
    mwpSs cx n (m_pushed f_threaded f_marked f_led f_fields_of f_is_marked f_moved) [.ref row, .int (pl B B.length), .unb, .unb, .unb] H (NQ Q) (RQ Q) := by
  have hxl := s.len
  have hBl := len_le_pl B (Nat.le_refl B.length)
  refine S_cons ?_
  try (walk_at "st")
  refine hmk _ xs B _ _ _ hrow s w (by first | lia | omega) fun fa HA M xA hfa hfaA hM => ?_
  have hpM : ∀ k, (fun k => decide (k ∈ M)) k = true ↔ k ∈ M := fun k => decide_eq_true_iff
  have hpR : ∀ k, (fun k => decide (k ∈ M)) k = true ↔ Reach B k := fun k => (hpM k).trans (hM k)
  have S0 := S1.start w s hpM fun k hk => ((hM k).mp hk).lt w
  generalize (fun k => decide (k ∈ M)) = p at hpM hpR S0
  refine ht _ B p xs.length _ _ _ (lk_of hfaA) w hxl hp S0 fun ra HB ys xB hra S => ?_
  refine S_cons ?_
  try (walk_at "st")
  refine S_cons ?_
  try (walk_at "st")
  refine S_cut (fun μ H' => ∃ (ra : Addr) (ys : List Int) (z4 : V), μ = [.ref ra, .int (pl B B.length), .int (pl B B.length), .int (nw B p B.length), z4] ∧ Ext cx H H' ∧ lk cx H' ra = some (.list (intsV ys)) ∧ P2S B p xs.length B.length ys) ?_ ?_
  · rw [s_while]
    refine ⟨fun m μ H' => ∃ (k : Nat) (ra : Addr) (ys : List Int) (z4 : V), k + m = B.length ∧ μ = [.ref ra, .int (pl B B.length), .int (pl B k), .int (nw B p k), z4] ∧ Ext cx H H' ∧ lk cx H' ra = some (.list (intsV ys)) ∧ P2S B p xs.length k ys, ⟨B.length, 0, ra, ys, _, by first | lia | omega, by rw [pl_zero]; rfl, xA.trans xB, hra, P2S.start S⟩, ?_⟩
    rintro m μ H1 ⟨k, ra, ys, z4, hm, rfl, hE, hra, S⟩
    rw [e_cmp, e_loc]
    refine ⟨by simp [getL], ?_⟩
    rw [e_loc]
    refine ⟨by simp [getL], ?_⟩
    simp only [getL, cm_lt, onO, tr_b]
    refine ⟨fun q => ?_, fun q => ?_⟩
    · rw [decide_eq_true_iff] at q
      have hkl : k < B.length := by
        rcases Nat.lt_or_ge k B.length with h | h
        · exact h
        · have := pl_mono (B := B) h; first | lia | omega
      have hk : B[k]? = some B[k] := List.getElem?_eq_getElem hkl
      generalize B[k] = fl at hk
      have hps := pl_succ hk
      have hpm := pl_mono (B := B) (show k + 1 ≤ B.length from hkl)
      have hnw := nw_le (B := B) p (show k ≤ B.length by first | lia | omega)
      obtain ⟨wd, cs, g1, g2, g3, g4, g5, g6⟩ := S.head w hk hp
      have hyl := S.len
      refine S_cons ?_
      try (walk_at "st")
      refine hl _ ys (pl B k) (nw B p k) wd _ cs _ _ hra (by first | lia | omega) g1 g2 g3 g4 (hw_even _ _) fun r1 hr1 => ?_
      have hz1 := g6.len
      have x1 := hE.new' hr1 (.list (intsV ((setAll ys cs (2 * (nw B p k : Int) + 1)).set (pl B k) (4 * (fl.length : Int) + if p k then 2 else 0))))
      have hr1' : lk cx (upd H1 r1 (.list (intsV ((setAll ys cs (2 * (nw B p k : Int) + 1)).set (pl B k) (4 * (fl.length : Int) + if p k then 2 else 0))))) r1 = some (.list (intsV ((setAll ys cs (2 * (nw B p k : Int) + 1)).set (pl B k) (4 * (fl.length : Int) + if p k then 2 else 0)))) := lk_same
      generalize upd H1 r1 (.list (intsV ((setAll ys cs (2 * (nw B p k : Int) + 1)).set (pl B k) (4 * (fl.length : Int) + if p k then 2 else 0)))) = H2 at x1 hr1' ⊢
      generalize (setAll ys cs (2 * (nw B p k : Int) + 1)).set (pl B k) (4 * (fl.length : Int) + if p k then 2 else 0) = ys1 at g5 g6 hz1 hr1'
      refine S_cons ?_
      try (walk_at "st")
      simp only [hr1', ints_length, ints_get?, Int.toNat_natCast, g5, Option.map_some]
      refine ⟨by first | lia | omega, by first | lia | omega, h2 _ _ _ ?_⟩
      dsimp only
      rw [hw_fields]
      refine S_cut (fun μ H' => ∃ (ra : Addr) (ys : List Int), μ = [.ref ra, .int (pl B B.length), .int (pl B k), .int (nw B p (k + 1)), .int fl.length] ∧ Ext cx H H' ∧ lk cx H' ra = some (.list (intsV ys)) ∧ P2S B p xs.length (k + 1) ys) ?_ ?_
      · try (walk_at "st")
        simp only [hr1', ints_length, ints_get?, Int.toNat_natCast, g5, Option.map_some]
        refine ⟨by first | lia | omega, by first | lia | omega, h4 _ _ _ ?_⟩
        rw [tr_b, hw_marked]
        refine ⟨fun hpk => S_cons ?_, fun hpk => S_nil ⟨r1, ys1, ?_, x1, hr1', g6.skip hk hpk⟩⟩
        · try (walk_at "st")
          refine hmv _ ys1 (pl B k) (nw B p k) fl.length _ _ hr1' (by first | lia | omega) (by first | lia | omega) (by first | lia | omega) fun r3 ys3 hr3 hM3 => ?_
          refine S_cons ?_
          try (walk_at "st")
          refine S_nil ⟨r3, ys3, ?_, x1.new' hr3 _, lk_same, g6.move hk hpk hM3⟩
          rw [nw_succ hk, if_pos hpk, show (nw B p k : Int) + 1 + (fl.length : Int) = ((nw B p k + (1 + fl.length) : Nat) : Int) from by first | lia | omega]
        · rw [nw_succ hk, if_neg (by rw [hpk]; simp), Nat.add_zero]
      rintro μ' H' ⟨ra, ys, rfl, hE, hra, S⟩
      refine S_cons ?_
      try (walk_at "st")
      refine S_nil ⟨_, LE.refl _, B.length - (k + 1), by first | lia | omega, k + 1, ra, ys, .int fl.length, by first | lia | omega, ?_, hE, hra, S⟩
      rw [hps, show (pl B k : Int) + 1 + (fl.length : Int) = ((pl B k + 1 + fl.length : Nat) : Int) from by first | lia | omega]
    · rw [decide_eq_false_iff_not] at q
      have hke : k = B.length := by
        rcases Nat.lt_or_ge k B.length with h | h
        · have := pl_lt h h; first | lia | omega
        · omega
      subst hke
      exact ⟨ra, ys, _, rfl, hE, hra, S⟩
  rintro μ' H9 ⟨ra, ys, z4, rfl, hE, hra, S⟩
  have hyl := S.len
  have hnw := nw_le (B := B) p (Nat.le_refl B.length)
  refine S_cons ?_
  try (walk_at "st")
  simp only [hra, ints_length, hyl, cutHi_nn (Int.natCast_nonneg _), cutLo]
  refine ⟨by first | lia | omega, fun r1 hr1 => ⟨by simp, fun r2 hr2 => ?_⟩⟩
  have n12 : r1 ≠ r2 := hr2.ne lk_same
  simp only [lk_fresh hr2 (lk_fresh hr1 hra), ints_length, hyl, lk_same, List.length_cons, List.length_nil, bin_sub, bin_rep]
  refine ⟨by first | lia | omega, by first | lia | omega, by first | lia | omega, by first | lia | omega, fun r3 hr3 => ?_⟩
  have n13 : r1 ≠ r3 := hr3.ne (lk_fresh hr2 lk_same)
  have hcut : cut (intsV ys) 0 (min (Int.toNat (nw B p B.length : Int)) xs.length) = intsV (rowOf (nw B p) (kept B p B.length)) := by
    rw [cut_ints, List.drop_zero, Int.toNat_natCast, Nat.min_eq_left (by first | lia | omega), S.pre]
  have hrep : ((xs.length : Int) - (nw B p B.length : Int)).toNat = xs.length - nw B p B.length := by first | lia | omega
  rw [hcut] at hr2 hr3 ⊢
  rw [hrep, rep_zero] at *
  try (walk_at "st")
  simp only [lk_ne n13, lk_ne n12, lk_same, ints_append, ints_length, List.length_replicate, kept_len]
  refine ⟨by first | lia | omega, fun r4 hr4 => ⟨by simp, fun r5 hr5 => RQ.here (hQ r5 r4 _ p (((((hE.new' hr1 _).new' hr2 _).new' hr3 _).new' hr4 _).new' hr5 _) ((((hE.new' hr1 _).new' hr2 _).new' hr3 _).fresh hr4) hpR (by first | lia | omega) ?_ (upd_same _ _ _))⟩⟩
  rw [upd_ne _ (hr5.ne' (upd_same _ _ _)), upd_same]
noncomputable def PushedSpec (cx : Cx) (n : Nat) (f : Addr) : Prop := ∀ (row : Addr) (B : Bx) (xs : List Int) (H : HP) (Q : V → HP → Prop), lk cx H row = some (.list (intsV xs)) → Shp B xs → WFB B → pl B B.length ≤ xs.length →
  (∀ (t r : Addr) (H' : HP) (p : Nat → Bool), Ext cx H H' → Fresh cx H r → (∀ k, p k = true ↔ Reach B k) → nw B p B.length ≤ xs.length → H' r = some (.list (intsV (rowOf (nw B p) (kept B p B.length) ++ List.replicate (xs.length - nw B p B.length) 0))) → H' t = some (.tup [.ref r, .int (nw B p B.length)]) → Q (.ref t) H') →
  CallP cx n f [.ref row, .int (pl B B.length)] H Q
end
end Mine
end

section
namespace Mine
noncomputable def step (B : Bx) (k : Nat) (q : Int) : Nat :=
  match (B.getD k [])[(q.fmod ((B.getD k []).length : Int)).toNat]? with
  | some (true, v) => v.toNat
  | _ => 0
noncomputable def walkTo (B : Bx) : Nat → List Int → Nat
  | k, [] => k
  | k, q :: qs => walkTo B (step B k q) qs
theorem walkTo_snoc (B : Bx) (q : Int) : ∀ (qs : List Int) (k : Nat), walkTo B k (qs ++ [q]) = step B (walkTo B k qs) q
  | [], _ => rfl
  | r :: qs, k => walkTo_snoc B q qs (step B k r)
theorem step_reach {B : Bx} (w : WFB B) {k : Nat} (h : Reach B k) (q : Int) : Reach B (step B k q) := by
  have hkl := h.lt w
  have hk : B[k]? = some B[k] := List.getElem?_eq_getElem hkl
  unfold step
  rw [getD_of hk]
  split
  · rename_i v e
    obtain ⟨j, rfl, _⟩ := tgt_of w hk e
    exact Reach.step h hk (by rw [Int.toNat_natCast]; exact List.mem_of_getElem? e)
  · exact Reach.zero
theorem walkTo_reach {B : Bx} (w : WFB B) : ∀ (qs : List Int) {k : Nat}, Reach B k → Reach B (walkTo B k qs)
  | [], _, h => h
  | q :: qs, _, h => walkTo_reach w qs (step_reach w h q)
section
variable {B : Bx} {p : Nat → Bool}
theorem nidx_zero : nidx p 0 = 0 := by simp [nidx, kl]
theorem step_ren (hp : ∀ k, p k = true ↔ Reach B k) (w : WFB B) {k : Nat} (h : Reach B k) (q : Int) : step (box2 B p B.length) (nidx p k) q = nidx p (step B k q) := by
  have hkl := h.lt w
  have hb := box2_get (B := B) hkl ((hp k).mpr h)
  unfold step
  rw [getD_of hb, List.length_map, List.getElem?_map]
  cases e : (B.getD k [])[(q.fmod ((B.getD k []).length : Int)).toNat]? with
  | none => simp [nidx_zero]
  | some t =>
    obtain ⟨b, v⟩ := t
    cases b with
    | false => simp [ren, nidx_zero]
    | true => simp [ren]
theorem walkTo_ren (hp : ∀ k, p k = true ↔ Reach B k) (w : WFB B) : ∀ (qs : List Int) {k : Nat}, Reach B k → walkTo (box2 B p B.length) (nidx p k) qs = nidx p (walkTo B k qs)
  | [], _, _ => rfl
  | q :: qs, k, h => by
    rw [walkTo, step_ren hp w h]
    exact walkTo_ren hp w qs (step_reach w h q)
theorem nidx_lt {i j : Nat} (hi : p i = true) (h : i < j) : nidx p i < nidx p j := by
  have := nidx_mono (p := p) (show i + 1 ≤ j from h)
  rw [nidx_succ, if_pos hi] at this
  exact this
theorem pl_lt_iff {i j : Nat} (hi : i < B.length) (hj : j < B.length) : pl B i < pl B j ↔ i < j := by
  refine ⟨fun h => ?_, pl_lt hi⟩
  rcases Nat.lt_or_ge i j with q | q
  · exact q
  · have := pl_mono (B := B) q; first | lia | omega
theorem nidx_lt_iff {i j : Nat} (hi : p i = true) (hj : p j = true) : nidx p i < nidx p j ↔ i < j := by
  refine ⟨fun h => ?_, nidx_lt hi⟩
  rcases Nat.lt_or_ge i j with q | q
  · exact q
  · have := nidx_mono (p := p) q; first | lia | omega
theorem ord_iff (hp : ∀ k, p k = true ↔ Reach B k) (w : WFB B) {i j : Nat} (hi : Reach B i) (hj : Reach B j) :
    pl B i < pl B j ↔ pl (box2 B p B.length) (nidx p i) < pl (box2 B p B.length) (nidx p j) := by
  have a1 := nidx_lt ((hp i).mpr hi) (hi.lt w)
  have a2 := nidx_lt ((hp j).mpr hj) (hj.lt w)
  rw [pl_lt_iff (hi.lt w) (hj.lt w), pl_lt_iff (by rw [box2_length]; exact a1) (by rw [box2_length]; exact a2), nidx_lt_iff ((hp i).mpr hi) ((hp j).mpr hj)]
noncomputable def isB (t : Th) : Bool := t.1
noncomputable def numT (t : Th) : Int := if t.1 = true then -1 else t.2
theorem isB_ren (t : Th) : isB (ren p t) = isB t := by
  unfold ren isB; split <;> simp_all
theorem numT_ren (t : Th) : numT (ren p t) = numT t := by
  unfold ren numT
  by_cases h : t.1 = true
  · simp [h]
  · simp [h]
theorem kl_congr {p' : Nat → Bool} (hp : ∀ k, p k = true ↔ Reach B k) (hp' : ∀ k, p' k = true ↔ Reach B k) : p = p' := by
  funext k
  cases e : p k with
  | true => exact ((hp' k).mpr ((hp k).mp e)).symm
  | false =>
    cases e' : p' k with
    | false => rfl
    | true => rw [(hp k).mpr ((hp' k).mp e')] at e; cases e
theorem kl_all {n : Nat} (h : ∀ i, i < n → p i = true) : kl p n = List.range n := by
  unfold kl
  rw [List.filter_eq_self]
  intro a ha
  exact h a (List.mem_range.mp ha)
end

noncomputable def plt (B : Bx) (t : Th) : Th := if t.1 = true then (true, (pl B t.2.toNat : Int)) else t
noncomputable def wordP (t : Th) : Int := if t.1 = true then 2 * t.2 + 1 else 2 * t.2
theorem word_plt (B : Bx) (t : Th) : wordP (plt B t) = word (pl B) t := by
  unfold wordP plt word
  by_cases h : t.1 = true
  · simp [h]
  · simp [h]
theorem plt_1 (B : Bx) (t : Th) : (plt B t).1 = t.1 := by
  unfold plt; split <;> simp_all
theorem numT_plt (B : Bx) (t : Th) : numT (plt B t) = numT t := by
  unfold plt numT
  by_cases h : t.1 = true
  · simp [h]
  · simp [h]

theorem pl_app (B : Bx) (f : List Th) {k : Nat} (h : k ≤ B.length) : pl (B ++ [f]) k = pl B k := by
  unfold pl
  rw [List.take_append_of_le_length h]
theorem pl_app_len (B : Bx) (f : List Th) : pl (B ++ [f]) (B ++ [f]).length = pl B B.length + 1 + f.length := by
  have : (B ++ [f])[B.length]? = some f := by simp
  rw [List.length_append, List.length_singleton, pl_succ this, pl_app B f (Nat.le_refl _)]
theorem word_app {B : Bx} {f : List Th} {t : Th} (h : t.1 = true → ∃ j : Nat, t.2 = (j : Int) ∧ j < B.length) : word (pl (B ++ [f])) t = word (pl B) t := by
  unfold word
  by_cases q : t.1 = true
  · obtain ⟨j, e, hj⟩ := h q
    rw [if_pos q, if_pos q, e, Int.toNat_natCast, pl_app B f (by first | lia | omega)]
  · rw [if_neg q, if_neg q]
theorem wfb_app {B : Bx} {f : List Th} (w : WFB B) (h : ∀ t ∈ f, t.1 = true → ∃ j : Nat, t.2 = (j : Int) ∧ j < B.length) : WFB (B ++ [f]) := by
  refine ⟨by simp, fun g hg t ht e => ?_⟩
  rw [List.length_append, List.length_singleton]
  rcases List.mem_append.mp hg with q | q
  · obtain ⟨j, a, b⟩ := w.tgt g q t ht e
    exact ⟨j, a, by first | lia | omega⟩
  · rw [List.mem_singleton] at q; subst q
    obtain ⟨j, a, b⟩ := h t ht e
    exact ⟨j, a, by first | lia | omega⟩
theorem shp_app {B : Bx} {f : List Th} {xs : List Int} (s : Shp B xs) (w : WFB B) (hle : pl B B.length + 1 + f.length ≤ xs.length) (h : ∀ t ∈ f, t.1 = true → ∃ j : Nat, t.2 = (j : Int) ∧ j < B.length) :
    Shp (B ++ [f]) (xs.take (pl B B.length) ++ ((4 * (f.length : Int)) :: f.map (word (pl B))) ++ xs.drop (pl B B.length + 1 + f.length)) := by
  have hl : (xs.take (pl B B.length)).length = pl B B.length := by rw [List.length_take]; first | lia | omega
  have low : ∀ {c : Nat} (ys : List Int), c < pl B B.length → (xs.take (pl B B.length) ++ ys)[c]? = xs[c]? := by
    intro c ys hc
    rw [List.getElem?_append_left (by rw [hl]; exact hc), List.getElem?_take_of_lt hc]
  refine ⟨?_, fun {k g} hk => ?_, fun {k j g t} hk hj => ?_⟩
  · have := s.len
    simp only [List.length_append, hl, List.length_cons, List.length_map, List.length_drop]; first | lia | omega
  · rw [List.append_assoc]
    by_cases q : k < B.length
    · rw [List.getElem?_append_left q] at hk
      rw [pl_app B f (by first | lia | omega), low _ (pl_lt q q)]
      exact s.hd hk
    · have hk2 := (List.getElem?_eq_some_iff.mp hk).1
      rw [List.length_append, List.length_singleton] at hk2
      have : k = B.length := by first | lia | omega
      subst this
      rw [List.getElem?_append_right (Nat.le_refl _)] at hk
      simp at hk; subst hk
      rw [pl_app B f (Nat.le_refl _), List.getElem?_append_right (by rw [hl]; exact Nat.le_refl _), hl]; simp
  · rw [List.append_assoc]
    by_cases q : k < B.length
    · rw [List.getElem?_append_left q] at hk
      have hjl := (List.getElem?_eq_some_iff.mp hj).1
      have h1 := pl_succ hk
      have h2 := pl_mono (B := B) (show k + 1 ≤ B.length from q)
      rw [pl_app B f (by first | lia | omega), low _ (by first | lia | omega), word_app (w.tgt g (List.mem_of_getElem? hk) t (List.mem_of_getElem? hj))]
      exact s.fld hk hj
    · have hk2 := (List.getElem?_eq_some_iff.mp hk).1
      rw [List.length_append, List.length_singleton] at hk2
      have : k = B.length := by first | lia | omega
      subst this
      rw [List.getElem?_append_right (Nat.le_refl _)] at hk
      simp at hk; subst hk
      have hjl := (List.getElem?_eq_some_iff.mp hj).1
      rw [pl_app B f (Nat.le_refl _), List.getElem?_append_right (by rw [hl]; first | lia | omega), hl, word_app (h t (List.mem_of_getElem? hj)),
        show pl B B.length + 1 + j - pl B B.length = j + 1 from by first | lia | omega, List.cons_append, List.getElem?_cons_succ, List.getElem?_append_left (by rw [List.length_map]; exact hjl), List.getElem?_map, hj]
      rfl

theorem pl_set {B : Bx} {k : Nat} {g f : List Th} (h : B[k]? = some f) (hl : g.length = f.length) (i : Nat) : pl (B.set k g) i = pl B i := by
  unfold pl
  rw [List.take_set, List.map_set, show 1 + g.length = 1 + f.length by rw [hl]]
  congr 1
  apply List.ext_getElem?
  intro m
  rw [List.getElem?_set]
  by_cases q : k = m
  · subst q
    simp only [if_pos, List.length_map, List.length_take, List.getElem?_map]
    by_cases q2 : k < min i B.length
    · rw [if_pos q2, List.getElem?_take_of_lt (by first | lia | omega), h]; rfl
    · rw [if_neg q2]
      have : (B.take i)[k]? = none := by rw [List.getElem?_eq_none_iff, List.length_take]; first | lia | omega
      rw [this]; rfl
  · rw [if_neg q]
theorem pl_set_len {B : Bx} {k : Nat} {g f : List Th} (h : B[k]? = some f) (hl : g.length = f.length) : pl (B.set k g) (B.set k g).length = pl B B.length := by
  rw [pl_set h hl, List.length_set]
theorem wfb_set {B : Bx} {k j : Nat} {f : List Th} {t : Th} (w : WFB B) (hk : B[k]? = some f) (h : t.1 = true → ∃ j : Nat, t.2 = (j : Int) ∧ j < B.length) : WFB (B.set k (f.set j t)) := by
  refine ⟨by rw [List.length_set]; exact w.pos, fun g hg u hu e => ?_⟩
  rw [List.length_set]
  rcases List.mem_or_eq_of_mem_set hg with q | q
  · exact w.tgt g q u hu e
  · subst q
    rcases List.mem_or_eq_of_mem_set hu with q | q
    · exact w.tgt f (List.mem_of_getElem? hk) u q e
    · subst q; exact h e
theorem shp_set {B : Bx} {k j : Nat} {f : List Th} {t : Th} {xs : List Int} (s : Shp B xs) (hk : B[k]? = some f) (hj : j < f.length) :
    Shp (B.set k (f.set j t)) (xs.set (pl B k + 1 + j) (word (pl B) t)) := by
  have hp : pl (B.set k (f.set j t)) = pl B := by funext i; exact pl_set hk (by simp) i
  have hfl : f[j]? = some f[j] := List.getElem?_eq_getElem hj
  have hxl := (List.getElem?_eq_some_iff.mp (s.fld hk hfl)).1
  refine ⟨by rw [List.length_set]; exact s.len, fun {i g} hi => ?_, fun {i m g u} hi hm => ?_⟩
  · rw [hp, List.getElem?_set_ne (fun e => pl_ne hk hj e)]
    rw [List.getElem?_set] at hi
    by_cases q : k = i
    · subst q
      rw [if_pos rfl] at hi
      split at hi
      · cases hi; rw [s.hd hk, List.length_set]
      · cases hi
    · rw [if_neg q] at hi; exact s.hd hi
  · rw [hp]
    by_cases q : k = i
    · subst q
      have : g = f.set j t := by
        rw [List.getElem?_set, if_pos rfl] at hi
        split at hi
        · exact (Option.some.inj hi).symm
        · cases hi
      subst this
      rw [List.getElem?_set] at hm
      by_cases q2 : j = m
      · subst q2
        rw [if_pos rfl, if_pos hj] at hm
        cases hm
        rw [List.getElem?_set, if_pos rfl, if_pos hxl]
      · rw [if_neg q2] at hm
        rw [List.getElem?_set_ne (by first | lia | omega)]
        exact s.fld hk hm
    · rw [List.getElem?_set, if_neg q] at hi
      have hml := (List.getElem?_eq_some_iff.mp hm).1
      rw [List.getElem?_set_ne (fun e => q (cell_inj hk hi hj hml e).1)]
      exact s.fld hi hm
theorem shp_room (d : Nat) (m : Nat) (h : 1 + m ≤ 1000) (hd : d ≤ m) : Shp [List.replicate d (false, 0)] ((4 * (d : Int)) :: List.replicate m 0) := by
  refine ⟨by simp; first | lia | omega, fun {k g} hk => ?_, fun {k j g t} hk hj => ?_⟩
  · cases k with
    | zero => simp at hk; subst hk; simp [pl_zero]
    | succ k => simp at hk
  · cases k with
    | zero =>
      simp at hk; subst hk
      rw [List.getElem?_replicate] at hj
      split at hj
      · rename_i hlt
        cases hj
        rw [pl_zero, show 0 + 1 + j = j + 1 from by first | lia | omega, List.getElem?_cons_succ, List.getElem?_replicate, if_pos (by first | lia | omega)]
        simp [word]
      · cases hj
    | succ k => simp at hk
theorem wfb_room (d : Nat) : WFB [List.replicate d (false, 0)] := by
  refine ⟨by simp, fun f hf t ht e => ?_⟩
  rw [List.mem_singleton] at hf; subst hf
  have := List.eq_of_mem_replicate ht
  subst this; cases e
theorem pl_room (d : Nat) : pl [List.replicate d (false, 0)] 1 = d + 1 := by simp [pl]; first | lia | omega
end Mine
end

section
namespace Mine
open PySem PyProof.Rows

noncomputable def roomF (ra : Addr) (u : Nat) : List (Str × V) := [(Str.ofString "row", .ref ra), (Str.ofString "filled", .int u)]
structure RoomAt (C rm dx ra : Addr) (B : Bx) (xs : List Int) (H : HP) : Prop where
  i : H rm = some (.inst C dx)
  d : H dx = some (.flds (roomF ra (pl B B.length)))
  r : H ra = some (.list (intsV xs))
  sh : Shp B xs
  len : xs.length = 400
  le : pl B B.length ≤ 400
  w : WFB B
theorem lu_row (ra : Addr) (u : Nat) : (roomF ra u).lookup (Str.ofString "row") = some (.ref ra) := rfl
theorem lu_fil (ra : Addr) (u : Nat) : (roomF ra u).lookup (Str.ofString "filled") = some (.int u) := rfl
section
variable {cx : Cx} {C rm dx ra : Addr} {B : Bx} {xs : List Int} {H H' : HP} {n : Nat} {a r : Addr} {o : O} {Q : V → HP → Prop}
theorem RoomAt.ext (R : RoomAt C rm dx ra B xs H) (x : LE H H') : RoomAt C rm dx ra B xs H' := ⟨x _ _ R.i, x _ _ R.d, x _ _ R.r, R.sh, R.len, R.le, R.w⟩
theorem RoomAt.row (R : RoomAt C rm dx ra B xs H) : attrP C (.ref rm) (Str.ofString "row") H Q = Q (.ref ra) H := by
  simp only [attrP, onR, R.i, onIn, R.d, onFl, lu_row, onO, ne_eq, reduceCtorEq, not_false_eq_true, true_and]
theorem RoomAt.fil (R : RoomAt C rm dx ra B xs H) : attrP C (.ref rm) (Str.ofString "filled") H Q = Q (.int (pl B B.length)) H := by
  simp only [attrP, onR, R.i, onIn, R.d, onFl, lu_fil, onO, ne_eq, reduceCtorEq, not_false_eq_true, true_and]
theorem RoomAt.no (R : RoomAt C rm dx ra B xs H) {x : Str} (hx : ∀ ra u, (roomF ra u).lookup x = none) : instP C (.ref rm) x H := by
  simp only [instP, onR, R.i, onIn, R.d, onFl, hx, and_self]
theorem lk_tup {vs : List V} (h : lk cx H a = some (.tup vs)) : H a = some (.tup vs) := by
  unfold lk at h
  split at h
  · rename_i e; rw [e]; exact h
  · cases e : cx.Z a <;> rw [e] at h <;> cases h
theorem thV_len (t : Th) : (thV t).length = 2 := rfl
noncomputable def ths (t : Th) : Str := Str.ofString (if t.1 = true then "box" else "number")
theorem thV_0 (t : Th) : (thV t)[Int.toNat 0]? = some (.str (ths t)) := rfl
theorem thV_1 (t : Th) : (thV t)[Int.toNat 1]? = some (.int t.2) := rfl
theorem ths_b (t : Th) : (ths t == Str.ofString "box") = t.1 := by
  obtain ⟨b, v⟩ := t
  cases b <;> rfl
theorem ths_n (t : Th) : (ths t == Str.ofString "number") = !t.1 := by
  obtain ⟨b, v⟩ := t
  cases b <;> rfl
noncomputable def m_is_whole : MSs :=
  (.cons (.ret (.bop .And (.cons (.isi (.loc 0) "int") (.cons (.not (.isi (.loc 0) "bool")) .nil))))
  .nil)
noncomputable def m_need_things (f_is_whole : Addr) : MSs :=
  (.cons (.for_ 1 (.loc 0) (.cons (.ite (.bop .Or (.cons (.not (.isi (.loc 1) "tuple")) (.cons (.cmp (.callb .len (.cons (.loc 1) .nil)) .NotEq (.cint (2))) .nil))) (.cons .raise_
      .nil) .nil)
    (.cons (.ite (.bop .Or (.cons (.bop .And (.cons (.cmp (.sub (.loc 1) (.cint (0))) .NotEq (.cstr (Str.ofString "number"))) (.cons (.cmp (.sub (.loc 1) (.cint (0))) .NotEq (.cstr (Str.ofString "box"))) .nil))) (.cons (.not (.callf f_is_whole (.cons (.sub (.loc 1) (.cint (1))) .nil))) .nil))) (.cons .raise_
      .nil) .nil)
    .nil)))
  .nil)
noncomputable def m_word_of (f_number_word f_link_word : Addr) : MSs :=
  (.cons (.ite (.cmp (.sub (.loc 0) (.cint (0))) .Eq (.cstr (Str.ofString "number"))) (.cons (.ret (.callf f_number_word (.cons (.sub (.loc 0) (.cint (1))) .nil)))
    .nil) .nil)
  (.cons (.ret (.callf f_link_word (.cons (.sub (.loc 0) (.cint (1))) .nil)))
  .nil))
noncomputable def m_Room_places (f_heads c_Room : Addr) : MSs :=
  (.cons (.ret (.callf f_heads (.cons (.attr c_Room 0 (Str.ofString "row")) (.cons (.attr c_Room 0 (Str.ofString "filled")) .nil))))
  .nil)
noncomputable def m_Room_need_boxes (c_Room f_Room_places : Addr) : MSs :=
  (.cons (.assign 2 (.callm c_Room (Str.ofString "places") f_Room_places 0 .nil))
  (.cons (.for_ 3 (.loc 1) (.cons (.ite (.bop .And (.cons (.cmp (.sub (.loc 3) (.cint (0))) .Eq (.cstr (Str.ofString "box"))) (.cons (.cmp (.sub (.loc 3) (.cint (1))) .NotIn (.loc 2)) .nil))) (.cons .raise_
      .nil) .nil)
    .nil))
  .nil))
noncomputable def m_Room_need_box (f_is_whole c_Room f_Room_places : Addr) : MSs :=
  (.cons (.ite (.bop .Or (.cons (.not (.callf f_is_whole (.cons (.loc 1) .nil))) (.cons (.cmp (.loc 1) .NotIn (.callm c_Room (Str.ofString "places") f_Room_places 0 .nil)) .nil))) (.cons .raise_
    .nil) .nil)
  .nil)
theorem whole_ms {i : Int} (h : Q (.bool true) H) : mwpSs cx n m_is_whole [.int i] H (NQ Q) (RQ Q) := by
  refine S_cons ?_
  walk_at "st"
  exact RQ.here h
noncomputable def WholeSp (cx : Cx) (n : Nat) (f : Addr) : Prop := ∀ (i : Int) (H : HP) (Q : V → HP → Prop), Q (.bool true) H → CallP cx n f [.int i] H Q

theorem wordof_ms {f_number_word f_link_word b : Addr} {t : Th} (h1 : Fn1 cx n f_number_word fun p => .int (2 * p)) (h2 : Fn1 cx n f_link_word fun p => .int (2 * p + 1)) (hb : lk cx H b = some (.tup (thV t))) (h : Q (.int (wordP t)) H) :
    mwpSs cx n (m_word_of f_number_word f_link_word) [.ref b] H (NQ Q) (RQ Q) := by
  refine S_cons ?_
  walk_at "st"
  simp only [hb, thV_len, thV_0]
  walk_at "st"
  rw [ths_n]
  unfold wordP at h
  refine ⟨by decide, by decide, fun q => S_cons ?_, fun q => S_nil (S_cons ?_)⟩
  · walk_at "st"
    simp only [hb, thV_len, thV_1]
    refine ⟨by decide, by decide, h1 _ _ _ (RQ.here ?_)⟩
    rw [if_neg (by simpa using q)] at h
    exact h
  · walk_at "st"
    simp only [hb, thV_len, thV_1]
    refine ⟨by decide, by decide, h2 _ _ _ (RQ.here ?_)⟩
    rw [if_pos (by simpa using q)] at h
    exact h
noncomputable def WordOfSpec (cx : Cx) (n : Nat) (f : Addr) : Prop := ∀ (b : Addr) (t : Th) (H : HP) (Q : V → HP → Prop), lk cx H b = some (.tup (thV t)) → Q (.int (wordP t)) H → CallP cx n f [.ref b] H Q

theorem needT_ms {f_is_whole la : Addr} {vs : List V} {ts : List Th} (hw : WholeSp cx n f_is_whole) (hl : lk cx H la = some (.list vs)) (hts : All2 (ThAt cx H) vs ts) (hle : vs.length ≤ 1000) (h : Q .none H) :
    mwpSs cx n (m_need_things f_is_whole) [.ref la, .unb] H (NQ Q) (RQ Q) := by
  refine S_cons ?_
  walk_at "st"
  simp only [hl]
  refine ⟨by first | lia | omega, fun _ μ H' => (∃ z, μ = [.ref la, z]) ∧ H' = H, ⟨⟨_, rfl⟩, rfl⟩, ?_, ?_, ?_⟩
  · rintro _ _ _ ⟨_, rfl⟩; exact hl
  · rintro done x rest μ H' e ⟨⟨z, rfl⟩, rfl⟩
    obtain ⟨t, _, b, rfl, hb⟩ := hts.get (i := done.length) (x := x) (by rw [e]; simp)
    refine S_cons ?_
    walk_at "st"
    simp only [lk_tup hb, hb, thV_len, show (((2 : Nat) : Int) != 2) = false from rfl]
    walk_at "st"
    refine ⟨by decide, S_nil (S_cons ?_)⟩
    walk_at "st"
    simp only [hb, thV_len, thV_0, thV_1]
    walk_at "st"
    rw [ths_n, ths_b]
    cases e1 : t.1
    · walk_at "st"
      refine ⟨by decide, by decide, by decide, by decide, hw _ _ _ ?_⟩
      walk_at "st"
      exact S_nil (S_nil ⟨_, LE.refl _, ⟨_, rfl⟩, rfl⟩)
    · walk_at "st"
      refine ⟨by decide, by decide, by decide, by decide, by decide, by decide, hw _ _ _ ?_⟩
      walk_at "st"
      exact S_nil (S_nil ⟨_, LE.refl _, ⟨_, rfl⟩, rfl⟩)
  · rintro μ H' ⟨_, rfl⟩
    exact S_nil ⟨_, LE.refl _, h⟩
noncomputable def NeedTSpec (cx : Cx) (n : Nat) (f : Addr) : Prop := ∀ (la : Addr) (vs : List V) (ts : List Th) (H : HP) (Q : V → HP → Prop), lk cx H la = some (.list vs) → All2 (ThAt cx H) vs ts → vs.length ≤ 1000 → Q .none H → CallP cx n f [.ref la] H Q

theorem places_ms {f_heads : Addr} (hh : HeadsSpec cx n f_heads) (R : RoomAt C rm dx ra B xs H)
    (hQ : ∀ r H', Ext cx H H' → Fresh cx H r → H' r = some (.list (natsV ((List.range B.length).map (pl B)))) → Q (.ref r) H') :
    mwpSs cx n (m_Room_places f_heads C) [.ref rm] H (NQ Q) (RQ Q) := by
  have hle := R.le
  refine S_cons ?_
  walk_at "st"
  simp only [R.row, R.fil]
  exact hh _ xs B _ _ (lk_of R.r) R.sh (by first | lia | omega) fun r H' x1 x2 x3 => RQ.here (hQ r H' x1 x2 x3)
noncomputable def PlSpec (cx : Cx) (C : Addr) (n : Nat) (f : Addr) : Prop := ∀ (rm dx ra : Addr) (B : Bx) (xs : List Int) (H : HP) (Q : V → HP → Prop), RoomAt C rm dx ra B xs H →
  (∀ r H', Ext cx H H' → Fresh cx H r → H' r = some (.list (natsV ((List.range B.length).map (pl B)))) → Q (.ref r) H') → CallP cx n f [.ref rm] H Q
theorem has_pl {B : Bx} {k : Nat} (h : k < B.length) : (((List.range B.length).map (pl B)).map fun k : Nat => (k : Int)).contains (pl B k : Int) = true := by
  rw [List.contains_iff_mem]
  exact List.mem_map.mpr ⟨_, List.mem_map.mpr ⟨k, List.mem_range.mpr h, rfl⟩, rfl⟩

noncomputable def OkT (B : Bx) (t : Th) : Prop := t.1 = true → ∃ j : Nat, t.2 = (j : Int) ∧ j < B.length
theorem needB_ms {f_Room_places la : Addr} {vs : List V} {ts : List Th} (hp : PlSpec cx C n f_Room_places) (R : RoomAt C rm dx ra B xs H) (hl : lk cx H la = some (.list vs)) (hts : All2 (ThAt cx H) vs (ts.map (plt B))) (hok : ∀ t ∈ ts, OkT B t) (hle : vs.length ≤ 1000) (h : Q .none H) :
    mwpSs cx n (m_Room_need_boxes C f_Room_places) [.ref rm, .ref la, .unb, .unb] H (NQ Q) (RQ Q) := by
  refine S_cons ?_
  walk_at "st"
  refine ⟨R.no fun _ _ => rfl, hp _ _ _ _ _ _ _ R fun r H1 x1 _ hr => S_cons ?_⟩
  walk_at "st"
  simp only [x1.lk hl]
  refine ⟨by first | lia | omega, fun _ μ H' => (∃ z, μ = [.ref rm, .ref la, .ref r, z]) ∧ H' = H1, ⟨⟨_, rfl⟩, rfl⟩, ?_, ?_, ?_⟩
  · rintro _ _ _ ⟨_, rfl⟩; exact x1.lk hl
  · rintro done x rest μ H' e ⟨⟨z, rfl⟩, rfl⟩
    obtain ⟨t', ht', b, rfl, hb⟩ := hts.get (i := done.length) (x := x) (by rw [e]; simp)
    rw [List.getElem?_map] at ht'
    cases ht : ts[done.length]? with
    | none => rw [ht] at ht'; cases ht'
    | some t =>
    rw [ht] at ht'; cases ht'
    have hb1 := x1.lk hb
    refine S_cons ?_
    walk_at "st"
    simp only [hb1, thV_len, thV_0, thV_1]
    walk_at "st"
    rw [ths_b, plt_1]
    cases e1 : t.1
    · walk_at "st"
      refine ⟨by decide, by decide, S_nil (S_nil ⟨_, LE.refl _, ⟨_, rfl⟩, rfl⟩)⟩
    · obtain ⟨j, e2, hj⟩ := hok t (List.mem_of_getElem? ht) e1
      walk_at "st"
      have e3 : (plt B t).2 = (pl B j : Int) := by simp [plt, e1, e2]
      simp only [lk_of hr, natsV, asInts_ints, Option.bind_some, Option.map_some, e3, has_pl hj]
      walk_at "st"
      exact ⟨by decide, by decide, by decide, by decide, S_nil (S_nil ⟨_, LE.refl _, ⟨_, rfl⟩, rfl⟩)⟩
  · rintro μ H' ⟨_, rfl⟩
    exact S_nil ⟨_, x1.le, h⟩
noncomputable def NeedBSpec (cx : Cx) (C : Addr) (n : Nat) (f : Addr) : Prop := ∀ (rm dx ra la : Addr) (B : Bx) (xs : List Int) (vs : List V) (ts : List Th) (H : HP) (Q : V → HP → Prop), RoomAt C rm dx ra B xs H → lk cx H la = some (.list vs) → All2 (ThAt cx H) vs (ts.map (plt B)) → (∀ t ∈ ts, OkT B t) → vs.length ≤ 1000 →
  Q .none H → CallP cx n f [.ref rm, .ref la] H Q

theorem needX_ms {f_is_whole f_Room_places : Addr} {k : Nat} (hw : WholeSp cx n f_is_whole) (hp : PlSpec cx C n f_Room_places) (R : RoomAt C rm dx ra B xs H) (hk : k < B.length) (h : Q .none H) :
    mwpSs cx n (m_Room_need_box f_is_whole C f_Room_places) [.ref rm, .int (pl B k)] H (NQ Q) (RQ Q) := by
  refine S_cons ?_
  walk_at "st"
  refine hw _ _ _ ?_
  walk_at "st"
  refine ⟨R.no fun _ _ => rfl, hp _ _ _ _ _ _ _ R fun r H1 x1 _ hr => ?_⟩
  walk_at "st"
  simp only [lk_of hr, natsV, asInts_ints, Option.bind_some, Option.map_some, has_pl hk]
  walk_at "st"
  exact S_nil (S_nil ⟨_, x1.le, h⟩)
noncomputable def NeedXSpec (cx : Cx) (C : Addr) (n : Nat) (f : Addr) : Prop := ∀ (rm dx ra : Addr) (B : Bx) (xs : List Int) (k : Nat) (H : HP) (Q : V → HP → Prop), RoomAt C rm dx ra B xs H → k < B.length → Q .none H → CallP cx n f [.ref rm, .int (pl B k)] H Q
end
end Mine
end

section
namespace Mine
open PySem PyProof.Rows
section
variable {cx : Cx} {C rm dx ra : Addr} {B : Bx} {xs : List Int} {H H' H1 : HP} {n : Nat} {a r : Addr} {o o' : O} {Q : V → HP → Prop}
noncomputable def KZ (cx : Cx) (H H' : HP) : Prop := ∀ a l, cx.Z a = some l → H a = none → H' a = none
theorem KZ.refl (cx : Cx) (H : HP) : KZ cx H H := fun _ _ _ h => h
theorem KZ.trans (x : KZ cx H H') (y : KZ cx H' H1) : KZ cx H H1 := fun a l h1 h2 => y a l h1 (x a l h1 h2)
theorem KZ.upd (x : KZ cx H H') (h : H' r = some o) : KZ cx H (Mine.upd H' r o') := fun a l h1 h2 => by
  have e := x a l h1 h2
  rw [upd_ne _ (fun q => by subst q; rw [h] at e; cases e)]; exact e
theorem KZ.lk {zs : List V} (x : KZ cx H H') (h : H a = none) (hz : cx.Z a = some zs) : H' a = none ∧ Mine.lk cx H' a = some (.list zs) := by
  have := x a zs hz h
  exact ⟨this, by simp [Mine.lk, this, hz]⟩
theorem ThAt.set {vs ws : List V} {v : V} {t : Th} (hr : H r = some (.list vs)) : ThAt cx H v t → ThAt cx (upd H r (.list ws)) v t := fun ⟨b, e, hb⟩ => ⟨b, e, by
  rw [lk_ne (fun q => by subst q; rw [lk_of hr] at hb; cases hb)]; exact hb⟩
theorem word_link (g : Nat → Nat) (t : Th) : ((word g t).fmod 2 == 1) = t.1 := by
  obtain ⟨b, v⟩ := t
  rw [fmod2]
  cases b
  · simp [word]
  · simp only [word, if_pos, beq_iff_eq]; first | lia | omega
theorem word_told (B : Bx) (t : Th) : (word (pl B) t).fdiv 2 = (plt B t).2 := by
  obtain ⟨b, v⟩ := t
  rw [fdiv2]
  cases b
  · simp [word, plt]
  · simp only [word, plt, if_pos]; first | lia | omega
theorem shp_slice {k : Nat} {f : List Th} (s : Shp B xs) (hk : B[k]? = some f) : (xs.take (min (pl B k + 1 + f.length) xs.length)).drop (min (pl B k + 1) xs.length) = f.map (word (pl B)) := by
  have := slice_eq (ys := xs) (l := f.map (word (pl B))) (a := pl B k + 1) ?_ ?_
  · rw [List.length_map] at this; exact this
  · intro j hj
    rw [List.length_map] at hj
    have ht : f[j]? = some f[j] := List.getElem?_eq_getElem hj
    rw [s.fld hk ht, List.getElem?_map, ht]; rfl
  · rw [List.length_map]
    cases hz : f.length with
    | zero => exact .inl rfl
    | succ m =>
      have ht : f[m]? = some f[m] := List.getElem?_eq_getElem (by omega)
      have := (List.getElem?_eq_some_iff.mp (s.fld hk ht)).1
      exact .inr (by first | lia | omega)
noncomputable def m_Room_told (c_Room f_Room_need_box f_fields_of f_is_link f_told_by : Addr) : MSs :=
  (.cons (.expr (.callm c_Room (Str.ofString "need_box") f_Room_need_box 0 (.cons (.loc 1) .nil)))
  (.cons (.assign 2 (.list .nil))
  (.cons (.for_ 3 (.slice (.attr c_Room 0 (Str.ofString "row")) (.bin .Add (.loc 1) (.cint (1))) (.bin .Add (.bin .Add (.loc 1) (.cint (1))) (.callf f_fields_of (.cons (.sub (.attr c_Room 0 (Str.ofString "row")) (.loc 1)) .nil)))) (.cons (.ite (.callf f_is_link (.cons (.loc 3) .nil)) (.cons (.expr (.meth (.loc 2) .append (.cons (.tup (.cons (.cstr (Str.ofString "box")) (.cons (.callf f_told_by (.cons (.loc 3) .nil)) .nil))) .nil)))
      .nil) (.cons (.expr (.meth (.loc 2) .append (.cons (.tup (.cons (.cstr (Str.ofString "number")) (.cons (.callf f_told_by (.cons (.loc 3) .nil)) .nil))) .nil)))
      .nil))
    .nil))
  (.cons (.ret (.loc 2))
  .nil))))
noncomputable def m_Room_made (f_need_things c_Room f_Room_need_boxes f_head_word f_word_of : Addr) : MSs :=
  (.cons (.expr (.callf f_need_things (.cons (.loc 1) .nil)))
  (.cons (.expr (.callm c_Room (Str.ofString "need_boxes") f_Room_need_boxes 0 (.cons (.loc 1) .nil)))
  (.cons (.assign 2 (.attr c_Room 0 (Str.ofString "filled")))
  (.cons (.assign 3 (.bin .Add (.bin .Add (.loc 2) (.cint (1))) (.callb .len (.cons (.loc 1) .nil))))
  (.cons (.ite (.cmp (.loc 3) .Gt (.callb .len (.cons (.attr c_Room 0 (Str.ofString "row")) .nil))) (.cons .raise_
    .nil) .nil)
  (.cons (.assign 4 (.bin .Add (.list (.cons (.callf f_head_word (.cons (.callb .len (.cons (.loc 1) .nil)) (.cons (.cbool false) .nil))) .nil)) (.comp (.callf f_word_of (.cons (.loc 5) .nil)) (.loc 1) (.cbool true))))
  (.cons (.setAttr c_Room 0 (Str.ofString "row") (.bin .Add (.bin .Add (.slice (.attr c_Room 0 (Str.ofString "row")) .cnone (.loc 2)) (.loc 4)) (.slice (.attr c_Room 0 (Str.ofString "row")) (.loc 3) .cnone)))
  (.cons (.setAttr c_Room 0 (Str.ofString "filled") (.loc 3))
  (.cons (.ret (.loc 2))
  .nil)))))))))
noncomputable def m_Room_put (c_Room f_Room_need_box f_is_whole f_fields_of f_need_things f_Room_need_boxes f_word_of : Addr) : MSs :=
  (.cons (.expr (.callm c_Room (Str.ofString "need_box") f_Room_need_box 0 (.cons (.loc 1) .nil)))
  (.cons (.ite (.bop .Or (.cons (.not (.callf f_is_whole (.cons (.loc 2) .nil))) (.cons (.not (.cmp2 (.cint (0)) .LtE (.loc 2) .Lt (.callf f_fields_of (.cons (.sub (.attr c_Room 0 (Str.ofString "row")) (.loc 1)) .nil)))) .nil))) (.cons .raise_
    .nil) .nil)
  (.cons (.expr (.callf f_need_things (.cons (.list (.cons (.loc 3) .nil)) .nil)))
  (.cons (.expr (.callm c_Room (Str.ofString "need_boxes") f_Room_need_boxes 0 (.cons (.list (.cons (.loc 3) .nil)) .nil)))
  (.cons (.setSub (.attr c_Room 0 (Str.ofString "row")) (.bin .Add (.bin .Add (.loc 1) (.cint (1))) (.loc 2)) (.callf f_word_of (.cons (.loc 3) .nil)))
  .nil)))))
noncomputable def m_Room_come_to (f_marked c_Room f_is_marked f_Room_places : Addr) : MSs :=
  (.cons (.assign 1 (.callf f_marked (.cons (.attr c_Room 0 (Str.ofString "row")) (.cons (.attr c_Room 0 (Str.ofString "filled")) .nil))))
  (.cons (.ret (.comp (.loc 2) (.callm c_Room (Str.ofString "places") f_Room_places 0 .nil) (.callf f_is_marked (.cons (.sub (.loc 1) (.loc 2)) .nil))))
  .nil))
noncomputable def m_Room_pushed (c_Room f_pushed_sliding : Addr) : MSs :=
  (.cons (.assign 1 (.attr c_Room 0 (Str.ofString "filled")))
  (.cons (.assign 2 (.callf f_pushed_sliding (.cons (.attr c_Room 0 (Str.ofString "row")) (.cons (.attr c_Room 0 (Str.ofString "filled")) .nil))))
  (.cons (.setAttr c_Room 0 (Str.ofString "row") (.sub (.loc 2) (.cint (0))))
  (.cons (.setAttr c_Room 0 (Str.ofString "filled") (.sub (.loc 2) (.cint (1))))
  (.cons (.ret (.bin .Sub (.loc 1) (.attr c_Room 0 (Str.ofString "filled"))))
  .nil)))))
noncomputable def m_Room_used (c_Room : Addr) : MSs :=
  (.cons (.ret (.attr c_Room 0 (Str.ofString "filled")))
  .nil)
noncomputable def m_Room_cells (c_Room : Addr) : MSs :=
  (.cons (.ret (.callb .list (.cons (.attr c_Room 0 (Str.ofString "row")) .nil)))
  .nil)
noncomputable def m_Room_init (f_is_whole c_Room f_head_word : Addr) : MSs :=
  (.cons (.ite (.bop .Or (.cons (.not (.callf f_is_whole (.cons (.loc 1) .nil))) (.cons (.not (.callf f_is_whole (.cons (.loc 2) .nil))) .nil))) (.cons .raise_
    .nil) .nil)
  (.cons (.ite (.bop .Or (.cons (.not (.cmp2 (.cint (1)) .LtE (.loc 1) .LtE (.gint (400)))) (.cons (.not (.cmp2 (.cint (0)) .LtE (.loc 2) .LtE (.gint (20)))) (.cons (.cmp (.bin .Add (.loc 2) (.cint (1))) .Gt (.loc 1)) .nil)))) (.cons .raise_
    .nil) .nil)
  (.cons (.setAttr c_Room 0 (Str.ofString "row") (.bin .Add (.list (.cons (.callf f_head_word (.cons (.loc 2) (.cons (.cbool false) .nil))) .nil)) (.bin .Mult (.list (.cons (.cint (0)) .nil)) (.bin .Sub (.loc 1) (.cint (1))))))
  (.cons (.setAttr c_Room 0 (Str.ofString "filled") (.bin .Add (.loc 2) (.cint (1))))
  .nil))))
theorem told9_ms {f_Room_need_box f_fields_of f_is_link f_told_by : Addr} {k : Nat} {f : List Th} (hx : NeedXSpec cx C n f_Room_need_box) (h2 : Fn1 cx n f_fields_of fun w => .int (w.fdiv 4)) (h3 : Fn1 cx n f_is_link fun w => .bool (w.fmod 2 == 1)) (h5 : Fn1 cx n f_told_by fun w => .int (w.fdiv 2))
    (R : RoomAt C rm dx ra B xs H) (hk : B[k]? = some f)
    (hQ : ∀ r vs H', Ext cx H H' → Fresh cx H r → H' r = some (.list vs) → All2 (ThAt cx H') vs (f.map (plt B)) → Q (.ref r) H') :
    mwpSs cx n (m_Room_told C f_Room_need_box f_fields_of f_is_link f_told_by) [.ref rm, .int (pl B k), .unb, .unb] H (NQ Q) (RQ Q) := by
  have hkl := (List.getElem?_eq_some_iff.mp hk).1
  have hlen := R.len
  have hfl := fld_le_pl hk
  have hle := R.le
  refine S_cons ?_
  walk_at "st"
  refine ⟨R.no fun _ _ => rfl, hx _ _ _ _ _ _ _ _ R hkl (S_cons ?_)⟩
  walk_at "st"
  refine ⟨by simp, fun r hr => S_cons ?_⟩
  have R1 := R.ext (Ext.new hr (.list [])).le
  walk_at "st"
  simp only [R1.row]
  walk_at "st"
  simp only [lk_of R1.r, ints_length, ints_get?, Int.toNat_natCast, R.sh.hd hk, Option.map_some]
  refine ⟨by first | lia | omega, by first | lia | omega, h2 _ _ _ ?_⟩
  dsimp only
  rw [fdiv4, show 4 * (f.length : Int) / 4 = (f.length : Int) from by first | lia | omega]
  walk_at "st"
  simp only [lk_of R1.r, ints_length]
  rw [show ((pl B k : Int) + 1 + (f.length : Int)) = ((pl B k + 1 + f.length : Nat) : Int) from by first | lia | omega, show ((pl B k : Int) + 1) = ((pl B k + 1 : Nat) : Int) from by first | lia | omega, cutLo_nn (by first | lia | omega), cutHi_nn (by first | lia | omega)]
  simp only [Int.toNat_natCast, cut_ints]
  rw [shp_slice R.sh hk]
  refine ⟨by first | lia | omega, fun sl hsl => ?_⟩
  have hsr : r ≠ sl := hsl.ne lk_same
  simp only [lk_same, ints_length, List.length_map]
  refine ⟨by first | lia | omega, fun done μ H' => ∃ z vs, μ = [.ref rm, .int (pl B k), .ref r, z] ∧ Ext cx H H' ∧ H' r = some (.list vs) ∧ H' sl = some (.list (intsV (f.map (word (pl B))))) ∧ All2 (ThAt cx H') vs ((f.take done.length).map (plt B)), ?_, ?_, ?_, ?_⟩
  · exact ⟨_, [], rfl, (Ext.new hr _).new' hsl _, by rw [upd_ne _ hsr, upd_same], upd_same _ _ _, All2.nil⟩
  · rintro done μ H' ⟨_, _, _, _, _, h, _⟩; exact lk_of h
  · rintro done x rest μ H3 hitems ⟨z, vs, rfl, x3, hr3, hsl3, ha⟩
    have hx : (intsV (f.map (word (pl B))))[done.length]? = some x := by rw [hitems]; simp
    rw [ints_get?, List.getElem?_map] at hx
    cases ht : f[done.length]? with
    | none => rw [ht] at hx; cases hx
    | some t =>
    rw [ht] at hx
    simp only [Option.map_some, Option.some.injEq] at hx
    subst hx
    have htl := (List.getElem?_eq_some_iff.mp ht).1
    have hvl := ha.1
    rw [List.length_map, List.length_take] at hvl
    have fin : ∀ tb, Fresh cx H3 tb → ∀ c : String, c = (if t.1 = true then "box" else "number") → ∃ H₃, LE H₃ (upd (upd H3 tb (.tup [.str (Str.ofString c), .int (plt B t).2])) r (.list (vs ++ [.ref tb]))) ∧
        ∃ z vs, ([.ref rm, .int (pl B k), .ref r, .int (word (pl B) t)] : List V) = [.ref rm, .int (pl B k), .ref r, z] ∧ Ext cx H H₃ ∧ H₃ r = some (.list vs) ∧ H₃ sl = some (.list (intsV (f.map (word (pl B))))) ∧ All2 (ThAt cx H₃) vs ((f.take (done ++ [V.int (word (pl B) t)]).length).map (plt B)) := by
      intro tb htb c hc
      have n1 : r ≠ tb := htb.ne' hr3
      have n2 : sl ≠ tb := htb.ne' hsl3
      refine ⟨_, LE.refl _, _, _, rfl, (x3.new' htb _).upd hr.1 hr.2.2 _, upd_same _ _ _, ?_, ?_⟩
      · rw [upd_ne _ (Ne.symm hsr), upd_ne _ n2]; exact hsl3
      · rw [List.length_append, List.length_singleton, List.take_succ, ht, List.map_append]
        have hu : (upd H3 tb (.tup [.str (Str.ofString c), .int (plt B t).2])) r = some (.list vs) := by rw [upd_ne _ n1]; exact hr3
        refine All2.snoc (ha.imp fun _ _ q => ThAt.set hu (q.ext (Ext.new htb _))) (ThAt.set hu ⟨tb, rfl, ?_⟩)
        rw [lk_same, hc, thV, plt_1]
    refine S_cons ?_
    walk_at "st"
    refine h3 _ _ _ ?_
    rw [tr_b, word_link]
    refine ⟨fun q => S_cons ?_, fun q => S_cons ?_⟩
    · walk_at "st"
      simp only [hr3]
      refine ⟨trivial, h5 _ _ _ ?_⟩
      dsimp only
      rw [word_told]
      refine ⟨by simp, fun tb htb => ?_⟩
      have n1 : r ≠ tb := htb.ne' hr3
      simp only [upd_ne _ n1, hr3]
      exact ⟨by first | lia | omega, S_nil (S_nil (fin tb htb _ (by rw [if_pos q])))⟩
    · walk_at "st"
      simp only [hr3]
      refine ⟨trivial, h5 _ _ _ ?_⟩
      dsimp only
      rw [word_told]
      refine ⟨by simp, fun tb htb => ?_⟩
      have n1 : r ≠ tb := htb.ne' hr3
      simp only [upd_ne _ n1, hr3]
      exact ⟨by first | lia | omega, S_nil (S_nil (fin tb htb _ (by rw [if_neg (by simp [q])])))⟩
  · rintro μ H3 ⟨z, vs, rfl, x3, hr3, hsl3, ha⟩
    refine S_cons ?_
    walk_at "st"
    rw [ints_length, List.length_map, List.take_length] at ha
    exact RQ.here (hQ r vs H3 x3 hr hr3 ha)
noncomputable def ToldSpec (cx : Cx) (C : Addr) (n : Nat) (f : Addr) : Prop := ∀ (rm dx ra : Addr) (B : Bx) (xs : List Int) (k : Nat) (fl : List Th) (H : HP) (Q : V → HP → Prop), RoomAt C rm dx ra B xs H → B[k]? = some fl →
  (∀ r vs H', Ext cx H H' → Fresh cx H r → H' r = some (.list vs) → All2 (ThAt cx H') vs (fl.map (plt B)) → Q (.ref r) H') → CallP cx n f [.ref rm, .int (pl B k)] H Q

theorem used_ms (R : RoomAt C rm dx ra B xs H) (h : Q (.int (pl B B.length)) H) : mwpSs cx n (m_Room_used C) [.ref rm] H (NQ Q) (RQ Q) := by
  refine S_cons ?_
  walk_at "st"
  simp only [R.fil]
  exact RQ.here h
noncomputable def UsedSpec (cx : Cx) (C : Addr) (n : Nat) (f : Addr) : Prop := ∀ (rm dx ra : Addr) (B : Bx) (xs : List Int) (H : HP) (Q : V → HP → Prop), RoomAt C rm dx ra B xs H → Q (.int (pl B B.length)) H → CallP cx n f [.ref rm] H Q
theorem cells_ms (R : RoomAt C rm dx ra B xs H) (hQ : ∀ r H' vs, Ext cx H H' → H' r = some (.list vs) → vs.length = 400 → Q (.ref r) H') : mwpSs cx n (m_Room_cells C) [.ref rm] H (NQ Q) (RQ Q) := by
  have hlen := R.len
  refine S_cons ?_
  walk_at "st"
  simp only [R.row]
  walk_at "st"
  simp only [lk_of R.r, ints_length]
  exact ⟨by first | lia | omega, fun r hr => RQ.here (hQ r _ _ (Ext.new hr _) (upd_same _ _ _) (by rw [ints_length]; exact hlen))⟩
noncomputable def CellsSpec (cx : Cx) (C : Addr) (n : Nat) (f : Addr) : Prop := ∀ (rm dx ra : Addr) (B : Bx) (xs : List Int) (H : HP) (Q : V → HP → Prop), RoomAt C rm dx ra B xs H → (∀ r H' vs, Ext cx H H' → H' r = some (.list vs) → vs.length = 400 → Q (.ref r) H') → CallP cx n f [.ref rm] H Q

theorem come_ms {f_marked f_is_marked f_Room_places : Addr} (hm : MarkedSpec cx n f_marked) (h4 : Fn1 cx n f_is_marked fun w => .bool ((w.fdiv 2).fmod 2 == 1)) (hp : PlSpec cx C n f_Room_places) (R : RoomAt C rm dx ra B xs H)
    (hQ : ∀ r H' p, Ext cx H H' → Fresh cx H r → (∀ k, p k = true ↔ Reach B k) → H' r = some (.list (natsV ((kl p B.length).map (pl B)))) → Q (.ref r) H') :
    mwpSs cx n (m_Room_come_to f_marked C f_is_marked f_Room_places) [.ref rm, .unb] H (NQ Q) (RQ Q) := by
  have hlen := R.len
  have hle := R.le
  have hBl := len_le_pl B (Nat.le_refl _)
  refine S_cons ?_
  walk_at "st"
  simp only [R.row, R.fil]
  refine hm _ xs B _ _ _ (lk_of R.r) R.sh R.w (by first | lia | omega) fun mr H1 M x1 _ hmr hM => S_cons ?_
  walk_at "st"
  refine ⟨(R.ext x1.le).no fun _ _ => rfl, hp _ _ _ _ _ _ _ (R.ext x1.le) fun pr H2 x2 _ hpr => ?_⟩
  walk_at "st"
  simp only [lk_of hpr, natsV_length, List.length_map, List.length_range]
  refine ⟨by first | lia | omega, by simp [natsV_length]; first | lia | omega, fun done acc H' => acc = natsV ((kl (fun k => decide (k ∈ M)) done.length).map (pl B)) ∧ H' = H2, ⟨rfl, rfl⟩, ?_, ?_, ?_⟩
  · rintro _ _ _ ⟨_, rfl⟩; exact lk_of hpr
  · rintro done x rest acc H' e ⟨rfl, rfl⟩
    have hx : (natsV ((List.range B.length).map (pl B)))[done.length]? = some x := by rw [e]; simp
    rw [natsV_get?, List.getElem?_map] at hx
    have hd : done.length < B.length := by
      have := congrArg List.length e
      simp [natsV_length] at this; omega
    rw [List.getElem?_range hd] at hx
    simp only [Option.map_some, Option.some.injEq] at hx
    subst hx
    have hk : B[done.length]? = some B[done.length] := List.getElem?_eq_getElem hd
    walk_at "st"
    simp only [lk_of (x2.le _ _ hmr), ints_length, bump_length, ints_get?, Int.toNat_natCast, bump_head R.sh (fun i hi => ((hM i).mp hi).lt R.w) hk, Option.map_some]
    refine ⟨by first | lia | omega, by first | lia | omega, h4 _ _ _ ?_⟩
    rw [tr_b]
    have hb : (((4 * (B[done.length].length : Int) + if done.length ∈ M then 2 else 0).fdiv 2).fmod 2 == 1) = decide (done.length ∈ M) := by
      have := hw_marked B[done.length].length (decide (done.length ∈ M))
      simpa using this
    rw [hb]
    refine ⟨fun q => ⟨_, LE.refl _, ?_, rfl⟩, fun q => ⟨_, LE.refl _, ?_, rfl⟩⟩
    · rw [List.length_append, List.length_singleton, kl_succ, if_pos q, List.map_append]
      exact natsV_snoc _ _
    · rw [List.length_append, List.length_singleton, kl_succ, if_neg (by simpa using q), List.append_nil]
      exact List.append_nil _
  · rintro acc H' ⟨rfl, rfl⟩
    rw [natsV_length, List.length_map, List.length_range]
    intro r hr
    exact RQ.here (hQ r _ (fun k => decide (k ∈ M)) ((x1.trans x2).new' hr _) ((x1.trans x2).fresh hr) (fun k => by rw [decide_eq_true_iff]; exact hM k) (upd_same _ _ _))
noncomputable def ComeSpec (cx : Cx) (C : Addr) (n : Nat) (f : Addr) : Prop := ∀ (rm dx ra : Addr) (B : Bx) (xs : List Int) (H : HP) (Q : V → HP → Prop), RoomAt C rm dx ra B xs H →
  (∀ r H' p, Ext cx H H' → Fresh cx H r → (∀ k, p k = true ↔ Reach B k) → H' r = some (.list (natsV ((kl p B.length).map (pl B)))) → Q (.ref r) H') → CallP cx n f [.ref rm] H Q
end
end Mine
end

section
namespace Mine
open PySem PyProof.Rows
section
variable {cx : Cx} {C rm dx ra : Addr} {B : Bx} {xs : List Int} {H H' H1 : HP} {n : Nat} {a r : Addr} {o o' : O} {Q : V → HP → Prop}
noncomputable def But (d : Addr) (H H' : HP) : Prop := ∀ a o, a ≠ d → H a = some o → H' a = some o
theorem RoomAt.setRow {r : Addr} {v : V} (R : RoomAt C rm dx ra B xs H) {P : HP → Prop} (h : P (upd H dx (.flds [(Str.ofString "row", v), (Str.ofString "filled", .int (pl B B.length))]))) : setAttrP C (.ref rm) (Str.ofString "row") v H P := by
  simp only [setAttrP, onR, R.i, onIn, R.d, onFl, true_and]
  exact ⟨by simp [roomF], h⟩
theorem setFil {v w v' : V} {P : HP → Prop} (hi : H rm = some (.inst C dx)) (hd : H dx = some (.flds [(Str.ofString "row", v), (Str.ofString "filled", w)])) (h : P (upd H dx (.flds [(Str.ofString "row", v), (Str.ofString "filled", v')]))) : setAttrP C (.ref rm) (Str.ofString "filled") v' H P := by
  simp only [setAttrP, onR, hi, onIn, hd, onFl, true_and]
  exact ⟨by simp, h⟩
theorem RoomAt.nrd (R : RoomAt C rm dx ra B xs H) : rm ≠ dx := fun e => by have := R.i; rw [e, R.d] at this; cases this
theorem RoomAt.nra (R : RoomAt C rm dx ra B xs H) : rm ≠ ra := fun e => by have := R.i; rw [e, R.r] at this; cases this
theorem RoomAt.nda (R : RoomAt C rm dx ra B xs H) : dx ≠ ra := fun e => by have := R.d; rw [e, R.r] at this; cases this

theorem put_ms {f_Room_need_box f_is_whole f_fields_of f_need_things f_Room_need_boxes f_word_of b : Addr} {k j : Nat} {f : List Th} {t : Th} (hx : NeedXSpec cx C n f_Room_need_box) (hw : WholeSp cx n f_is_whole) (h2 : Fn1 cx n f_fields_of fun w => .int (w.fdiv 4)) (hnt : NeedTSpec cx n f_need_things) (hnb : NeedBSpec cx C n f_Room_need_boxes) (hwo : WordOfSpec cx n f_word_of)
    (R : RoomAt C rm dx ra B xs H) (hk : B[k]? = some f) (hj : j < f.length) (hb : lk cx H b = some (.tup (thV (plt B t)))) (hok : OkT B t)
    (hQ : ∀ xs' H', RoomAt C rm dx ra (B.set k (f.set j t)) xs' H' → KZ cx H H' → Q .none H') :
    mwpSs cx n (m_Room_put C f_Room_need_box f_is_whole f_fields_of f_need_things f_Room_need_boxes f_word_of) [.ref rm, .int (pl B k), .int j, .ref b] H (NQ Q) (RQ Q) := by
  have hkl := (List.getElem?_eq_some_iff.mp hk).1
  have hlen := R.len
  refine S_cons ?_
  walk_at "st"
  refine ⟨R.no fun _ _ => rfl, hx _ _ _ _ _ _ _ _ R hkl (S_cons ?_)⟩
  walk_at "st"
  refine hw _ _ _ ?_
  walk_at "st"
  refine ⟨fun _ => ?_, fun q => absurd q (by rw [decide_eq_false_iff_not]; first | lia | omega)⟩
  simp only [R.row]
  walk_at "st"
  simp only [lk_of R.r, ints_length, ints_get?, Int.toNat_natCast, R.sh.hd hk, Option.map_some]
  refine ⟨by first | lia | omega, by first | lia | omega, h2 _ _ _ ?_⟩
  dsimp only
  rw [fdiv4, show 4 * (f.length : Int) / 4 = (f.length : Int) from by first | lia | omega]
  walk_at "st"
  rw [show decide ((j : Int) < (f.length : Int)) = true from decide_eq_true (by first | lia | omega)]
  walk_at "st"
  refine S_nil (S_cons ?_)
  walk_at "st"
  have one : ∀ {H1 : HP}, Ext cx H H1 → All2 (ThAt cx H1) [.ref b] [plt B t] := fun x => All2.nil.snoc ⟨b, rfl, x.lk hb⟩
  refine ⟨by simp, fun r1 hr1 => ?_⟩
  have x1 := Ext.new hr1 (.list [V.ref b])
  refine hnt _ _ _ _ _ lk_same (one x1) (by simp) (S_cons ?_)
  walk_at "st"
  refine ⟨(R.ext x1.le).no fun _ _ => rfl, by simp, fun r2 hr2 => ?_⟩
  have x2 := x1.new' hr2 (.list [V.ref b])
  refine hnb _ _ _ _ _ _ _ [t] _ _ (R.ext x2.le) lk_same (one x2) (fun u hu => by rw [List.mem_singleton] at hu; rw [hu]; exact hok) (by simp) (S_cons ?_)
  generalize upd (upd H r1 (.list [V.ref b])) r2 (.list [V.ref b]) = H2 at x2
  have R2 := R.ext x2.le
  walk_at "st"
  refine hwo _ _ _ _ (x2.lk hb) ?_
  simp only [R2.row]
  walk_at "st"
  have hfl : f[j]? = some f[j] := List.getElem?_eq_getElem hj
  have hxl := (List.getElem?_eq_some_iff.mp (R.sh.fld hk hfl)).1
  rw [show (pl B k : Int) + 1 + (j : Int) = ((pl B k + 1 + j : Nat) : Int) from by first | lia | omega]
  simp only [R2.r, ints_length, Int.toNat_natCast, ints_set, word_plt]
  refine ⟨by first | lia | omega, by first | lia | omega, hxl, S_nil ⟨_, LE.refl _, hQ (xs.set (pl B k + 1 + j) (word (pl B) t)) _ ⟨?_, ?_, upd_same _ _ _, shp_set R.sh hk hj, by rw [List.length_set]; exact R.len, ?_, wfb_set R.w hk hok⟩ (KZ.upd x2.z R2.r)⟩⟩
  · rw [upd_ne _ R2.nra]; exact R2.i
  · rw [upd_ne _ R2.nda, pl_set_len hk (by simp)]; exact R2.d
  · rw [pl_set_len hk (by simp)]; exact R.le
noncomputable def PutSpec (cx : Cx) (C : Addr) (n : Nat) (g : Addr) : Prop := ∀ (rm dx ra b : Addr) (B : Bx) (xs : List Int) (k j : Nat) (f : List Th) (t : Th) (H : HP) (Q : V → HP → Prop), RoomAt C rm dx ra B xs H → B[k]? = some f → j < f.length → lk cx H b = some (.tup (thV (plt B t))) → OkT B t →
  (∀ xs' H', RoomAt C rm dx ra (B.set k (f.set j t)) xs' H' → KZ cx H H' → Q .none H') → CallP cx n g [.ref rm, .int (pl B k), .int j, .ref b] H Q

theorem made_ms {f_need_things f_Room_need_boxes f_head_word f_word_of la : Addr} {vs : List V} {ts : List Th} (hnt : NeedTSpec cx n f_need_things) (hnb : NeedBSpec cx C n f_Room_need_boxes) (h1 : ∀ (p : Int) (b : Bool) (H : HP) (Q : V → HP → Prop), Q (.int (4 * p + 2 * (if b then 1 else 0))) H → CallP cx n f_head_word [.int p, .bool b] H Q) (hwo : WordOfSpec cx n f_word_of)
    (R : RoomAt C rm dx ra B xs H) (hl : lk cx H la = some (.list vs)) (hts : All2 (ThAt cx H) vs (ts.map (plt B))) (hok : ∀ t ∈ ts, OkT B t) (hle : pl B B.length + 1 + ts.length ≤ 400)
    (hQ : ∀ v ra' xs' H', RoomAt C rm dx ra' (B ++ [ts]) xs' H' → KZ cx H H' → Q v H') :
    mwpSs cx n (m_Room_made f_need_things C f_Room_need_boxes f_head_word f_word_of) [.ref rm, .ref la, .unb, .unb, .unb] H (NQ Q) (RQ Q) := by
  have h1' : ∀ (p : Int) (H : HP) (Q : V → HP → Prop), Q (.int (4 * p)) H → CallP cx n f_head_word [.int p, .bool false] H Q := fun p H Q h => h1 p false H Q (by simpa using h)
  have hlen := R.len
  have hvl := hts.1
  rw [List.length_map] at hvl
  refine S_cons ?_
  walk_at "st"
  refine hnt _ _ _ _ _ hl hts (by first | lia | omega) (S_cons ?_)
  walk_at "st"
  refine ⟨R.no fun _ _ => rfl, hnb _ _ _ _ _ _ _ _ _ _ R hl hts hok (by first | lia | omega) (S_cons ?_)⟩
  walk_at "st"
  simp only [R.fil]
  refine S_cons ?_
  walk_at "st"
  simp only [hl, hvl]
  rw [show (pl B B.length : Int) + 1 + (ts.length : Int) = ((pl B B.length + 1 + ts.length : Nat) : Int) from by first | lia | omega]
  refine ⟨by first | lia | omega, S_cons ?_⟩
  walk_at "st"
  simp only [R.row]
  walk_at "st"
  simp only [lk_of R.r, ints_length, hlen]
  rw [show decide (((400 : Nat) : Int) < ((pl B B.length + 1 + ts.length : Nat) : Int)) = false from decide_eq_false (by first | lia | omega)]
  walk_at "st"
  refine ⟨by decide, S_nil (S_cons ?_)⟩
  walk_at "st"
  simp only [hl, hvl]
  refine ⟨by first | lia | omega, h1' _ _ _ ⟨by simp, fun r1 hr1 => ?_⟩⟩
  have x1 := Ext.new hr1 (.list [V.int (4 * (ts.length : Int))])
  simp only [x1.lk hl]
  refine ⟨by first | lia | omega, by first | lia | omega, fun done acc H' => acc = intsV ((ts.take done.length).map (word (pl B))) ∧ H' = upd H r1 (.list [V.int (4 * (ts.length : Int))]), ⟨rfl, rfl⟩, ?_, ?_, ?_⟩
  · rintro _ _ _ ⟨_, rfl⟩; exact x1.lk hl
  · rintro done x rest acc H' e ⟨rfl, rfl⟩
    obtain ⟨t', ht', b, rfl, hb⟩ := hts.get (i := done.length) (x := x) (by rw [e]; simp)
    rw [List.getElem?_map] at ht'
    cases ht : ts[done.length]? with
    | none => rw [ht] at ht'; cases ht'
    | some t =>
    rw [ht] at ht'; cases ht'
    walk_at "st"
    refine hwo _ _ _ _ (x1.lk hb) ⟨_, LE.refl _, ?_, rfl⟩
    rw [word_plt, List.length_append, List.length_singleton, List.take_succ, ht, List.map_append]
    simp [intsV]
  rintro acc H' ⟨rfl, rfl⟩ r2 hr2
  rw [hvl, List.take_length] at *
  have n12 : r1 ≠ r2 := hr2.ne lk_same
  walk_at "st"
  simp only [lk_ne n12, lk_same, List.length_singleton, ints_length, List.length_map]
  refine ⟨by first | lia | omega, fun r3 hr3 => S_cons ?_⟩
  have x3 := (x1.new' hr2 (.list (intsV (ts.map (word (pl B)))))).new' hr3 (.list ([V.int (4 * (ts.length : Int))] ++ intsV (ts.map (word (pl B)))))
  have e3 : (upd (upd (upd H r1 (.list [V.int (4 * (ts.length : Int))])) r2 (.list (intsV (ts.map (word (pl B)))))) r3 (.list ([V.int (4 * (ts.length : Int))] ++ intsV (ts.map (word (pl B)))))) r3 = some (.list (intsV (4 * (ts.length : Int) :: ts.map (word (pl B))))) := by
    rw [upd_same]; simp [intsV]
  generalize upd (upd (upd H r1 (.list [V.int (4 * (ts.length : Int))])) r2 (.list (intsV (ts.map (word (pl B)))))) r3 (.list ([V.int (4 * (ts.length : Int))] ++ intsV (ts.map (word (pl B))))) = H3 at x3 e3
  have R3 := R.ext x3.le
  walk_at "st"
  simp only [R3.row]
  walk_at "st"
  simp only [lk_of R3.r, ints_length, hlen, cutHi_nn (Int.natCast_nonneg _), cutLo, Int.toNat_natCast, cut_ints, List.drop_zero]
  rw [Nat.min_eq_left (show pl B B.length ≤ 400 by first | lia | omega)]
  refine ⟨by first | lia | omega, fun r4 hr4 => ?_⟩
  have x4 := x3.new' hr4 (.list (intsV (xs.take (pl B B.length))))
  have e4 := (Ext.new hr4 (.list (intsV (xs.take (pl B B.length))))).lk (lk_of e3)
  walk_at "st"
  simp only [e4, lk_same, ints_length, List.length_take, List.length_cons, List.length_map, ints_append, hlen]
  refine ⟨by first | lia | omega, fun r5 hr5 => ?_⟩
  have x5 := x4.new' hr5 (.list (intsV (xs.take (pl B B.length) ++ (4 * (ts.length : Int) :: ts.map (word (pl B))))))
  have e5 : lk cx (upd (upd H3 r4 (.list (intsV (xs.take (pl B B.length))))) r5 (.list (intsV (xs.take (pl B B.length) ++ (4 * (ts.length : Int) :: ts.map (word (pl B))))))) r5 = some (.list (intsV (xs.take (pl B B.length) ++ (4 * (ts.length : Int) :: ts.map (word (pl B)))))) := lk_same
  generalize upd (upd H3 r4 (.list (intsV (xs.take (pl B B.length))))) r5 (.list (intsV (xs.take (pl B B.length) ++ (4 * (ts.length : Int) :: ts.map (word (pl B)))))) = H5 at x5 e5
  have R5 := R.ext x5.le
  simp only [R5.row]
  walk_at "st"
  simp only [lk_of R5.r, ints_length, hlen, cutLo_nn (Int.natCast_nonneg _), cutHi, Int.toNat_natCast, cut_ints]
  rw [Nat.min_eq_left (show pl B B.length + 1 + ts.length ≤ 400 by first | lia | omega), List.take_of_length_le (show xs.length ≤ 400 by first | lia | omega)]
  refine ⟨by first | lia | omega, fun r6 hr6 => ?_⟩
  have x6 := x5.new' hr6 (.list (intsV (xs.drop (pl B B.length + 1 + ts.length))))
  have e6 := (Ext.new hr6 (.list (intsV (xs.drop (pl B B.length + 1 + ts.length))))).lk e5
  walk_at "st"
  simp only [e6, lk_same, ints_length, ints_append, List.length_append, List.length_take, List.length_cons, List.length_map, List.length_drop, hlen]
  refine ⟨by first | lia | omega, fun r7 hr7 => ?_⟩
  have hsh := shp_app R.sh R.w (by first | lia | omega) hok
  have hxl : (xs.take (pl B B.length) ++ (4 * (ts.length : Int) :: ts.map (word (pl B))) ++ xs.drop (pl B B.length + 1 + ts.length)).length = 400 := by
    simp only [List.length_append, List.length_take, List.length_cons, List.length_map, List.length_drop, hlen]; first | lia | omega
  generalize xs.take (pl B B.length) ++ (4 * (ts.length : Int) :: ts.map (word (pl B))) ++ xs.drop (pl B B.length + 1 + ts.length) = ys at hsh hxl
  have x7 := x6.new' hr7 (.list (intsV ys))
  have e7 : (upd (upd H5 r6 (.list (intsV (xs.drop (pl B B.length + 1 + ts.length))))) r7 (.list (intsV ys))) r7 = some (.list (intsV ys)) := upd_same _ _ _
  have hdr : dx ≠ r7 := hr7.ne' (x6.le _ _ R.d)
  generalize upd (upd H5 r6 (.list (intsV (xs.drop (pl B B.length + 1 + ts.length))))) r7 (.list (intsV ys)) = H7 at x7 e7
  have R7 := R.ext x7.le
  refine R7.setRow (r := r7) (S_cons ?_)
  walk_at "st"
  refine setFil (by rw [upd_ne _ R7.nrd]; exact R7.i) (upd_same _ _ _) (S_cons ?_)
  walk_at "st"
  rw [upd_upd]
  refine RQ.here (hQ _ r7 ys _ ⟨?_, ?_, ?_, hsh, hxl, by rw [pl_app_len]; exact hle, wfb_app R.w hok⟩ (KZ.upd x7.z R7.d))
  · rw [upd_ne _ R7.nrd]; exact R7.i
  · rw [upd_same, pl_app_len]; rfl
  · rw [upd_ne _ (Ne.symm hdr)]; exact e7
noncomputable def MadeSpec (cx : Cx) (C : Addr) (n : Nat) (g : Addr) : Prop := ∀ (rm dx ra la : Addr) (B : Bx) (xs : List Int) (vs : List V) (ts : List Th) (H : HP) (Q : V → HP → Prop), RoomAt C rm dx ra B xs H → lk cx H la = some (.list vs) → All2 (ThAt cx H) vs (ts.map (plt B)) → (∀ t ∈ ts, OkT B t) → pl B B.length + 1 + ts.length ≤ 400 →
  (∀ v ra' xs' H', RoomAt C rm dx ra' (B ++ [ts]) xs' H' → KZ cx H H' → Q v H') → CallP cx n g [.ref rm, .ref la] H Q

theorem pushm_ms {f_pushed : Addr} (hp : PushedSpec cx n f_pushed) (R : RoomAt C rm dx ra B xs H)
    (hQ : ∀ r p xs' H', (∀ k, p k = true ↔ Reach B k) → RoomAt C rm dx r (box2 B p B.length) xs' H' → But dx H H' → KZ cx H H' → Q (.int ((pl B B.length : Int) - (pl (box2 B p B.length) (box2 B p B.length).length : Int))) H') :
    mwpSs cx n (m_Room_pushed C f_pushed) [.ref rm, .unb, .unb] H (NQ Q) (RQ Q) := by
  have hlen := R.len
  have hle := R.le
  refine S_cons ?_
  walk_at "st"
  simp only [R.fil]
  refine S_cons ?_
  walk_at "st"
  simp only [R.row, R.fil]
  refine hp _ B xs _ _ (lk_of R.r) R.sh R.w (by first | lia | omega) fun t r H1 p x1 hr hpR hnw hrow ht => S_cons ?_
  have R1 := R.ext x1.le
  have hd1 : dx ≠ r := hr.ne' R.d
  have htd : t ≠ dx := fun e => by rw [e, R1.d] at ht; cases ht
  walk_at "st"
  simp only [lk_of ht, List.length_cons, List.length_nil, show ([V.ref r, V.int (nw B p B.length : Int)] : List V)[Int.toNat 0]? = some (.ref r) from rfl]
  refine ⟨by decide, by decide, R1.setRow (r := r) (S_cons ?_)⟩
  walk_at "st"
  rw [lk_ne htd]
  simp only [lk_of ht, List.length_cons, List.length_nil, show ([V.ref r, V.int (nw B p B.length : Int)] : List V)[Int.toNat 1]? = some (.int (nw B p B.length)) from rfl]
  refine ⟨by decide, by decide, setFil (by rw [upd_ne _ R1.nrd]; exact R1.i) (upd_same _ _ _) (S_cons ?_)⟩
  rw [upd_upd]
  have hu : pl (box2 B p B.length) (box2 B p B.length).length = nw B p B.length := by rw [box2_length]; exact box2_pl (Nat.le_refl _)
  have hl2 : (rowOf (nw B p) (kept B p B.length) ++ List.replicate (xs.length - nw B p B.length) 0).length = 400 := by
    rw [List.length_append, kept_len, List.length_replicate]; first | lia | omega
  have RR : RoomAt C rm dx r (box2 B p B.length) (rowOf (nw B p) (kept B p B.length) ++ List.replicate (xs.length - nw B p B.length) 0) (upd H1 dx (.flds [(Str.ofString "row", .ref r), (Str.ofString "filled", .int (nw B p B.length))])) := by
    refine ⟨by rw [upd_ne _ R1.nrd]; exact R1.i, by rw [upd_same, hu]; rfl, by rw [upd_ne _ (Ne.symm hd1)]; exact hrow, ?_, hl2, by rw [hu]; first | lia | omega, wfb2 hpR R.w⟩
    rw [← row2 R.w] at hl2 ⊢
    exact shp_rowOf (by rw [hl2]; decide)
  walk_at "st"
  simp only [RR.fil]
  refine RQ.here (hQ r p _ _ hpR RR (fun a o ha e => ?_) (KZ.upd x1.z R1.d))
  rw [upd_ne _ ha]; exact x1.le _ _ e
noncomputable def PushMSpec (cx : Cx) (C : Addr) (n : Nat) (g : Addr) : Prop := ∀ (rm dx ra : Addr) (B : Bx) (xs : List Int) (H : HP) (Q : V → HP → Prop), RoomAt C rm dx ra B xs H →
  (∀ r p xs' H', (∀ k, p k = true ↔ Reach B k) → RoomAt C rm dx r (box2 B p B.length) xs' H' → But dx H H' → KZ cx H H' → Q (.int ((pl B B.length : Int) - (pl (box2 B p B.length) (box2 B p B.length).length : Int))) H') → CallP cx n g [.ref rm] H Q

theorem init_ms {f_is_whole f_head_word : Addr} {d : Nat} (hw : WholeSp cx n f_is_whole) (h1 : ∀ (p : Int) (b : Bool) (H : HP) (Q : V → HP → Prop), Q (.int (4 * p + 2 * (if b then 1 else 0))) H → CallP cx n f_head_word [.int p, .bool b] H Q)
    (hi : H rm = some (.inst C dx)) (hdx : H dx = some (.flds [])) (hd : d ≤ 20)
    (hQ : ∀ ra xs H', RoomAt C rm dx ra [List.replicate d (false, 0)] xs H' → KZ cx H H' → Q .none H') :
    mwpSs cx n (m_Room_init f_is_whole C f_head_word) [.ref rm, .int 400, .int d] H (NQ Q) (RQ Q) := by
  have h1' : ∀ (p : Int) (H : HP) (Q : V → HP → Prop), Q (.int (4 * p)) H → CallP cx n f_head_word [.int p, .bool false] H Q := fun p H Q h => h1 p false H Q (by simpa using h)
  have nrd : rm ≠ dx := fun e => by rw [e, hdx] at hi; cases hi
  refine S_cons ?_
  walk_at "st"
  refine hw _ _ _ ?_
  walk_at "st"
  refine hw _ _ _ ?_
  walk_at "st"
  refine S_nil (S_cons ?_)
  walk_at "st"
  rw [show decide ((0 : Int) ≤ (d : Int)) = true from decide_eq_true (by first | lia | omega), show decide ((d : Int) ≤ 20) = true from decide_eq_true (by first | lia | omega), show decide ((400 : Int) < (d : Int) + 1) = false from decide_eq_false (by first | lia | omega), show decide ((1 : Int) ≤ 400) = true from rfl, show decide ((400 : Int) ≤ 400) = true from rfl]
  walk_at "st"
  refine S_nil (S_cons ?_)
  walk_at "st"
  refine h1' _ _ _ ⟨by simp, fun r1 hr1 => ⟨by simp, fun r2 hr2 => ?_⟩⟩
  have n12 : r1 ≠ r2 := hr2.ne lk_same
  walk_at "st"
  simp only [lk_same, List.length_singleton, show ((400 : Int) - 1).toNat = 399 from rfl, rep_zero]
  refine ⟨by decide, by decide, by decide, fun r3 hr3 => ?_⟩
  have n13 : r1 ≠ r3 := hr3.ne (lk_fresh hr2 lk_same)
  simp only [lk_ne n13, lk_ne n12, lk_same, List.length_singleton, ints_length, List.length_replicate]
  refine ⟨by decide, fun r4 hr4 => ?_⟩
  have x4 := (((Ext.new hr1 (.list [V.int (4 * (d : Int))])).new' hr2 (.list [V.int 0])).new' hr3 (.list (intsV (List.replicate 399 0)))).new' hr4 (.list ([V.int (4 * (d : Int))] ++ intsV (List.replicate 399 0)))
  have hd4 : dx ≠ r4 := hr4.ne' ((((Ext.new hr1 (.list [V.int (4 * (d : Int))])).new' hr2 (.list [V.int 0])).new' hr3 (.list (intsV (List.replicate 399 0)))).le _ _ hdx)
  have e4 : (upd (upd (upd (upd H r1 (.list [V.int (4 * (d : Int))])) r2 (.list [V.int 0])) r3 (.list (intsV (List.replicate 399 0)))) r4 (.list ([V.int (4 * (d : Int))] ++ intsV (List.replicate 399 0)))) r4 = some (.list (intsV (4 * (d : Int) :: List.replicate 399 0))) := by
    rw [upd_same]; rfl
  generalize upd (upd (upd (upd H r1 (.list [V.int (4 * (d : Int))])) r2 (.list [V.int 0])) r3 (.list (intsV (List.replicate 399 0)))) r4 (.list ([V.int (4 * (d : Int))] ++ intsV (List.replicate 399 0))) = H4 at x4 e4
  have a1 : setAttrP C (.ref rm) (Str.ofString "row") (.ref r4) H4 (fun H => mwpSs cx n (.cons (.setAttr C 0 (Str.ofString "filled") (.bin .Add (.loc 2) (.cint (1)))) .nil) [.ref rm, .int 400, .int d] H (NQ Q) (RQ Q)) := by
    simp only [setAttrP, onR, x4.le _ _ hi, onIn, x4.le _ _ hdx, onFl, true_and]
    refine ⟨by simp [putF], S_cons ?_⟩
    walk_at "st"
    simp only [setAttrP, onR, upd_ne _ nrd, x4.le _ _ hi, onIn, upd_same, onFl, true_and, upd_upd]
    refine ⟨by simp [putF], S_nil ⟨_, LE.refl _, hQ r4 _ _ ⟨?_, ?_, ?_, shp_room d 399 (by decide) (by first | lia | omega), ?_, ?_, wfb_room d⟩ (KZ.upd x4.z (x4.le _ _ hdx))⟩⟩
    · rw [upd_ne _ nrd]; exact x4.le _ _ hi
    · rw [upd_same]; simp only [List.length_singleton, pl_room]; rfl
    · rw [upd_ne _ (Ne.symm hd4)]; exact e4
    · rw [List.length_cons, List.length_replicate]
    · simp only [List.length_singleton, pl_room]; first | lia | omega
  exact a1
noncomputable def InitSpec (cx : Cx) (C : Addr) (n : Nat) (g : Addr) : Prop := ∀ (rm dx : Addr) (d : Nat) (H : HP) (Q : V → HP → Prop), H rm = some (.inst C dx) → H dx = some (.flds []) → d ≤ 20 →
  (∀ ra xs H', RoomAt C rm dx ra [List.replicate d (false, 0)] xs H' → KZ cx H H' → Q .none H') → CallP cx n g [.ref rm, .int 400, .int d] H Q
end
end Mine
end

section
namespace Mine
open PySem PyProof.Rows
section
variable {cx : Cx} {C rm dx ra : Addr} {B : Bx} {xs : List Int} {H H' H1 : HP} {n : Nat} {a r : Addr} {o o' : O} {Q : V → HP → Prop}
noncomputable def m_law_thing (f_law_number : Addr) : MSs :=
  (.cons (.ite (.cmp (.bin .Mod (.loc 0) (.cint (3))) .Eq (.cint (0))) (.cons (.ret (.tup (.cons (.cstr (Str.ofString "number")) (.cons (.callf f_law_number (.cons (.bin .FloorDiv (.loc 0) (.cint (3))) .nil)) .nil))))
    .nil) .nil)
  (.cons (.ret (.tup (.cons (.cstr (Str.ofString "box")) (.cons (.sub (.loc 1) (.bin .Mod (.bin .FloorDiv (.loc 0) (.cint (3))) (.callb .len (.cons (.loc 1) .nil)))) .nil))))
  .nil))
noncomputable def m_law_deed (c_Room f_Room_places f_Room_made f_law_thing f_Room_told f_Room_put : Addr) : MSs :=
  (.cons (.assign 3 (.callm c_Room (Str.ofString "places") f_Room_places 0 .nil))
  (.cons (.ite (.cmp (.bin .Mod (.loc 1) (.cint (8))) .Lt (.cint (4))) (.cons (.expr (.callm c_Room (Str.ofString "made") f_Room_made 0 (.cons (.compR (.callf f_law_thing (.cons (.bin .Mod (.bin .Mult (.bin .Add (.loc 2) (.bin .Mult (.cint (977)) (.loc 6))) (.cint (16807))) (.cint (999979))) (.cons (.loc 3) .nil))) (.cint (0)) (.bin .Mod (.loc 2) (.cint (5))) (.cbool true)) .nil)))
    (.cons .retN
    .nil)) .nil)
  (.cons (.assign 4 (.sub (.loc 3) (.bin .Mod (.loc 2) (.callb .len (.cons (.loc 3) .nil)))))
  (.cons (.ite (.cmp (.bin .Mod (.bin .FloorDiv (.loc 2) (.cint (7))) (.cint (3))) .Eq (.cint (0))) (.cons (.assign 4 (.cint (0)))
    .nil) .nil)
  (.cons (.assign 5 (.callb .len (.cons (.callm c_Room (Str.ofString "told") f_Room_told 0 (.cons (.loc 4) .nil)) .nil)))
  (.cons (.ite (.cmp (.loc 5) .Gt (.cint (0))) (.cons (.expr (.callm c_Room (Str.ofString "put") f_Room_put 0 (.cons (.loc 4) (.cons (.bin .Mod (.bin .FloorDiv (.loc 2) (.cint (21))) (.loc 5)) (.cons (.callf f_law_thing (.cons (.bin .Mod (.bin .Mult (.bin .FloorDiv (.loc 2) (.cint (500))) (.cint (16807))) (.cint (999979))) (.cons (.loc 3) .nil))) .nil)))))
    .nil) .nil)
  .nil))))))
theorem pick_pl {i : Int} (hB : 0 < B.length) : ∃ k, k < B.length ∧ 0 ≤ i.fmod (B.length : Int) ∧ (natsV ((List.range B.length).map (pl B)))[(i.fmod (B.length : Int)).toNat]? = some (.int (pl B k)) := by
  obtain ⟨b1, b2⟩ := fmod_pos_bounds i (b := (B.length : Int)) (by first | lia | omega)
  refine ⟨(i.fmod (B.length : Int)).toNat, by first | lia | omega, b1, ?_⟩
  rw [natsV_get?, List.getElem?_map, List.getElem?_range (by first | lia | omega)]; rfl
theorem lbits {v : Int} (h1 : 0 ≤ v) (h2 : v < 1000000) : Builtin.Int.intBits v ≤ 3000000 := bits_of (k := 20) (by omega) (by decide)
theorem thing_ms {f_law_number pa : Addr} {seed : Int} (hn : NumSpec cx n f_law_number) (hp : lk cx H pa = some (.list (natsV ((List.range B.length).map (pl B))))) (hB : 0 < B.length) (hB2 : B.length ≤ 1000) (h0 : 0 ≤ seed) (h1 : seed < 1000000)
    (hQ : ∀ t tb H', OkT B t → Ext cx H H' → H' tb = some (.tup (thV (plt B t))) → Q (.ref tb) H') :
    mwpSs cx n (m_law_thing f_law_number) [.int seed, .ref pa] H (NQ Q) (RQ Q) := by
  refine S_cons ?_
  walk_at "st"
  refine ⟨by decide, fun _ => S_cons ?_, fun _ => S_nil (S_cons ?_)⟩
  · walk_at "st"
    refine ⟨by decide, hn _ _ _ (intBits_fdiv_le (lbits h0 h1)) fun v _ => ⟨by simp, fun tb htb => RQ.here (hQ (false, v) tb _ (fun q => by cases q) (Ext.new htb _) (upd_same _ _ _))⟩⟩
  · walk_at "st"
    simp only [hp, natsV_length, List.length_map, List.length_range]
    obtain ⟨k, hk, b1, e⟩ := pick_pl (i := seed.fdiv 3) hB
    refine ⟨by decide, by first | lia | omega, by first | lia | omega, b1, by first | lia | omega, ?_⟩
    rw [e]
    refine ⟨by simp, fun tb htb => RQ.here (hQ (true, (k : Int)) tb _ (fun _ => ⟨k, rfl, hk⟩) (Ext.new htb _) ?_)⟩
    rw [upd_same]; rfl
noncomputable def ThingSpec (cx : Cx) (n : Nat) (f : Addr) : Prop := ∀ (pa : Addr) (B : Bx) (seed : Int) (H : HP) (Q : V → HP → Prop), lk cx H pa = some (.list (natsV ((List.range B.length).map (pl B)))) → 0 < B.length → B.length ≤ 1000 → 0 ≤ seed → seed < 1000000 →
  (∀ t tb H', OkT B t → Ext cx H H' → H' tb = some (.tup (thV (plt B t))) → Q (.ref tb) H') → CallP cx n f [.int seed, .ref pa] H Q

theorem deed_ms {f_Room_places f_Room_made f_law_thing f_Room_told f_Room_put : Addr} {cell seed : Int} (hp : PlSpec cx C n f_Room_places) (hmd : MadeSpec cx C n f_Room_made) (hth : ThingSpec cx n f_law_thing) (htd : ToldSpec cx C n f_Room_told) (hpt : PutSpec cx C n f_Room_put)
    (R : RoomAt C rm dx ra B xs H) (hle : pl B B.length + 5 ≤ 400) (h0 : 0 ≤ seed) (h1 : seed < 1000000)
    (hQ : ∀ v ra' B' xs' H', RoomAt C rm dx ra' B' xs' H' → pl B' B'.length ≤ pl B B.length + 5 → KZ cx H H' → Q v H') :
    mwpSs cx n (m_law_deed C f_Room_places f_Room_made f_law_thing f_Room_told f_Room_put) [.ref rm, .int cell, .int seed, .unb, .unb, .unb] H (NQ Q) (RQ Q) := by
  have hBl := len_le_pl B (Nat.le_refl _)
  have hpos := R.w.pos
  refine S_cons ?_
  walk_at "st"
  refine ⟨R.no fun _ _ => rfl, hp _ _ _ _ _ _ _ R fun pa H1 x1 _ hpa => S_cons ?_⟩
  have R1 := R.ext x1.le
  walk_at "st"
  refine ⟨by decide, fun _ => S_cons ?_, fun _ => S_nil (S_cons ?_)⟩
  · walk_at "st"
    obtain ⟨b1, b2⟩ := fmod_pos_bounds seed (b := 5) (by decide)
    refine ⟨R1.no fun _ _ => rfl, by decide, ⟨by decide, by decide⟩, ⟨by first | lia | omega, by first | lia | omega⟩, by simp [intsV, rangeL]; first | lia | omega, fun done acc H' => ∃ ts, All2 (ThAt cx H') acc (ts.map (plt B)) ∧ (∀ t ∈ ts, OkT B t) ∧ ts.length = done.length ∧ Ext cx H1 H', ⟨[], All2.nil, by simp, rfl, Ext.refl _ _⟩, fun _ _ _ _ => trivial, ?_, ?_⟩
    · rintro done x rest acc H2 e ⟨ts, ha, hok, hl, x2⟩
      have hx : (intsV (rangeL 0 (seed.fmod 5)))[done.length]? = some x := by rw [e]; simp
      rw [ints_get?] at hx
      obtain ⟨y, hy, rfl⟩ := Option.map_eq_some_iff.mp hx
      walk_at "st"
      refine ⟨mulOk_l (by decide), mulOk_r (by decide), by decide, ?_⟩
      obtain ⟨c1, c2⟩ := fmod_pos_bounds ((seed + 977 * y) * 16807) (b := 999979) (by decide)
      refine hth _ B _ _ _ (x2.lk (lk_of hpa)) hpos (by first | lia | omega) c1 (by first | lia | omega) fun t tb H3 ht x3 htb => ⟨_, LE.refl _, ts ++ [t], ?_, ?_, by simp [hl], x2.trans x3⟩
      · rw [List.map_append]
        exact (ha.imp fun _ _ q => q.ext x3).snoc ⟨tb, rfl, lk_of htb⟩
      · intro u hu
        rcases List.mem_append.mp hu with q | q
        · exact hok u q
        · rw [List.mem_singleton] at q; rw [q]; exact ht
    · rintro acc H2 ⟨ts, ha, hok, hl, x2⟩ la hla
      have hl5 : ts.length ≤ 4 := by rw [hl]; simp [intsV, rangeL]; first | lia | omega
      have x3 := Ext.new hla (.list acc)
      refine hmd _ _ _ _ _ _ _ ts _ _ (R1.ext (x2.trans x3).le) lk_same (ha.imp fun _ _ q => q.ext x3) hok (by first | lia | omega) fun v ra' xs' H' RR kz => S_cons ?_
      walk_at "st"
      exact RQ.here (hQ _ _ _ _ _ RR (by rw [pl_app_len]; first | lia | omega) (KZ.trans ((x1.trans x2).trans x3).z kz))
  · walk_at "st"
    simp only [lk_of hpa, natsV_length, List.length_map, List.length_range]
    obtain ⟨k, hk, b1, e⟩ := pick_pl (i := seed) hpos
    refine ⟨by first | lia | omega, by first | lia | omega, b1, by first | lia | omega, ?_⟩
    rw [e]
    refine S_cut (fun μ H' => ∃ k, k < B.length ∧ μ = [.ref rm, .int cell, .int seed, .ref pa, .int (pl B k), .unb] ∧ H' = H1) ?_ ?_
    · walk_at "st"
      refine ⟨by decide, by decide, fun _ => S_cons ?_, fun _ => S_nil ⟨k, hk, rfl, rfl⟩⟩
      walk_at "st"
      exact S_nil ⟨0, hpos, by rw [pl_zero]; rfl, rfl⟩
    rintro μ' H' ⟨k, hk, rfl, rfl⟩
    have hBk : B[k]? = some B[k] := List.getElem?_eq_getElem hk
    have hfl := fld_le_pl hBk
    refine S_cons ?_
    walk_at "st"
    refine ⟨R1.no fun _ _ => rfl, htd _ _ _ _ _ _ _ _ _ R1 hBk fun r vs H2 x2 _ hr ha => ?_⟩
    have hvl := ha.1
    rw [List.length_map] at hvl
    walk_at "st"
    simp only [lk_of hr, hvl]
    refine ⟨by first | lia | omega, S_cons ?_⟩
    walk_at "st"
    have R2 := R1.ext x2.le
    refine ⟨fun q => S_cons ?_, fun _ => S_nil (S_nil ⟨_, LE.refl _, hQ _ _ _ _ _ R2 (by first | lia | omega) (x1.trans x2).z⟩)⟩
    rw [decide_eq_true_iff] at q
    have hq : 0 < B[k].length := by first | lia | omega
    walk_at "st"
    obtain ⟨c1, c2⟩ := fmod_pos_bounds (seed.fdiv 21) (b := (B[k].length : Int)) (by first | lia | omega)
    obtain ⟨d1, d2⟩ := fmod_pos_bounds (seed.fdiv 500 * 16807) (b := 999979) (by decide)
    refine ⟨R2.no fun _ _ => rfl, by decide, by first | lia | omega, by decide, mulOk_r (by decide), by decide, hth _ B _ _ _ (x2.lk (lk_of hpa)) hpos (by first | lia | omega) d1 (by first | lia | omega) fun t tb H3 ht x3 htb => ?_⟩
    rw [show (seed.fdiv 21).fmod (B[k].length : Int) = (((seed.fdiv 21).fmod (B[k].length : Int)).toNat : Int) from by first | lia | omega]
    refine hpt _ _ _ _ _ _ _ _ _ _ _ _ (R2.ext x3.le) hBk (by first | lia | omega) (lk_of htb) ht fun xs' H4 RR kz => S_nil (S_nil ⟨_, LE.refl _, hQ _ _ _ _ _ RR (by rw [pl_set_len hBk (by simp)]; first | lia | omega) (KZ.trans ((x1.trans x2).trans x3).z kz)⟩)
noncomputable def DeedSpec (cx : Cx) (C : Addr) (n : Nat) (f : Addr) : Prop := ∀ (rm dx ra : Addr) (B : Bx) (xs : List Int) (cell seed : Int) (H : HP) (Q : V → HP → Prop), RoomAt C rm dx ra B xs H → pl B B.length + 5 ≤ 400 → 0 ≤ seed → seed < 1000000 →
  (∀ v ra' B' xs' H', RoomAt C rm dx ra' B' xs' H' → pl B' B'.length ≤ pl B B.length + 5 → KZ cx H H' → Q v H') → CallP cx n f [.ref rm, .int cell, .int seed] H Q
end
end Mine
end

section
namespace Mine
open PySem PyProof.Rows

noncomputable def ent (B : Bx) (k : Nat) : Nat × List Th := (pl B k, B.getD k [])
noncomputable def widx (B : Bx) : Nat → List Int → List Nat
  | _, [] => []
  | k, q :: qs => k :: widx B (step B k q) qs
theorem widx_snoc (B : Bx) (q : Int) : ∀ (qs : List Int) (k : Nat), widx B k (qs ++ [q]) = widx B k qs ++ [walkTo B k qs]
  | [], _ => rfl
  | r :: qs, k => by
    show k :: widx B (step B k r) (qs ++ [q]) = _
    rw [widx_snoc B q qs]; rfl
theorem widx_reach {B : Bx} (w : WFB B) : ∀ (qs : List Int) {k : Nat}, Reach B k → ∀ i ∈ widx B k qs, Reach B i
  | [], _, _, i, hi => by cases hi
  | q :: qs, k, h, i, hi => by
    rcases List.mem_cons.mp hi with rfl | hi
    · exact h
    · exact widx_reach w qs (step_reach w h q) i hi
theorem widx_ren {B : Bx} {p : Nat → Bool} (hp : ∀ k, p k = true ↔ Reach B k) (w : WFB B) : ∀ (qs : List Int) {k : Nat}, Reach B k → widx (box2 B p B.length) (nidx p k) qs = (widx B k qs).map (nidx p)
  | [], _, _ => rfl
  | q :: qs, k, h => by
    rw [widx, step_ren hp w h, widx_ren hp w qs (step_reach w h q)]; rfl
structure SameH (w1 w2 : List (Nat × List Th)) : Prop where
  len : w1.length = w2.length
  nm : ∀ {i : Nat} {e1 e2 : Nat × List Th}, w1[i]? = some e1 → w2[i]? = some e2 → e1.2.map ths = e2.2.map ths ∧ e1.2.map numT = e2.2.map numT
  od : ∀ {i j : Nat} {a1 a2 b1 b2 : Nat × List Th}, w1[i]? = some a1 → w1[j]? = some a2 → w2[i]? = some b1 → w2[j]? = some b2 → (a1.1 < a2.1 ↔ b1.1 < b2.1)
theorem ths_ren (p : Nat → Bool) (t : Th) : ths (ren p t) = ths t := by
  have := isB_ren (p := p) t
  unfold isB at this
  unfold ths; rw [this]
theorem same_of {B : Bx} {p : Nat → Bool} (hp : ∀ k, p k = true ↔ Reach B k) (w : WFB B) (qs : List Int) : SameH ((widx B 0 qs).map (ent B)) ((widx (box2 B p B.length) 0 qs).map (ent (box2 B p B.length))) := by
  have e0 := widx_ren hp w qs Reach.zero
  rw [nidx_zero] at e0
  have hr := widx_reach w qs Reach.zero
  rw [e0]
  generalize widx B 0 qs = l at hr
  have g1 : ∀ {i : Nat} {e1}, (l.map (ent B))[i]? = some e1 → ∃ k, l[i]? = some k ∧ Reach B k ∧ ent B k = e1 := by
    intro i e1 h
    rw [List.getElem?_map] at h
    obtain ⟨k, hk, e⟩ := Option.map_eq_some_iff.mp h
    exact ⟨k, hk, hr k (List.mem_of_getElem? hk), e⟩
  have g2 : ∀ {i k : Nat} {e2}, l[i]? = some k → ((l.map (nidx p)).map (ent (box2 B p B.length)))[i]? = some e2 → ent (box2 B p B.length) (nidx p k) = e2 := by
    intro i k e2 hk h
    rw [List.getElem?_map, List.getElem?_map, hk] at h
    exact Option.some.inj h
  refine ⟨by simp, fun {i e1 e2} h1 h2 => ?_, fun {i j a1 a2 b1 b2} h1 h2 h3 h4 => ?_⟩
  · obtain ⟨k, hk, rk, rfl⟩ := g1 h1
    have := g2 hk h2
    subst this
    have hb := box2_get (B := B) (rk.lt w) ((hp k).mpr rk)
    simp only [ent, getD_of hb, List.map_map]
    refine ⟨List.map_congr_left fun t _ => ?_, List.map_congr_left fun t _ => ?_⟩
    · exact (ths_ren p t).symm
    · exact (numT_ren t).symm
  · obtain ⟨k, hk, rk, rfl⟩ := g1 h1
    obtain ⟨m, hm, rm, rfl⟩ := g1 h2
    have e3 := g2 hk h3
    have e4 := g2 hm h4
    subst e3; subst e4
    exact ord_iff hp w rk rm
theorem mapM_of {α β γ : Type} (g : β → Option γ) (h : α → β) (k : α → γ) (e : ∀ a, g (h a) = some (k a)) : ∀ l : List α, (l.map h).mapM g = some (l.map k)
  | [] => rfl
  | a :: l => by rw [List.map_cons, List.mapM_cons, e, mapM_of g h k e l]; rfl
theorem eqv_strs : ∀ l : List Str, PyData.eqvAll (l.map .str) (l.map .str) = true
  | [] => rfl
  | a :: l => by rw [List.map_cons, PyData.eqvAll, eqv_strs l]; simp [PyData.eqv]
theorem eqv_ints : ∀ l : List Int, PyData.eqvAll (l.map .int) (l.map .int) = true
  | [] => rfl
  | a :: l => by rw [List.map_cons, PyData.eqvAll, eqv_ints l]; simp [PyData.eqv]
theorem ths_ok (t : Th) : rdS (ths t) = some (.str (ths t)) := by
  obtain ⟨b, v⟩ := t
  cases b
  · exact if_pos (show PyData.strOk (Str.ofString "number") = true by decide +kernel)
  · exact if_pos (show PyData.strOk (Str.ofString "box") = true by decide +kernel)
section
variable {cx : Cx} {C rm dx ra : Addr} {B : Bx} {xs : List Int} {H H' H1 : HP} {n : Nat} {a b r : Addr} {o o' : O} {Q : V → HP → Prop}
noncomputable def m_law_same : MSs :=
  (.cons (.ite (.cmp (.callb .len (.cons (.loc 0) .nil)) .NotEq (.callb .len (.cons (.loc 1) .nil))) (.cons (.ret (.cbool false))
    .nil) .nil)
  (.cons (.forR 2 (.cint (0)) (.callb .len (.cons (.loc 0) .nil)) (.cons (.ite (.cmp (.slice (.sub (.loc 0) (.loc 2)) (.cint (1)) .cnone) .NotEq (.slice (.sub (.loc 1) (.loc 2)) (.cint (1)) .cnone)) (.cons (.ret (.cbool false))
      .nil) .nil)
    (.cons (.forR 3 (.cint (0)) (.loc 2) (.cons (.ite (.cmp (.cmp (.sub (.sub (.loc 0) (.loc 3)) (.cint (0))) .Lt (.sub (.sub (.loc 0) (.loc 2)) (.cint (0)))) .NotEq (.cmp (.sub (.sub (.loc 1) (.loc 3)) (.cint (0))) .Lt (.sub (.sub (.loc 1) (.loc 2)) (.cint (0))))) (.cons (.ret (.cbool false))
        .nil) .nil)
      (.cons (.ite (.cmp (.cmp (.sub (.sub (.loc 0) (.loc 3)) (.cint (0))) .Eq (.sub (.sub (.loc 0) (.loc 2)) (.cint (0)))) .NotEq (.cmp (.sub (.sub (.loc 1) (.loc 3)) (.cint (0))) .Eq (.sub (.sub (.loc 1) (.loc 2)) (.cint (0))))) (.cons (.ret (.cbool false))
        .nil) .nil)
      .nil)))
    .nil)))
  (.cons (.ret (.cbool true))
  .nil)))
noncomputable def m_law_walked (c_Room f_Room_told : Addr) : MSs :=
  (.cons (.assign 2 (.cint (0)))
  (.cons (.assign 3 (.list .nil))
  (.cons (.for_ 4 (.loc 1) (.cons (.assign 5 (.callm c_Room (Str.ofString "told") f_Room_told 0 (.cons (.loc 2) .nil)))
    (.cons (.assign 6 (.comp (.ife (.cmp (.sub (.loc 7) (.cint (0))) .Eq (.cstr (Str.ofString "box"))) (.neg (.cint (1))) (.sub (.loc 7) (.cint (1)))) (.loc 5) (.cbool true)))
    (.cons (.expr (.meth (.loc 3) .append (.cons (.tup (.cons (.loc 2) (.cons (.comp (.sub (.loc 7) (.cint (0))) (.loc 5) (.cbool true)) (.cons (.loc 6) .nil)))) .nil)))
    (.cons (.assign 2 (.cint (0)))
    (.cons (.ite (.bop .And (.cons (.cmp (.callb .len (.cons (.loc 5) .nil)) .Gt (.cint (0))) (.cons (.cmp (.sub (.sub (.loc 5) (.bin .Mod (.loc 4) (.callb .len (.cons (.loc 5) .nil)))) (.cint (0))) .Eq (.cstr (Str.ofString "box"))) .nil))) (.cons (.assign 2 (.sub (.sub (.loc 5) (.bin .Mod (.loc 4) (.callb .len (.cons (.loc 5) .nil)))) (.cint (1))))
      .nil) .nil)
    .nil))))))
  (.cons (.ret (.loc 3))
  .nil))))
theorem rdV_list {m : Nat} {vs : List V} (h : lk cx H a = some (.list vs)) : rdV cx H (m + 1) (.ref a) = (vs.mapM (rdV cx H m)).map .list := by
  show (match lk cx H a with | some (.list vs) => (vs.mapM (rdV cx H m)).map PyData.list | some (.tup vs) => (vs.mapM (rdV cx H m)).map PyData.tuple | _ => none) = _
  rw [h]
theorem rdV_tup {m : Nat} {vs : List V} (h : lk cx H a = some (.tup vs)) : rdV cx H (m + 1) (.ref a) = (vs.mapM (rdV cx H m)).map .tuple := by
  show (match lk cx H a with | some (.list vs) => (vs.mapM (rdV cx H m)).map PyData.list | some (.tup vs) => (vs.mapM (rdV cx H m)).map PyData.tuple | _ => none) = _
  rw [h]
theorem rd_names {l : List Th} (h : lk cx H a = some (.list (l.map fun t => V.str (ths t)))) : rdV cx H 1 (.ref a) = some (.list ((l.map ths).map .str)) := by
  rw [rdV_list h, mapM_of (rdV cx H 0) (fun t => V.str (ths t)) (fun t => PyData.str (ths t)) (fun t => ths_ok t), List.map_map]; rfl
theorem rd_ints {m : Nat} {l : List Int} (h : lk cx H a = some (.list (intsV l))) : rdV cx H (m + 1) (.ref a) = some (.list (l.map .int)) := by
  rw [rdV_list h, intsV, mapM_of (rdV cx H m) V.int PyData.int (fun t => by cases m <;> rfl)]; rfl
theorem cmp_ints {l : List Int} (h1 : lk cx H a = some (.list (intsV l))) (h2 : lk cx H b = some (.list (intsV l))) : cmpP cx .Eq (.ref a) (.ref b) H = some true := by
  simp only [cmpP, rd_ints h1, rd_ints h2, Option.bind_some, eqNe]
  rw [PyData.eqv, eqv_ints]
theorem cmp_ents {l m : List Th} {na ma nb mb : Addr} (e1 : l.map ths = m.map ths) (e2 : l.map numT = m.map numT)
    (h1 : lk cx H a = some (.tup [.ref na, .ref ma])) (h2 : lk cx H b = some (.tup [.ref nb, .ref mb])) (h3 : lk cx H na = some (.list (l.map fun t => V.str (ths t)))) (h4 : lk cx H ma = some (.list (intsV (l.map numT))))
    (h5 : lk cx H nb = some (.list (m.map fun t => V.str (ths t)))) (h6 : lk cx H mb = some (.list (intsV (m.map numT)))) : cmpP cx .NotEq (.ref a) (.ref b) H = some false := by
  have g1 : rdV cx H 2 (.ref a) = some (.tuple [.list ((l.map ths).map .str), .list ((l.map numT).map .int)]) := by
    rw [rdV_tup h1, List.mapM_cons, List.mapM_cons, List.mapM_nil, rd_names h3, rd_ints h4]; rfl
  have g2 : rdV cx H 2 (.ref b) = some (.tuple [.list ((m.map ths).map .str), .list ((m.map numT).map .int)]) := by
    rw [rdV_tup h2, List.mapM_cons, List.mapM_cons, List.mapM_nil, rd_names h5, rd_ints h6]; rfl
  simp only [cmpP, g1, g2, Option.bind_some, eqNe, e1, e2]
  rw [PyData.eqv, PyData.eqvAll, PyData.eqv, eqv_strs, PyData.eqvAll, PyData.eqv, eqv_ints, PyData.eqvAll]; rfl
noncomputable def EntAt (cx : Cx) (r : Addr) (H : HP) (v : V) (e : Nat × List Th) : Prop := ∃ tb na ma, v = .ref tb ∧ lk cx H tb = some (.tup [.int e.1, .ref na, .ref ma]) ∧ lk cx H na = some (.list (e.2.map fun t => V.str (ths t))) ∧ lk cx H ma = some (.list (intsV (e.2.map numT))) ∧ na ≠ r ∧ ma ≠ r
theorem EntAt.ext (x : Ext cx H H') {v : V} {e : Nat × List Th} : EntAt cx r H v e → EntAt cx r H' v e := fun ⟨tb, na, ma, h1, h2, h3, h4, h5⟩ => ⟨tb, na, ma, h1, x.lk h2, x.lk h3, x.lk h4, h5⟩
theorem EntAt.set {vs ws : List V} {v : V} {e : Nat × List Th} (hr : H r = some (.list vs)) : EntAt cx r H v e → EntAt cx r (upd H r (.list ws)) v e := fun ⟨tb, na, ma, h1, h2, h3, h4, h5, h6⟩ =>
  ⟨tb, na, ma, h1, by rw [lk_ne (fun q => by subst q; rw [lk_of hr] at h2; cases h2)]; exact h2, by rw [lk_ne h5]; exact h3, by rw [lk_ne h6]; exact h4, h5, h6⟩
theorem But.lk (x : But dx H H') (z : KZ cx H H') (hne : a ≠ dx) (h : lk cx H a = some o) : Mine.lk cx H' a = some o := by
  unfold Mine.lk at h ⊢
  cases e : H a with
  | some o' => rw [e] at h; rw [x a o' hne e]; exact h
  | none =>
    rw [e] at h
    cases e2 : cx.Z a with
    | none => rw [e2] at h; cases h
    | some l => rw [e2] at h; rw [z a l e2 e]; exact h
theorem EntAt.but {fs : List (Str × V)} (x : But dx H H') (z : KZ cx H H') (hd : H dx = some (.flds fs)) {v : V} {e : Nat × List Th} : EntAt cx r H v e → EntAt cx r H' v e := fun ⟨tb, na, ma, h1, h2, h3, h4, h5⟩ =>
  ⟨tb, na, ma, h1, x.lk z (fun q => by subst q; rw [lk_of hd] at h2; cases h2) h2, x.lk z (fun q => by subst q; rw [lk_of hd] at h3; cases h3) h3, x.lk z (fun q => by subst q; rw [lk_of hd] at h4; cases h4) h4, h5⟩
theorem rng_item {m : Nat} {done rest : List V} {x : V} (e : intsV (rangeL 0 (m : Int)) = done ++ x :: rest) : x = .int (done.length : Int) ∧ done.length < m := by
  have hx : (intsV (rangeL 0 (m : Int)))[done.length]? = some x := by rw [e]; simp
  have hl : done.length < m := by
    have := congrArg List.length e
    simp [intsV, rangeL] at this; omega
  rw [ints_get?, rangeL, List.getElem?_map, List.getElem?_range (by omega)] at hx
  simp at hx
  exact ⟨hx.symm, hl⟩
theorem tri_0 (x y z : V) : ([x, y, z] : List V)[Int.toNat 0]? = some x := rfl
theorem tri_len (x y z : V) : ([x, y, z] : List V).length = 3 := rfl
theorem tri_drop (x y z : V) : ([x, y, z] : List V).drop (Int.toNat 1) = [y, z] := rfl

theorem lawsame_ms {aa ba r1 r2 : Addr} {es fs : List V} {w1 w2 : List (Nat × List Th)} (ha : lk cx H aa = some (.list es)) (hb : lk cx H ba = some (.list fs)) (hes : All2 (EntAt cx r1 H) es w1) (hfs : All2 (EntAt cx r2 H) fs w2) (S : SameH w1 w2) (hle : es.length ≤ 1000)
    (h : Q (.bool true) H) : mwpSs cx n m_law_same [.ref aa, .ref ba, .unb, .unb] H (NQ Q) (RQ Q) := by
  have hlen : fs.length = es.length := by rw [hes.1, hfs.1, S.len]
  refine S_cons ?_
  walk_at "st"
  simp only [ha, hb, hlen]
  walk_at "st"
  refine ⟨by first | lia | omega, by first | lia | omega, S_nil (S_cons ?_)⟩
  walk_at "st"
  simp only [ha]
  refine ⟨by first | lia | omega, ⟨by decide, by decide⟩, ⟨by first | lia | omega, by first | lia | omega⟩, fun _ μ H' => (∃ y z, μ = [.ref aa, .ref ba, y, z]) ∧ H' = H, ⟨⟨_, _, rfl⟩, rfl⟩, fun _ _ _ _ => trivial, ?_, ?_⟩
  · rintro done x rest μ H' e ⟨⟨y, z, rfl⟩, rfl⟩
    obtain ⟨rfl, hk⟩ := rng_item e
    generalize done.length = k at hk
    have hk1 : es[k]? = some es[k] := List.getElem?_eq_getElem hk
    have hk2 : fs[k]? = some fs[k] := List.getElem?_eq_getElem (by omega)
    obtain ⟨e1, hw1, t1, n1, m1, q1, p1, p2, p3, _, _⟩ := hes.get hk1
    obtain ⟨e2, hw2, t2, n2, m2, q2, p4, p5, p6, _, _⟩ := hfs.get hk2
    rw [q1] at hk1; rw [q2] at hk2
    refine S_cons ?_
    walk_at "st"
    simp only [ha, Int.toNat_natCast, hk1]
    walk_at "st"
    simp only [p1, tri_len, tri_drop]
    refine ⟨by first | lia | omega, by first | lia | omega, by decide, by decide, by decide, fun s1 hs1 => ?_⟩
    have x1 := Ext.new hs1 (.tup [.ref n1, .ref m1])
    simp only [x1.lk hb, hlen, hk2]
    walk_at "st"
    simp only [x1.lk p4, tri_len, tri_drop]
    refine ⟨by first | lia | omega, by first | lia | omega, by decide, by decide, by decide, fun s2 hs2 => ?_⟩
    have x2 := x1.new' hs2 (.tup [.ref n2, .ref m2])
    have hc := S.nm hw1 hw2
    simp only [cmp_ents hc.1 hc.2 (lk_fresh hs2 lk_same) lk_same (x2.lk p2) (x2.lk p3) (x2.lk p5) (x2.lk p6)]
    walk_at "st"
    refine S_nil ?_
    generalize upd (upd H' s1 (.tup [.ref n1, .ref m1])) s2 (.tup [.ref n2, .ref m2]) = H2 at x2
    refine S_cons ?_
    walk_at "st"
    refine ⟨⟨by decide, by decide⟩, ⟨by first | lia | omega, by first | lia | omega⟩, fun _ μ H' => (∃ z, μ = [.ref aa, .ref ba, .int (k : Int), z]) ∧ H' = H2, ⟨⟨_, rfl⟩, rfl⟩, fun _ _ _ _ => trivial, ?_, ?_⟩
    · rintro done x rest μ H3 e ⟨⟨z, rfl⟩, rfl⟩
      obtain ⟨rfl, hj⟩ := rng_item e
      generalize done.length = j at hj
      have hj1 : es[j]? = some es[j] := List.getElem?_eq_getElem (by omega)
      have hj2 : fs[j]? = some fs[j] := List.getElem?_eq_getElem (by omega)
      obtain ⟨e3, hw3, t3, n3, m3, q3, p7, _⟩ := hes.get hj1
      obtain ⟨e4, hw4, t4, n4, m4, q4, p8, _⟩ := hfs.get hj2
      rw [q3] at hj1; rw [q4] at hj2
      have o1 := S.od hw3 hw1 hw4 hw2
      have o2 := S.od hw1 hw3 hw2 hw4
      have d1 : decide ((e3.1 : Int) < (e1.1 : Int)) = decide ((e4.1 : Int) < (e2.1 : Int)) := by rw [decide_eq_decide]; omega
      have d2 : ((e3.1 : Int) == (e1.1 : Int)) = ((e4.1 : Int) == (e2.1 : Int)) := by
        rw [Bool.eq_iff_iff, beq_iff_eq, beq_iff_eq]; omega
      refine S_cons ?_
      walk_at "st"
      simp only [x2.lk ha, Int.toNat_natCast, hj1]
      refine ⟨by first | lia | omega, by first | lia | omega, ?_⟩
      walk_at "st"
      simp only [x2.lk p7, tri_len, tri_0]
      refine ⟨by decide, by decide, ?_⟩
      walk_at "st"
      simp only [x2.lk ha, Int.toNat_natCast, hk1]
      refine ⟨by first | lia | omega, by first | lia | omega, ?_⟩
      walk_at "st"
      simp only [x2.lk p1, tri_len, tri_0]
      refine ⟨by decide, by decide, ?_⟩
      walk_at "st"
      simp only [x2.lk hb, hlen, Int.toNat_natCast, hj2]
      refine ⟨by first | lia | omega, by first | lia | omega, ?_⟩
      walk_at "st"
      simp only [x2.lk p8, tri_len, tri_0]
      refine ⟨by decide, by decide, ?_⟩
      walk_at "st"
      simp only [x2.lk hb, hlen, Int.toNat_natCast, hk2]
      refine ⟨by first | lia | omega, by first | lia | omega, ?_⟩
      walk_at "st"
      simp only [x2.lk p4, tri_len, tri_0]
      refine ⟨by decide, by decide, ?_⟩
      walk_at "st"
      rw [d1]
      walk_at "st"
      refine S_nil (S_cons ?_)
      walk_at "st"
      simp only [x2.lk ha, Int.toNat_natCast, hj1]
      refine ⟨by first | lia | omega, by first | lia | omega, ?_⟩
      walk_at "st"
      simp only [x2.lk p7, tri_len, tri_0]
      refine ⟨by decide, by decide, ?_⟩
      walk_at "st"
      simp only [x2.lk ha, Int.toNat_natCast, hk1]
      refine ⟨by first | lia | omega, by first | lia | omega, ?_⟩
      walk_at "st"
      simp only [x2.lk p1, tri_len, tri_0]
      refine ⟨by decide, by decide, ?_⟩
      walk_at "st"
      simp only [x2.lk hb, hlen, Int.toNat_natCast, hj2]
      refine ⟨by first | lia | omega, by first | lia | omega, ?_⟩
      walk_at "st"
      simp only [x2.lk p8, tri_len, tri_0]
      refine ⟨by decide, by decide, ?_⟩
      walk_at "st"
      simp only [x2.lk hb, hlen, Int.toNat_natCast, hk2]
      refine ⟨by first | lia | omega, by first | lia | omega, ?_⟩
      walk_at "st"
      simp only [x2.lk p4, tri_len, tri_0]
      refine ⟨by decide, by decide, ?_⟩
      walk_at "st"
      rw [d2]
      walk_at "st"
      exact S_nil (S_nil ⟨_, LE.refl _, ⟨_, rfl⟩, rfl⟩)
    · rintro μ H3 ⟨⟨z, rfl⟩, rfl⟩
      exact S_nil ⟨_, x2.le, ⟨_, _, rfl⟩, rfl⟩
  · rintro μ H' ⟨⟨y, z, rfl⟩, rfl⟩
    refine S_cons ?_
    walk_at "st"
    exact RQ.here h
noncomputable def SameSpec (cx : Cx) (n : Nat) (f : Addr) : Prop := ∀ (aa ba r1 r2 : Addr) (es fs : List V) (w1 w2 : List (Nat × List Th)) (H : HP) (Q : V → HP → Prop), lk cx H aa = some (.list es) → lk cx H ba = some (.list fs) → All2 (EntAt cx r1 H) es w1 → All2 (EntAt cx r2 H) fs w2 → SameH w1 w2 → es.length ≤ 1000 → Q (.bool true) H → CallP cx n f [.ref aa, .ref ba] H Q
end
end Mine
end

section
namespace Mine
open PySem PyProof.Rows
section
variable {cx : Cx} {C rm dx ra : Addr} {B : Bx} {xs : List Int} {H H' H1 : HP} {n : Nat} {a b r : Addr} {o o' : O} {Q : V → HP → Prop}
theorem numT_of (B : Bx) (t : Th) : (if t.1 = true then -1 else (plt B t).2) = numT t := by
  unfold numT plt
  by_cases h : t.1 = true
  · simp [h]
  · simp [h]
theorem step_pl (B : Bx) {k : Nat} {f : List Th} {t : Th} {q : Int} (hk : B[k]? = some f) (ht : f[(q.fmod (f.length : Int)).toNat]? = some t) : (step B k q : Nat) = if t.1 = true then t.2.toNat else 0 := by
  unfold step
  rw [getD_of hk, ht]
  obtain ⟨b, v⟩ := t
  cases b <;> rfl
theorem step_none (B : Bx) {k : Nat} {q : Int} (hk : B[k]? = some []) : step B k q = 0 := by
  unfold step
  rw [getD_of hk]; rfl
theorem walked_ms {f_Room_told pa : Addr} {qs : List Int} (htd : ToldSpec cx C n f_Room_told) (R : RoomAt C rm dx ra B xs H) (hp : lk cx H pa = some (.list (intsV qs))) (hq : qs.length ≤ 1000)
    (hQ : ∀ r es H', Ext cx H H' → Fresh cx H r → H' r = some (.list es) → All2 (EntAt cx r H') es ((widx B 0 qs).map (ent B)) → es.length = qs.length → Q (.ref r) H') :
    mwpSs cx n (m_law_walked C f_Room_told) [.ref rm, .ref pa, .unb, .unb, .unb, .unb, .unb] H (NQ Q) (RQ Q) := by
  have hle := R.le
  refine S_cons ?_
  walk_at "st"
  refine S_cons ?_
  walk_at "st"
  refine ⟨by simp, fun r hr => S_cons ?_⟩
  walk_at "st"
  have x0 := Ext.new hr (.list [])
  simp only [x0.lk hp, ints_length]
  refine ⟨by first | lia | omega, fun done μ H' => ∃ z4 z5 z6 es, μ = [.ref rm, .ref pa, .int (pl B (walkTo B 0 (qs.take done.length))), .ref r, z4, z5, z6] ∧ Ext cx H H' ∧ H' r = some (.list es) ∧ All2 (EntAt cx r H') es ((widx B 0 (qs.take done.length)).map (ent B)) ∧ es.length = done.length, ?_, ?_, ?_, ?_⟩
  · exact ⟨.unb, .unb, .unb, [], by simp [walkTo, pl_zero], x0, upd_same _ _ _, by simpa [widx] using All2.nil, rfl⟩
  · rintro done μ H' ⟨_, _, _, _, _, x, _⟩; exact x.lk hp
  · rintro done x rest μ H1 e ⟨z4, z5, z6, es, rfl, x1, hr1, hes, hel⟩
    have hx : (intsV qs)[done.length]? = some x := by rw [e]; simp
    rw [ints_get?] at hx
    obtain ⟨q, hq1, rfl⟩ := Option.map_eq_some_iff.mp hx
    have hdl := (List.getElem?_eq_some_iff.mp hq1).1
    have htk : qs.take (done.length + 1) = qs.take done.length ++ [q] := by rw [List.take_succ, hq1]; rfl
    have hkr : Reach B (walkTo B 0 (qs.take done.length)) := walkTo_reach R.w _ Reach.zero
    have hkl := hkr.lt R.w
    generalize hkd : walkTo B 0 (qs.take done.length) = k at hkr hkl
    have hBk : B[k]? = some B[k] := List.getElem?_eq_getElem hkl
    have hfl := fld_le_pl hBk
    generalize hf : B[k] = f at hBk hfl
    have R1 := R.ext x1.le
    refine S_cons ?_
    walk_at "st"
    refine ⟨R1.no fun _ _ => rfl, htd _ _ _ _ _ _ _ _ _ R1 hBk fun r5 vs H2 x2 hr5 h5 ha => S_cons ?_⟩
    have hvl := ha.1
    rw [List.length_map] at hvl
    have thing : ∀ {i : Nat} {v : V}, vs[i]? = some v → ∃ t b, f[i]? = some t ∧ v = .ref b ∧ lk cx H2 b = some (.tup (thV (plt B t))) := by
      intro i v hv
      obtain ⟨t', ht', b, rfl, hb⟩ := ha.get hv
      rw [List.getElem?_map] at ht'
      obtain ⟨t, ht, rfl⟩ := Option.map_eq_some_iff.mp ht'
      exact ⟨t, b, ht, rfl, hb⟩
    have hr2 := x2.le _ _ hr1
    walk_at "st"
    simp only [lk_of h5]
    refine ⟨by first | lia | omega, by first | lia | omega, fun done acc H' => acc = intsV ((f.take done.length).map numT) ∧ H' = H2, ⟨rfl, rfl⟩, ?_, ?_, ?_⟩
    · rintro _ _ _ ⟨_, rfl⟩; exact lk_of h5
    · rintro done x rest acc H' e ⟨rfl, rfl⟩
      obtain ⟨t, b, ht, rfl, hb⟩ := thing (i := done.length) (v := x) (by rw [e]; simp)
      have fin : ∀ v : Int, v = numT t → ∃ H₃, LE H₃ H' ∧ intsV ((f.take done.length).map numT) ++ (some (V.int v)).toList = intsV ((f.take (done ++ [V.ref b]).length).map numT) ∧ H₃ = H' := by
        intro v hv
        refine ⟨_, LE.refl _, ?_, rfl⟩
        rw [List.length_append, List.length_singleton, List.take_succ, ht, List.map_append, hv]
        simp [intsV]
      walk_at "st"
      simp only [hb, thV_len, thV_0, thV_1]
      walk_at "st"
      rw [ths_b, plt_1]
      have hn := numT_of B t
      refine ⟨by decide, by decide, fun q => ?_, fun q => ⟨by decide, by decide, ?_⟩⟩
      · rw [if_pos q] at hn; exact fin _ hn
      · rw [if_neg (by simp [q])] at hn; exact fin _ hn
    rintro acc H' ⟨rfl, rfl⟩ r6 hr6
    rw [hvl, List.take_length]
    refine S_cons ?_
    have x3 := Ext.new hr6 (.list (intsV (f.map numT)))
    have e36 : (upd H' r6 (.list (intsV (f.map numT)))) r6 = some (.list (intsV (f.map numT))) := upd_same _ _ _
    have n6 : r6 ≠ r := fun q => hr6.ne' hr2 q.symm
    generalize upd H' r6 (.list (intsV (f.map numT))) = H3 at x3 e36
    have hr3 := x3.le _ _ hr2
    have h53 := x3.le _ _ h5
    walk_at "st"
    simp only [hr3, lk_of h53]
    refine ⟨trivial, by first | lia | omega, by first | lia | omega, fun done acc H' => acc = (f.take done.length).map (fun t => V.str (ths t)) ∧ H' = H3, ⟨rfl, rfl⟩, ?_, ?_, ?_⟩
    · rintro _ _ _ ⟨_, rfl⟩; exact lk_of h53
    · rintro done x rest acc H' e ⟨rfl, rfl⟩
      obtain ⟨t, b, ht, rfl, hb⟩ := thing (i := done.length) (v := x) (by rw [e]; simp)
      walk_at "st"
      simp only [x3.lk hb, thV_len, thV_0]
      refine ⟨by decide, by decide, _, LE.refl _, ?_, rfl⟩
      rw [List.length_append, List.length_singleton, List.take_succ, ht, List.map_append]
      simp [ths, plt_1]
    rintro acc H4 ⟨rfl, rfl⟩ r7 hr7
    rw [hvl, List.take_length]
    have n7 : r7 ≠ r := fun q => hr7.ne' hr3 q.symm
    walk_at "st"
    refine ⟨by simp, fun tb htb => ?_⟩
    have n8 : r ≠ tb := htb.ne' (by rw [upd_ne _ (Ne.symm n7)]; exact hr3)
    simp only [upd_ne _ n8, upd_ne _ (Ne.symm n7), hr3]
    have x4 := (Ext.new hr7 (.list (f.map (fun t => V.str (ths t))))).new' htb (.tup [.int (pl B k), .ref r7, .ref r6])
    have e47 := (Ext.new htb (.tup [.int (pl B k), .ref r7, .ref r6])).lk (lk_same (cx := cx) (H := H4) (r := r7) (o := .list (f.map (fun t => V.str (ths t)))))
    have e4t : lk cx (upd (upd H4 r7 (.list (f.map (fun t => V.str (ths t))))) tb (.tup [.int (pl B k), .ref r7, .ref r6])) tb = some (.tup [.int (pl B k), .ref r7, .ref r6]) := lk_same
    generalize upd (upd H4 r7 (.list (f.map (fun t => V.str (ths t))))) tb (.tup [.int (pl B k), .ref r7, .ref r6]) = H5 at x4 e47 e4t
    have hr5' := x4.le _ _ hr3
    have E5 : EntAt cx r H5 (.ref tb) (ent B k) := ⟨tb, r7, r6, rfl, e4t, by rw [ent, getD_of hBk]; exact e47, by rw [ent, getD_of hBk]; exact x4.lk (lk_of e36), n7, n6⟩
    have A5 : All2 (EntAt cx r (upd H5 r (.list (es ++ [.ref tb])))) (es ++ [.ref tb]) ((widx B 0 (qs.take (done.length + 1))).map (ent B)) := by
      rw [htk, widx_snoc, List.map_append, hkd]
      exact (hes.imp fun _ _ q => EntAt.set hr5' (q.ext (x2.trans (x3.trans x4)))).snoc (EntAt.set hr5' E5)
    have x5 : Ext cx H (upd H5 r (.list (es ++ [.ref tb]))) := (x1.trans (x2.trans (x3.trans x4))).upd hr.1 hr.2.2 _
    have e5r : (upd H5 r (.list (es ++ [.ref tb]))) r = some (.list (es ++ [.ref tb])) := upd_same _ _ _
    have n5 : r5 ≠ r := fun q => by subst q; rw [hr5.1] at hr1; cases hr1
    have e55 : lk cx (upd H5 r (.list (es ++ [.ref tb]))) r5 = some (.list vs) := by rw [lk_ne n5]; exact lk_of (x4.le _ _ h53)
    have thing5 : ∀ {b : Addr} {l : List V}, lk cx H' b = some (.tup l) → lk cx (upd H5 r (.list (es ++ [.ref tb]))) b = some (.tup l) := by
      intro b l h
      have := (x3.trans x4).lk h
      rw [lk_ne (fun q => by subst q; rw [lk_of hr5'] at this; cases this)]; exact this
    refine ⟨by first | lia | omega, S_cons ?_⟩
    generalize upd H5 r (.list (es ++ [.ref tb])) = H6 at A5 x5 e5r e55 thing5
    walk_at "st"
    have fin : ∀ v : Nat, v = step B k q → ∀ z5 z6, ∃ H₃, LE H₃ H6 ∧ ∃ z4' z5' z6' es', ([.ref rm, .ref pa, .int (pl B v), .ref r, .int q, z5, z6] : List V) = [.ref rm, .ref pa, .int (pl B (walkTo B 0 (qs.take (done ++ [V.int q]).length))), .ref r, z4', z5', z6'] ∧ Ext cx H H₃ ∧ H₃ r = some (.list es') ∧ All2 (EntAt cx r H₃) es' ((widx B 0 (qs.take (done ++ [V.int q]).length)).map (ent B)) ∧ es'.length = (done ++ [V.int q]).length := by
      intro v hv z5 z6
      refine ⟨_, LE.refl _, .int q, z5, z6, _, ?_, x5, e5r, by rw [List.length_append]; exact A5, by simp [hel]⟩
      rw [List.length_append, List.length_singleton, htk, walkTo_snoc, hkd, hv]
    refine S_cons ?_
    walk_at "st"
    simp only [e55, hvl]
    refine ⟨by first | lia | omega, ?_⟩
    by_cases hz : f.length = 0
    · rw [show decide ((0 : Int) < (f.length : Int)) = false from decide_eq_false (by first | lia | omega)]
      walk_at "st"
      have : f = [] := List.length_eq_zero_iff.mp hz
      subst this
      have := fin 0 (step_none B hBk).symm (.ref r5) (.ref r6)
      rw [pl_zero] at this
      exact S_nil (S_nil this)
    · rw [show decide ((0 : Int) < (f.length : Int)) = true from decide_eq_true (by first | lia | omega)]
      walk_at "st"
      obtain ⟨b1, b2⟩ := fmod_pos_bounds q (b := (f.length : Int)) (by first | lia | omega)
      have hi : vs[(q.fmod (f.length : Int)).toNat]? = some (vs[(q.fmod (f.length : Int)).toNat]'(by first | lia | omega)) := List.getElem?_eq_getElem _
      obtain ⟨t, b, ht, ev, hb⟩ := thing hi
      rw [ev] at hi
      have hst := step_pl B hBk ht
      simp only [hi]
      refine ⟨by first | lia | omega, by first | lia | omega, b1, by first | lia | omega, ?_⟩
      walk_at "st"
      simp only [thing5 hb, thV_len, thV_0]
      refine ⟨by decide, by decide, ?_⟩
      walk_at "st"
      rw [ths_b, plt_1]
      refine ⟨fun hq => S_cons ?_, fun hq => S_nil (S_nil ?_)⟩
      · walk_at "st"
        simp only [e55, hvl, hi]
        refine ⟨by first | lia | omega, by first | lia | omega, b1, by first | lia | omega, ?_⟩
        walk_at "st"
        simp only [thing5 hb, thV_len, thV_1]
        refine ⟨by decide, by decide, S_nil (S_nil ?_)⟩
        rw [if_pos hq] at hst
        have := fin _ hst.symm (.ref r5) (.ref r6)
        rw [show (plt B t).2 = (pl B t.2.toNat : Int) from by simp [plt, hq]]
        exact this
      · rw [if_neg (by simp [hq])] at hst
        have := fin 0 hst.symm (.ref r5) (.ref r6)
        rw [pl_zero] at this
        exact this
  · rintro μ H1 ⟨z4, z5, z6, es, rfl, x1, hr1, hes, hel⟩
    refine S_cons ?_
    walk_at "st"
    rw [ints_length] at hel hes
    rw [List.take_length] at hes
    exact RQ.here (hQ r es H1 x1 hr hr1 hes hel)
noncomputable def WalkedSpec (cx : Cx) (C : Addr) (n : Nat) (f : Addr) : Prop := ∀ (rm dx ra pa : Addr) (B : Bx) (xs qs : List Int) (H : HP) (Q : V → HP → Prop), RoomAt C rm dx ra B xs H → lk cx H pa = some (.list (intsV qs)) → qs.length ≤ 1000 →
  (∀ r es H', Ext cx H H' → Fresh cx H r → H' r = some (.list es) → All2 (EntAt cx r H') es ((widx B 0 qs).map (ent B)) → es.length = qs.length → Q (.ref r) H') → CallP cx n f [.ref rm, .ref pa] H Q
end
end Mine
end

section
namespace Mine
open PySem PyProof.Rows
section
variable {cx : Cx} {C rm dx ra : Addr} {B : Bx} {xs : List Int} {H H' H1 : HP} {n : Nat} {a b r : Addr} {o o' : O} {Q : V → HP → Prop}
noncomputable def m_law9 (c_Room f_Room_init f_law_at f_law_deed f_Room_come_to f_law_walked f_Room_used f_Room_pushed f_law_is_int f_law_same f_Room_places f_Room_cells : Addr) : MSs :=
  (.cons (.assign 1 (.mk c_Room f_Room_init (.cons (.cint (400)) (.cons (.bin .Mod (.callf f_law_at (.cons (.loc 0) (.cons (.cint (0)) .nil))) (.cint (21))) .nil))))
  (.cons (.forR 2 (.cint (1)) (.callb .min (.cons (.cint (31)) (.cons (.callb .len (.cons (.loc 0) .nil)) .nil))) (.cons (.expr (.callf f_law_deed (.cons (.loc 1) (.cons (.sub (.loc 0) (.loc 2)) (.cons (.bin .Mod (.bin .Add (.bin .Mult (.sub (.loc 0) (.loc 2)) (.cint (48271))) (.bin .Mult (.cint (7919)) (.loc 2))) (.cint (999983))) .nil)))))
    .nil))
  (.cons (.assign 3 (.compR (.bin .Mod (.bin .Add (.bin .Mult (.callf f_law_at (.cons (.loc 0) (.cons (.bin .Mod (.loc 8) (.cint (50))) .nil))) (.cint (69621))) (.bin .Mult (.cint (31)) (.loc 8))) (.cint (999979))) (.cint (0)) (.bin .Mod (.bin .FloorDiv (.callf f_law_at (.cons (.loc 0) (.cons (.cint (0)) .nil))) (.cint (21))) (.cint (41))) (.cbool true)))
  (.cons (.assign 4 (.callb .len (.cons (.callm c_Room (Str.ofString "come_to") f_Room_come_to 1 .nil) .nil)))
  (.cons (.assign 5 (.callf f_law_walked (.cons (.loc 1) (.cons (.loc 3) .nil))))
  (.cons (.assign 6 (.callm c_Room (Str.ofString "used") f_Room_used 1 .nil))
  (.cons (.assign 7 (.callm c_Room (Str.ofString "pushed") f_Room_pushed 1 .nil))
  (.cons (.ite (.bop .Or (.cons (.not (.callf f_law_is_int (.cons (.loc 7) .nil))) (.cons (.cmp (.loc 7) .Lt (.cint (0))) (.cons (.cmp (.bin .Sub (.loc 6) (.loc 7)) .NotEq (.callm c_Room (Str.ofString "used") f_Room_used 1 .nil)) .nil)))) (.cons (.ret (.cbool false))
    .nil) .nil)
  (.cons (.ite (.not (.callf f_law_same (.cons (.loc 5) (.cons (.callf f_law_walked (.cons (.loc 1) (.cons (.loc 3) .nil))) .nil)))) (.cons (.ret (.cbool false))
    .nil) .nil)
  (.cons (.ite (.cmp (.callb .len (.cons (.comp (.loc 8) (.callm c_Room (Str.ofString "places") f_Room_places 1 .nil) (.not (.cmp2 (.cint (0)) .LtE (.loc 8) .Lt (.callm c_Room (Str.ofString "used") f_Room_used 1 .nil)))) .nil)) .Gt (.cint (0))) (.cons (.ret (.cbool false))
    .nil) .nil)
  (.cons (.ret (.bop .And (.cons (.cmp (.callm c_Room (Str.ofString "places") f_Room_places 1 .nil) .Eq (.callm c_Room (Str.ofString "come_to") f_Room_come_to 1 .nil)) (.cons (.cmp (.callb .len (.cons (.callm c_Room (Str.ofString "places") f_Room_places 1 .nil) .nil)) .Eq (.loc 4)) (.cons (.cmp (.callb .len (.cons (.callm c_Room (Str.ofString "cells") f_Room_cells 1 .nil) .nil)) .Eq (.cint (400))) .nil)))))
  .nil)))))))))))
theorem rng1_item {m : Int} {done rest : List V} {x : V} (e : intsV (rangeL 1 m) = done ++ x :: rest) : x = .int (1 + (done.length : Int)) ∧ 1 + (done.length : Int) < m := by
  have hx : (intsV (rangeL 1 m))[done.length]? = some x := by rw [e]; simp
  have hl : done.length < (m - 1).toNat := by
    have := congrArg List.length e
    simp [intsV, rangeL] at this; omega
  rw [ints_get?, rangeL, List.getElem?_map, List.getElem?_range hl] at hx
  simp at hx
  exact ⟨hx.symm, by omega⟩
theorem rng1_len (m : Int) : (intsV (rangeL 1 m)).length = (m - 1).toNat := by simp [intsV, rangeL]
theorem law9_ms {f_Room_init f_law_at f_law_deed f_Room_come_to f_law_walked f_Room_used f_Room_pushed f_law_is_int f_law_same f_Room_places f_Room_cells sa : Addr} {ns : List Int} (hn : 0 < n) (hi : InitSpec cx C (n - 1) f_Room_init) (hat : AtSpec cx n f_law_at sa ns) (hdd : DeedSpec cx C n f_law_deed) (hct : ComeSpec cx C n f_Room_come_to) (hwk : WalkedSpec cx C n f_law_walked) (hus : UsedSpec cx C n f_Room_used) (hpm : PushMSpec cx C n f_Room_pushed)
    (hint : ∀ v H Q, Q (.bool true) H → CallP cx n f_law_is_int [.int v] H Q) (hsm : SameSpec cx n f_law_same) (hpl : PlSpec cx C n f_Room_places) (hce : CellsSpec cx C n f_Room_cells) (hz : cx.Z sa = some (intsV ns)) (h0 : H sa = none) (hlen : ns.length ≤ 1000) (hQ : ∀ H', Q (.bool true) H') :
    mwpSs cx n (m_law9 C f_Room_init f_law_at f_law_deed f_Room_come_to f_law_walked f_Room_used f_Room_pushed f_law_is_int f_law_same f_Room_places f_Room_cells) [.ref sa, .unb, .unb, .unb, .unb, .unb, .unb, .unb] H (NQ Q) (RQ Q) := by
  have hs : lk cx H sa = some (.list (intsV ns)) := ((KZ.refl cx H).lk h0 hz).2
  refine S_cons ?_
  walk_at "st"
  refine hat _ _ _ hs (by decide) fun v0 _ => ?_
  walk_at "st"
  refine ⟨by decide, ?_⟩
  obtain ⟨b1, b2⟩ := fmod_pos_bounds v0 (b := 21) (by decide)
  rw [show v0.fmod 21 = ((v0.fmod 21).toNat : Int) from by first | lia | omega]
  generalize hd : (v0.fmod 21).toNat = d
  refine ⟨hn, fun dx hdx rm hrm => hi _ _ _ _ _ (upd_same _ _ _) ?_ (by first | lia | omega) fun ra xs H1 R kz => ⟨rfl, S_cons ?_⟩⟩
  · rw [upd_ne _ (hrm.ne' (upd_same _ _ _)), upd_same]
  have kz1 : KZ cx H H1 := KZ.trans ((Ext.new hdx _).new' hrm _).z kz
  obtain ⟨h01, hs1⟩ := kz1.lk h0 hz
  walk_at "st"
  simp only [hs1, ints_length]
  refine ⟨by first | lia | omega, ?_⟩
  have hm : (if (ns.length : Int) < 31 then (ns.length : Int) else 31) ≤ 31 ∧ (if (ns.length : Int) < 31 then (ns.length : Int) else 31) ≤ (ns.length : Int) ∧ 0 ≤ (if (ns.length : Int) < 31 then (ns.length : Int) else 31) := by split <;> omega
  generalize (if (ns.length : Int) < 31 then (ns.length : Int) else 31) = m at hm
  refine ⟨⟨by decide, by decide⟩, ⟨by first | lia | omega, by first | lia | omega⟩, fun done μ H' => ∃ ra B xs z, μ = [.ref sa, .ref rm, z, .unb, .unb, .unb, .unb, .unb] ∧ RoomAt C rm dx ra B xs H' ∧ pl B B.length ≤ 21 + 5 * done.length ∧ KZ cx H H', ⟨ra, _, xs, _, rfl, R, by simp only [List.length_singleton, pl_room]; first | lia | omega, kz1⟩, fun _ _ _ _ => trivial, ?_, ?_⟩
  · rintro done x rest μ H2 e ⟨ra2, B2, xs2, z, rfl, R2, hp2, kz2⟩
    obtain ⟨rfl, hx2⟩ := rng1_item e
    obtain ⟨h02, hs2⟩ := kz2.lk h0 hz
    have hv : ns[1 + done.length]? = some (ns[1 + done.length]'(by omega)) := List.getElem?_eq_getElem _
    generalize ns[1 + done.length]'(by omega) = v at hv
    rw [show (1 : Int) + (done.length : Int) = ((1 + done.length : Nat) : Int) from by first | lia | omega]
    refine S_cons ?_
    walk_at "st"
    simp only [hs2, ints_length, ints_get?, Int.toNat_natCast, hv, Option.map_some]
    refine ⟨by first | lia | omega, by first | lia | omega, by first | lia | omega, by first | lia | omega, ?_⟩
    walk_at "st"
    obtain ⟨c1, c2⟩ := fmod_pos_bounds (v * 48271 + 7919 * ((1 + done.length : Nat) : Int)) (b := 999983) (by decide)
    refine ⟨mulOk_r (by decide), mulOk_l (by decide), by decide, hdd _ _ _ _ _ _ _ _ _ R2 (by first | lia | omega) c1 (by first | lia | omega) fun _ ra3 B3 xs3 H3 R3 hp3 kz3 => S_nil ⟨_, LE.refl _, ra3, B3, xs3, _, rfl, R3, ?_, KZ.trans kz2 kz3⟩⟩
    rw [List.length_append, List.length_singleton]; first | lia | omega
  rintro μ H2 ⟨ra, B, xs, z, rfl, R, hp2, kz2⟩
  rw [rng1_len] at hp2
  obtain ⟨h02, hs2⟩ := kz2.lk h0 hz
  have hBl := len_le_pl B (Nat.le_refl _)
  refine S_cons ?_
  walk_at "st"
  refine hat _ _ _ hs2 (by decide) fun v1 _ => ?_
  walk_at "st"
  obtain ⟨c1, c2⟩ := fmod_pos_bounds (v1.fdiv 21) (b := 41) (by decide)
  generalize hcc : (v1.fdiv 21).fmod 41 = c at c1 c2
  have hrl : (intsV (rangeL 0 c)).length = c.toNat := by simp [intsV, rangeL]
  refine ⟨by decide, by decide, ⟨by decide, by decide⟩, ⟨by first | lia | omega, by first | lia | omega⟩, by rw [hrl]; first | lia | omega, fun done acc H' => (∃ qs, acc = intsV qs ∧ qs.length = done.length) ∧ H' = H2, ⟨⟨[], rfl, rfl⟩, rfl⟩, fun _ _ _ _ => trivial, ?_, ?_⟩
  · rintro done x rest acc H3 e ⟨⟨qs, rfl, hql⟩, rfl⟩
    have hx : (intsV (rangeL 0 c))[done.length]? = some x := by rw [e]; simp
    rw [ints_get?] at hx
    obtain ⟨y, hy, rfl⟩ := Option.map_eq_some_iff.mp hx
    walk_at "st"
    refine ⟨by decide, hat _ _ _ hs2 (fmod_pos_bounds y (b := 50) (by decide)).1 fun v2 _ => ?_⟩
    walk_at "st"
    refine ⟨mulOk_r (by decide), mulOk_l (by decide), by decide, _, LE.refl _, ⟨qs ++ [(v2 * 69621 + 31 * y).fmod 999979], ?_, by simp [hql]⟩, rfl⟩
    simp [intsV]
  rintro acc H3 ⟨⟨qs, rfl, hql⟩, rfl⟩ pa hpa
  rw [hrl] at hql
  have x3 := Ext.new hpa (.list (intsV qs))
  have e3 : (upd H3 pa (.list (intsV qs))) pa = some (.list (intsV qs)) := upd_same _ _ _
  generalize upd H3 pa (.list (intsV qs)) = H4 at x3 e3
  have R4 := R.ext x3.le
  refine S_cons ?_
  walk_at "st"
  refine ⟨R4.no fun _ _ => rfl, hct _ _ _ _ _ _ _ R4 fun cr H5 p x5 _ hp hcr => ?_⟩
  walk_at "st"
  simp only [lk_of hcr, natsV_length, List.length_map]
  have hkl : (kl p B.length).length ≤ B.length := by
    unfold kl
    exact Nat.le_trans (List.length_filter_le _ _) (by simp)
  refine ⟨by first | lia | omega, S_cons ?_⟩
  have R5 := R4.ext x5.le
  walk_at "st"
  refine hwk _ _ _ _ _ _ _ _ _ R5 (x5.lk (lk_of e3)) (by first | lia | omega) fun ar es H6 x6 _ har hes hel => S_cons ?_
  have R6 := R5.ext x6.le
  have e6 := x6.lk (x5.lk (lk_of e3))
  walk_at "st"
  refine ⟨R6.no fun _ _ => rfl, hus _ _ _ _ _ _ _ R6 (S_cons ?_)⟩
  walk_at "st"
  refine ⟨R6.no fun _ _ => rfl, hpm _ _ _ _ _ _ _ R6 fun r7 p' xs7 H7 hp' R7 bt kz7 => S_cons ?_⟩
  have : p = p' := kl_congr hp hp'
  subst this
  have hu : pl (box2 B p B.length) (box2 B p B.length).length ≤ pl B B.length := by
    rw [box2_length, box2_pl (Nat.le_refl _)]; exact nw_le p (Nat.le_refl _)
  have e7 : lk cx H7 pa = some (.list (intsV qs)) := bt.lk kz7 (fun q => by rw [q, lk_of R6.d] at e6; cases e6) e6
  have ha7 : lk cx H7 ar = some (.list es) := bt.lk kz7 (fun q => by rw [q, R6.d] at har; cases har) (lk_of har)
  have hes7 : All2 (EntAt cx ar H7) es ((widx B 0 qs).map (ent B)) := hes.imp fun _ _ q => EntAt.but bt kz7 R6.d q
  have hS := same_of hp R.w qs
  have hall := fun i => all2 hp R.w (i := i)
  have hb2 : (box2 B p B.length).length = (kl p B.length).length := box2_length _
  generalize box2 B p B.length = B2 at R7 hu hS hall hb2
  clear hp'
  walk_at "st"
  refine hint _ _ _ ?_
  walk_at "st"
  rw [show decide ((pl B B.length : Int) - (pl B2 B2.length : Int) < 0) = false from decide_eq_false (by first | lia | omega)]
  walk_at "st"
  refine ⟨R7.no fun _ _ => rfl, hus _ _ _ _ _ _ _ R7 ?_⟩
  walk_at "st"
  rw [show ((pl B B.length : Int) - ((pl B B.length : Int) - (pl B2 B2.length : Int)) != (pl B2 B2.length : Int)) = false from by rw [bne_eq_false_iff_eq]; first | lia | omega]
  walk_at "st"
  refine S_nil (S_cons ?_)
  walk_at "st"
  refine hwk _ _ _ _ _ _ _ _ _ R7 e7 (by first | lia | omega) fun br fs H8 x8 _ hbr hfs _ => hsm _ _ _ _ _ _ _ _ _ _ (x8.lk ha7) (lk_of hbr) (hes7.imp fun _ _ q => q.ext x8) hfs hS (by first | lia | omega) ?_
  have R8 := R7.ext x8.le
  walk_at "st"
  refine S_nil (S_cons ?_)
  walk_at "st"
  have hle8 := R8.le
  have hl2 := len_le_pl B2 (Nat.le_refl _)
  refine ⟨R8.no fun _ _ => rfl, hpl _ _ _ _ _ _ _ R8 fun pr H9 x9 _ hpr => ?_⟩
  have R9 := R8.ext x9.le
  walk_at "st"
  simp only [lk_of hpr, natsV_length, List.length_map, List.length_range]
  refine ⟨by first | lia | omega, by rw [natsV_length, List.length_map, List.length_range]; first | lia | omega, fun done acc H' => acc = [] ∧ H' = H9, ⟨rfl, rfl⟩, ?_, ?_, ?_⟩
  · rintro _ _ _ ⟨_, rfl⟩; exact lk_of hpr
  · rintro done x rest acc H' e ⟨rfl, rfl⟩
    have hx : (natsV ((List.range B2.length).map (pl B2)))[done.length]? = some x := by rw [e]; simp
    have hdl : done.length < B2.length := by
      have := congrArg List.length e
      simp [natsV_length] at this; omega
    rw [natsV_get?, List.getElem?_map, List.getElem?_range hdl] at hx
    simp only [Option.map_some, Option.some.injEq] at hx
    subst hx
    have hlt := pl_lt hdl hdl
    walk_at "st"
    rw [show decide ((0 : Int) ≤ (pl B2 done.length : Int)) = true from decide_eq_true (by first | lia | omega)]
    walk_at "st"
    refine ⟨R9.no fun _ _ => rfl, hus _ _ _ _ _ _ _ R9 ?_⟩
    walk_at "st"
    rw [show decide ((pl B2 done.length : Int) < (pl B2 B2.length : Int)) = true from decide_eq_true (by first | lia | omega)]
    walk_at "st"
    exact ⟨_, LE.refl _, rfl, rfl⟩
  rintro acc H' ⟨rfl, rfl⟩ cr2 hcr2
  walk_at "st"
  simp only [lk_same, List.length_nil]
  have R10 := R9.ext (Ext.new hcr2 (.list [])).le
  generalize upd H' cr2 (.list []) = H10 at R10
  refine ⟨by decide, ?_⟩
  rw [show decide ((0 : Int) < ((0 : Nat) : Int)) = false from rfl]
  walk_at "st"
  refine S_nil (S_cons ?_)
  walk_at "st"
  refine ⟨R10.no fun _ _ => rfl, hpl _ _ _ _ _ _ _ R10 fun pr2 H11 x11 _ hpr2 => ?_⟩
  have R11 := R10.ext x11.le
  refine ⟨R11.no fun _ _ => rfl, hct _ _ _ _ _ _ _ R11 fun cr3 H12 p2 x12 _ hp2 hcr3 => ?_⟩
  have R12 := R11.ext x12.le
  rw [kl_all (fun i hi => (hp2 i).mpr (hall i hi))] at hcr3
  rw [cmp_ints (x12.lk (lk_of hpr2)) (lk_of hcr3)]
  walk_at "st"
  refine ⟨R12.no fun _ _ => rfl, hpl _ _ _ _ _ _ _ R12 fun pr4 H13 x13 _ hpr4 => ?_⟩
  have R13 := R12.ext x13.le
  walk_at "st"
  simp only [lk_of hpr4, natsV_length, List.length_map, List.length_range, hb2]
  walk_at "st"
  refine ⟨by first | lia | omega, R13.no fun _ _ => rfl, hce _ _ _ _ _ _ _ R13 fun cc H14 vs x14 hcc hvl => ?_⟩
  walk_at "st"
  simp only [lk_of hcc, hvl]
  exact ⟨by decide, RQ.here (hQ _)⟩
end
end Mine
end

section
open PySem PySem.W PyProof.Rows
namespace Mine

noncomputable def fdAt (K : Frag) (f : Addr) : FuncData := match K.lookup f with
  | some ⟨_, _, .func fd, _⟩ => fd
  | _ => default
noncomputable def bodyOf (fd : FuncData) : List Stmt := match fd.body with
  | .stmts b => b
  | _ => []
noncomputable def codeOk (K : Frag) (fd : FuncData) : Bool := match fd.code with
  | .ref c => match K.lookup c with
    | some ⟨_, _, .fields vs, _⟩ => match (vs[1]? : Option Value) with
      | some (.str q _) => q == fd.qualname
      | _ => false
    | _ => false
  | _ => false
noncomputable def isStmts (fd : FuncData) : Bool := match fd.body with
  | .stmts _ => true
  | _ => false
noncomputable def isFunc (K : Frag) (f : Addr) : Bool := match K.lookup f with
  | some ⟨_, _, .func _, _⟩ => true
  | _ => false
noncomputable def defOk (K : Frag) (f : Addr) : Bool := isFunc K f && Nat.beq (fdAt K f).globals mainGlobals && Nat.beq (fdAt K f).builtins builtinsNs && (fdAt K f).closure.isEmpty && codeOk K (fdAt K f) && isStmts (fdAt K f) &&
  decide ((fdAt K f).scope.kind = .function) && !(fdAt K f).scope.isCoroutine && !(fdAt K f).scope.isGenerator

theorem def_of {cx : Cx} {K : Frag} (X : K.In cx.base) {f : Addr} (h : defOk K f = true) (ps : List Str) (hb : ∀ vs : List Value, vs.length = ps.length → bindArgs (fdAt K f) ⟨vs, []⟩ = pure (ps.zip vs)) :
    Def cx f ps (bodyOf (fdAt K f)) (fdAt K f).scope := by
  simp only [defOk, Bool.and_eq_true, Bool.not_eq_true', decide_eq_true_eq] at h
  obtain ⟨⟨⟨⟨⟨⟨⟨⟨h1, h2⟩, h3⟩, h4⟩, h5⟩, h6⟩, h7⟩, h8⟩, h9⟩ := h
  refine ⟨?_, h7, h8, h9⟩
  unfold isFunc at h1
  split at h1
  · rename_i c d fd sl e
    have efd : fdAt K f = fd := by unfold fdAt; rw [e]
    rw [efd] at h2 h3 h4 h5 h6 hb ⊢
    refine ⟨_, fd, X _ _ e, rfl, ?_, rfl, Nat.eq_of_beq_eq_true h2, Nat.eq_of_beq_eq_true h3, by simpa using h4, ?_, hb⟩
    · unfold isStmts at h6
      unfold bodyOf
      split at h6
      · rename_i q; rw [q]
      · cases h6
    · unfold codeOk at h5
      split at h5
      · rename_i cc ec
        split at h5
        · rename_i e2
          split at h5
          · rename_i q t e3
            rw [ec]
            exact ⟨cc, _, _, t, rfl, X _ _ e2, rfl, by rw [e3, eq_of_beq h5]⟩
          · cases h5
        · cases h5
      · cases h5
  · cases h1

noncomputable def GT := List (Str × Value)
noncomputable def GT.all (h : Heap) : List (Str × Value) → Prop
  | [] => True
  | (x, v) :: r => GlobAt h x v ∧ GT.all h r
theorem GT.at {h : Heap} : ∀ {l : List (Str × Value)}, GT.all h l → ∀ x v, l.lookup x = some v → GlobAt h x v
  | (y, w) :: r, a, x, v, e => by
    rw [List.lookup_cons] at e
    cases hb : x == y with
    | true => rw [hb] at e; cases e; rw [eq_of_beq hb]; exact a.1
    | false => rw [hb] at e; exact GT.at a.2 x v e

theorem glob_K {p : Program} {loose : List Str} {mean : ExcName → Option Value} {mg mb : Str → Option Value} {h : Heap} (T : Top p loose mean mg mb h) {K : Frag} (X : K.In h) {x : Str} {v : Value} (e : nsIn K mainGlobals x = some (some v)) : GlobAt h x v :=
  .inl ⟨mg, T.g, mg_of X T.g e⟩
theorem glob_B {p : Program} {loose : List Str} {mean : ExcName → Option Value} {mg mb : Str → Option Value} {h : Heap} (T : Top p loose mean mg mb h) {K : Frag} (X : K.In h) {x : Str} {v : Value} (e : nsIn K mainGlobals x = some none) (hv : bootBuiltins x = some v) (hn : x ≠ "__name__") : GlobAt h x v :=
  .inr ⟨mg, mb, T.g, mg_none_of X T.g e, T.b, (T.builtins x hn).trans hv⟩

theorem ints_of : ∀ {vs : List Value} {ns : List Int}, IntsAre vs ns → vs.map abs = intsV ns
  | _, _, .nil => rfl
  | _, _, .cons n t r => by simp only [List.map_cons, intsV, abs]; rw [ints_of r]; rfl

theorem law_good {l : OpenLaw} {cl : Str → Option Addr} {mean : ExcName → Option Value} {args : List WData} {s₁ s' : Shared} (hk : ∀ b o, s₁.heap.get? b = some o → s'.heap.get? b = some o) (hos : s'.os = s₁.os) (hg : s'.gens = #[]) :
    GoodWG l.row.claim cl mean args s₁ (.ok (.ret (.bool true))) s' :=
  GoodW.toG ⟨.inl ⟨.bool true, .bool true, [], rfl, raisesW_false (fun _ h => nomatch h), .bool true, postW_of (X := (true == true)) rfl (w_eq_bool (w_res rfl) w_lit) rfl, fun _ => ⟨.nil, fun _ h => nomatch h⟩⟩, hk, hos, hg⟩

theorem law_end {l : OpenLaw} {cl : Str → Option Addr} {mean : ExcName → Option Value} {args : List WData} {cx : Cx} {s₁ : Shared} (hb : cx.base = s₁.heap) (hg : s₁.gens = #[]) {f sa : Addr} {n : Nat} (hn : n ≤ 100)
    (h : CallP cx n f [.ref sa] (fun _ => none) fun v _ => v = .bool true) : codeAny (model cx.prog cx.w) callerA (.call (.ref f) ⟨[.ref sa], []⟩) (GoodWG l.row.claim cl mean args s₁) s₁ := by
  refine codeAny_mono (h callerA s₁ [.ref sa] ⟨rfl, by show 1 + claimMargin + n < 850; unfold claimMargin; omega, by show 4 + 16 * n < 9000; omega, [], rfl⟩ ⟨fun _ _ e => (nomatch e), fun b o e => by rw [hb] at e; exact e, fun _ _ e => (nomatch e)⟩ rfl) fun r s' hr => ?_
  obtain ⟨v, H', rfl, S, k, hv⟩ := hr
  have := abs_bool hv; subst this
  exact law_good (fun b o e => k.keep b o e rfl id) k.os (k.gens.trans hg)
end Mine
end

section
open PySem PySem.W PyProof.Rows
namespace Mine
noncomputable def bt : List (Str × Value) := [("len", .builtin "len"), ("list", .type "list"), ("int", .type "int"), ("tuple", .type "tuple"), ("bool", .type "bool"), ("isinstance", .builtin "isinstance"), ("range", .type "range"), ("min", .builtin "min")]
noncomputable def stdB : List (Str × BF) := [("len", .len), ("list", .list), ("min", .min)]
noncomputable def stdT : List (Str × String) := [("int", "int"), ("list", "list"), ("tuple", "tuple"), ("bool", "bool")]
theorem script_obj {P : Params} {h : Heap} {sa : Addr} {vs : List Value} {ns : List Int} (hW : Well P h (.ref sa) (ofPy (PyData.list (ns.map PyData.int)))) (hL : h.IsList sa vs.toArray) (hI : IntsAre vs ns) : Rep h sa (.list (intsV ns)) := by
  generalize hd : ofPy (PyData.list (ns.map PyData.int)) = d at hW
  obtain ⟨o, ho, hc, k, hk⟩ := hL
  cases hW with
  | list e _ =>
    rw [ho] at e
    cases e
    simp only at hk
    cases hk
    exact ⟨_, _, ho, by simpa using ints_of hI⟩
  | _ => first | (rename_i e _; rw [ho] at e; cases e; simp at hc; done) | (rename_i e; rw [ho] at e; cases e; simp at hc; done) | (simp [ofPy] at hd)

theorem lookup_app {x : Str} {f : Addr} : ∀ {fns : List (Str × Addr)} {r : List (Str × Value)}, fns.lookup x = some f → (fns.map (fun p => (p.1, Value.ref p.2)) ++ r).lookup x = some (.ref f)
  | (y, g) :: l, r, e => by
    rw [List.lookup_cons] at e
    rw [List.map_cons, List.cons_append, List.lookup_cons]
    cases hb : x == y with
    | true => rw [hb] at e; cases e; rfl
    | false => rw [hb] at e; exact lookup_app e

noncomputable def isInt (i : Int) : Option Value → Bool
  | some (.int j _) => j == i
  | _ => false
theorem tbl_ok {cx : Cx} {K : Frag} (X : K.In cx.base) {fns : List (Str × Addr)} {r : List (Str × Value)} {bs : List (Str × BF)} {ts : List (Str × String)} {ats : List (Addr × Str)} {mts : List (Addr × Str × Addr)} {mks : List (Str × Addr × Addr)} {gis : List (Str × Int)} (hg : cx.gl = fun x => (fns.map (fun p => (p.1, Value.ref p.2)) ++ r).lookup x)
    (h1 : (fns.all fun p => isFunc K p.2) = true) (h2 : (bs.all fun p => decide ((fns.map (fun p => (p.1, Value.ref p.2)) ++ r).lookup p.1 = some p.2.val)) = true)
    (h3 : (ts.all fun p => decide ((fns.map (fun p => (p.1, Value.ref p.2)) ++ r).lookup p.1 = some (.type p.2))) = true)
    (h4 : (fns.map (fun p => (p.1, Value.ref p.2)) ++ r).lookup ("isinstance" : Str) = some (.builtin "isinstance")) (h5 : (fns.map (fun p => (p.1, Value.ref p.2)) ++ r).lookup ("range" : Str) = some (.type "range"))
    (h6 : (ats.all fun p => attrIn K p.1 p.2) = true) (h7 : (mts.all fun p => methIn K p.1 p.2.1 p.2.2) = true)
    (h8 : (mks.all fun p => decide ((fns.map (fun p => (p.1, Value.ref p.2)) ++ r).lookup p.1 = some (.ref p.2.1)) && mkIn K p.2.1 p.2.2) = true)
    (h9 : (gis.all fun p => isInt p.2 ((fns.map (fun p => (p.1, Value.ref p.2)) ++ r).lookup p.1)) = true) : Tbl.OK cx ⟨fns, bs, ts, K, ats, mts, mks, gis⟩ := by
  refine ⟨fun x f e => ⟨by rw [hg]; exact lookup_app e, ?_⟩, fun x b e => ?_, fun x b e => ?_, by rw [hg]; exact h4, by rw [hg]; exact h5, X, fun C x e => ?_, fun C x f e => ?_, fun x C f e => ?_, fun x i e => ?_⟩
  · have := List.all_eq_true.mp h1 _ (lookup_mem e)
    unfold isFunc at this
    split at this
    · rename_i c d fd sl q
      exact ⟨_, fd, X _ _ q, rfl⟩
    · cases this
  · rw [hg]; exact of_decide_eq_true (List.all_eq_true.mp h2 _ (lookup_mem e))
  · rw [hg]; exact of_decide_eq_true (List.all_eq_true.mp h3 _ (lookup_mem e))
  · exact List.all_eq_true.mp h6 _ (List.contains_iff_mem.mp e)
  · exact List.all_eq_true.mp h7 _ (List.contains_iff_mem.mp e)
  · obtain ⟨a, b⟩ := band (List.all_eq_true.mp h8 _ (List.contains_iff_mem.mp e))
    exact ⟨by rw [hg]; exact of_decide_eq_true a, b⟩
  · have := List.all_eq_true.mp h9 _ (lookup_mem e)
    rw [hg]
    unfold isInt at this
    split at this
    · rename_i j t q
      exact ⟨t, q.trans (by rw [show j = i from beq_iff_eq.mp this])⟩
    · cases this

theorem len_succ {α : Type} {l : List α} {n : Nat} (h : l.length = n + 1) : ∃ a r, l = a :: r ∧ r.length = n := by
  cases l with
  | nil => cases h
  | cons a r => exact ⟨a, r, rfl, Nat.succ.inj h⟩
theorem arity1 {fd : FuncData} {p : Str} (h : ∀ a, bindArgs fd ⟨[a], []⟩ = pure [(p, a)]) (vs : List Value) (hl : vs.length = [p].length) : bindArgs fd ⟨vs, []⟩ = pure ([p].zip vs) := by
  obtain ⟨a, r, rfl, h1⟩ := len_succ hl; have := List.eq_nil_of_length_eq_zero h1; subst this; exact h a
theorem arity2 {fd : FuncData} {p q : Str} (h : ∀ a b, bindArgs fd ⟨[a, b], []⟩ = pure [(p, a), (q, b)]) (vs : List Value) (hl : vs.length = [p, q].length) : bindArgs fd ⟨vs, []⟩ = pure ([p, q].zip vs) := by
  obtain ⟨a, r, rfl, h1⟩ := len_succ hl; obtain ⟨b, r, rfl, h2⟩ := len_succ h1; have := List.eq_nil_of_length_eq_zero h2; subst this; exact h a b
theorem arity3 {fd : FuncData} {p q r : Str} (h : ∀ a b c, bindArgs fd ⟨[a, b, c], []⟩ = pure [(p, a), (q, b), (r, c)]) (vs : List Value) (hl : vs.length = [p, q, r].length) : bindArgs fd ⟨vs, []⟩ = pure ([p, q, r].zip vs) := by
  obtain ⟨a, r', rfl, h1⟩ := len_succ hl; obtain ⟨b, r', rfl, h2⟩ := len_succ h1; obtain ⟨c, r', rfl, h3⟩ := len_succ h2; have := List.eq_nil_of_length_eq_zero h3; subst this; exact h a b c
theorem cx_ok {pr : Program} {w : World} {s₁ : Shared} {p : Program} {loose : List Str} {mean : ExcName → Option Value} {mg mb : Str → Option Value} (T : Top p loose mean mg mb s₁.heap) (hseer : s₁.heap.NoSeer) {gl : List (Str × Value)} (hg : GT.all s₁.heap gl)
    {sa : Addr} {vs : List Value} {ns : List Int} (hW : Well w.params s₁.heap (.ref sa) (ofPy (PyData.list (ns.map PyData.int)))) (hL : s₁.heap.IsList sa vs.toArray) (hI : IntsAre vs ns) (ht : pr.given.tree = none) :
    Cx.OK ⟨pr, w, s₁.heap, fun a => if a = sa then some (intsV ns) else none, fun x => gl.lookup x⟩ := ⟨T.nolimit, hseer, ht, GT.at hg, fun a vs' e => by
    show Rep s₁.heap a (.list vs')
    have e' : (if a = sa then some (intsV ns) else none) = some vs' := e
    split at e'
    · rename_i h; subst h; cases e'; exact script_obj hW hL hI
    · cases e'⟩
end Mine
end

section
open PySem PySem.W PyProof.Rows
namespace Mine
theorem arity4 {fd : FuncData} {p q r t : Str} (h : ∀ a b c d, bindArgs fd ⟨[a, b, c, d], []⟩ = pure [(p, a), (q, b), (r, c), (t, d)]) (vs : List Value) (hl : vs.length = [p, q, r, t].length) : bindArgs fd ⟨vs, []⟩ = pure ([p, q, r, t].zip vs) := by
  obtain ⟨a, r', rfl, h1⟩ := len_succ hl; obtain ⟨b, r', rfl, h2⟩ := len_succ h1; obtain ⟨c, r', rfl, h3⟩ := len_succ h2; obtain ⟨d, r', rfl, h4⟩ := len_succ h3; have := List.eq_nil_of_length_eq_zero h4; subst this; exact h a b c d
end Mine
end

open PySem PySem.W PyProof.Rows
set_option maxRecDepth 100000
set_option maxHeartbeats 8000000
namespace Mine
noncomputable def clsI (i : Nat) : List Stmt := match PySem.Challenge.pw_uf060004_09.main.body[i]? with
  | some (.ClassDef _ _ _ b _ _ _ _ _ _ _) => b
  | _ => []
noncomputable def clsB : List Stmt := clsI 32
noncomputable def dP (i : Nat) : PySem.Arguments := match PySem.Challenge.pw_uf060004_09.main.body[i]? with
  | some (.FunctionDef _ x _ _ _ _ _ _ _ _) => x
  | _ => default
noncomputable def dPm (i : Nat) : PySem.Arguments := match clsB[i]? with
  | some (.FunctionDef _ x _ _ _ _ _ _ _ _) => x
  | _ => default
noncomputable def dB (i : Nat) : List Stmt := match PySem.Challenge.pw_uf060004_09.main.body[i]? with
  | some (.FunctionDef _ _ x _ _ _ _ _ _ _) => x
  | _ => []
noncomputable def dBm (i : Nat) : List Stmt := match clsB[i]? with
  | some (.FunctionDef _ _ x _ _ _ _ _ _ _) => x
  | _ => []
noncomputable def dS (i : Nat) : Scope := match PySem.Challenge.pw_uf060004_09.main.body[i]? with
  | some (.FunctionDef _ _ _ _ _ _ x _ _ _) => x
  | _ => default
noncomputable def dSm (i : Nat) : Scope := match clsB[i]? with
  | some (.FunctionDef _ _ _ _ _ _ x _ _ _) => x
  | _ => default
noncomputable def kk (P : PySem.Params) : Frag := [(3, { cls := PySem.Value.type "dict", data := PySem.Data.dict #[{ hash := PySem.PyData.keyHash P (PySem.Str.ofString "__name__"), key := PySem.Value.str (PySem.Str.ofString "__name__") 165, val := PySem.Value.str (PySem.Str.ofString "law_uf060004_09") 571 }, { hash := PySem.PyData.keyHash P (PySem.Str.ofString "__doc__"), key := PySem.Value.str (PySem.Str.ofString "__doc__") 166, val := PySem.Value.none }, { hash := PySem.PyData.keyHash P (PySem.Str.ofString "__package__"), key := PySem.Value.str (PySem.Str.ofString "__package__") 167, val := PySem.Value.none }, { hash := PySem.PyData.keyHash P (PySem.Str.ofString "__loader__"), key := PySem.Value.str (PySem.Str.ofString "__loader__") 168, val := PySem.Value.builtin "__main__.__loader__#opaque" }, { hash := PySem.PyData.keyHash P (PySem.Str.ofString "__spec__"), key := PySem.Value.str (PySem.Str.ofString "__spec__") 169, val := PySem.Value.none }, { hash := PySem.PyData.keyHash P (PySem.Str.ofString "__annotations__"), key := PySem.Value.str (PySem.Str.ofString "__annotations__") 170, val := PySem.Value.ref 6 }, { hash := PySem.PyData.keyHash P (PySem.Str.ofString "__builtins__"), key := PySem.Value.str (PySem.Str.ofString "__builtins__") 171, val := PySem.Value.ref 4 }, { hash := PySem.PyData.keyHash P (PySem.Str.ofString "__file__"), key := PySem.Value.str (PySem.Str.ofString "__file__") 173, val := PySem.Value.str (PySem.Str.ofString "/claim/cut.py") 172 }, { hash := PySem.PyData.keyHash P (PySem.Str.ofString "__cached__"), key := PySem.Value.str (PySem.Str.ofString "__cached__") 174, val := PySem.Value.none }, { hash := PySem.PyData.keyHash P (PySem.Str.ofString "SlideError"), key := PySem.Value.str (PySem.Str.ofString "SlideError") 206, val := PySem.Value.ref 24 }, { hash := PySem.PyData.keyHash P (PySem.Str.ofString "BadSize"), key := PySem.Value.str (PySem.Str.ofString "BadSize") 222, val := PySem.Value.ref 37 }, { hash := PySem.PyData.keyHash P (PySem.Str.ofString "BadThing"), key := PySem.Value.str (PySem.Str.ofString "BadThing") 238, val := PySem.Value.ref 49 }, { hash := PySem.PyData.keyHash P (PySem.Str.ofString "NoBox"), key := PySem.Value.str (PySem.Str.ofString "NoBox") 254, val := PySem.Value.ref 61 }, { hash := PySem.PyData.keyHash P (PySem.Str.ofString "NoField"), key := PySem.Value.str (PySem.Str.ofString "NoField") 270, val := PySem.Value.ref 73 }, { hash := PySem.PyData.keyHash P (PySem.Str.ofString "NoRoom"), key := PySem.Value.str (PySem.Str.ofString "NoRoom") 286, val := PySem.Value.ref 85 }, { hash := PySem.PyData.keyHash P (PySem.Str.ofString "number_word"), key := PySem.Value.str (PySem.Str.ofString "number_word") 295, val := PySem.Value.ref 94 }, { hash := PySem.PyData.keyHash P (PySem.Str.ofString "link_word"), key := PySem.Value.str (PySem.Str.ofString "link_word") 302, val := PySem.Value.ref 101 }, { hash := PySem.PyData.keyHash P (PySem.Str.ofString "head_word"), key := PySem.Value.str (PySem.Str.ofString "head_word") 310, val := PySem.Value.ref 108 }, { hash := PySem.PyData.keyHash P (PySem.Str.ofString "is_link"), key := PySem.Value.str (PySem.Str.ofString "is_link") 317, val := PySem.Value.ref 115 }, { hash := PySem.PyData.keyHash P (PySem.Str.ofString "told_by"), key := PySem.Value.str (PySem.Str.ofString "told_by") 324, val := PySem.Value.ref 122 }, { hash := PySem.PyData.keyHash P (PySem.Str.ofString "fields_of"), key := PySem.Value.str (PySem.Str.ofString "fields_of") 331, val := PySem.Value.ref 129 }, { hash := PySem.PyData.keyHash P (PySem.Str.ofString "is_marked"), key := PySem.Value.str (PySem.Str.ofString "is_marked") 338, val := PySem.Value.ref 136 }, { hash := PySem.PyData.keyHash P (PySem.Str.ofString "hung"), key := PySem.Value.str (PySem.Str.ofString "hung") 350, val := PySem.Value.ref 143 }, { hash := PySem.PyData.keyHash P (PySem.Str.ofString "led"), key := PySem.Value.str (PySem.Str.ofString "led") 362, val := PySem.Value.ref 150 }, { hash := PySem.PyData.keyHash P (PySem.Str.ofString "heads"), key := PySem.Value.str (PySem.Str.ofString "heads") 374, val := PySem.Value.ref 157 }, { hash := PySem.PyData.keyHash P (PySem.Str.ofString "with_mark"), key := PySem.Value.str (PySem.Str.ofString "with_mark") 383, val := PySem.Value.ref 164 }, { hash := PySem.PyData.keyHash P (PySem.Str.ofString "marked"), key := PySem.Value.str (PySem.Str.ofString "marked") 395, val := PySem.Value.ref 171 }, { hash := PySem.PyData.keyHash P (PySem.Str.ofString "threaded"), key := PySem.Value.str (PySem.Str.ofString "threaded") 407, val := PySem.Value.ref 178 }, { hash := PySem.PyData.keyHash P (PySem.Str.ofString "moved"), key := PySem.Value.str (PySem.Str.ofString "moved") 419, val := PySem.Value.ref 185 }, { hash := PySem.PyData.keyHash P (PySem.Str.ofString "pushed"), key := PySem.Value.str (PySem.Str.ofString "pushed") 430, val := PySem.Value.ref 192 }, { hash := PySem.PyData.keyHash P (PySem.Str.ofString "pushed_sliding"), key := PySem.Value.str (PySem.Str.ofString "pushed_sliding") 431, val := PySem.Value.ref 192 }, { hash := PySem.PyData.keyHash P (PySem.Str.ofString "MOST_CELLS"), key := PySem.Value.str (PySem.Str.ofString "MOST_CELLS") 435, val := PySem.Value.int 400 434 }, { hash := PySem.PyData.keyHash P (PySem.Str.ofString "MOST_DOORS"), key := PySem.Value.str (PySem.Str.ofString "MOST_DOORS") 437, val := PySem.Value.int 20 436 }, { hash := PySem.PyData.keyHash P (PySem.Str.ofString "is_whole"), key := PySem.Value.str (PySem.Str.ofString "is_whole") 444, val := PySem.Value.ref 199 }, { hash := PySem.PyData.keyHash P (PySem.Str.ofString "need_things"), key := PySem.Value.str (PySem.Str.ofString "need_things") 452, val := PySem.Value.ref 206 }, { hash := PySem.PyData.keyHash P (PySem.Str.ofString "word_of"), key := PySem.Value.str (PySem.Str.ofString "word_of") 459, val := PySem.Value.ref 213 }, { hash := PySem.PyData.keyHash P (PySem.Str.ofString "Room"), key := PySem.Value.str (PySem.Str.ofString "Room") 570, val := PySem.Value.ref 296 }, { hash := PySem.PyData.keyHash P (PySem.Str.ofString "_law_at"), key := PySem.Value.str (PySem.Str.ofString "_law_at") 580, val := PySem.Value.ref 307 }, { hash := PySem.PyData.keyHash P (PySem.Str.ofString "_law_is_int"), key := PySem.Value.str (PySem.Str.ofString "_law_is_int") 587, val := PySem.Value.ref 314 }, { hash := PySem.PyData.keyHash P (PySem.Str.ofString "_law_words_are"), key := PySem.Value.str (PySem.Str.ofString "_law_words_are") 593, val := PySem.Value.ref 319 }, { hash := PySem.PyData.keyHash P (PySem.Str.ofString "_law_number"), key := PySem.Value.str (PySem.Str.ofString "_law_number") 600, val := PySem.Value.ref 326 }, { hash := PySem.PyData.keyHash P (PySem.Str.ofString "_law_thing"), key := PySem.Value.str (PySem.Str.ofString "_law_thing") 608, val := PySem.Value.ref 333 }, { hash := PySem.PyData.keyHash P (PySem.Str.ofString "_law_deed"), key := PySem.Value.str (PySem.Str.ofString "_law_deed") 614, val := PySem.Value.ref 338 }, { hash := PySem.PyData.keyHash P (PySem.Str.ofString "_law_walked"), key := PySem.Value.str (PySem.Str.ofString "_law_walked") 620, val := PySem.Value.ref 343 }, { hash := PySem.PyData.keyHash P (PySem.Str.ofString "_law_same"), key := PySem.Value.str (PySem.Str.ofString "_law_same") 630, val := PySem.Value.ref 350 }, { hash := PySem.PyData.keyHash P (PySem.Str.ofString "law"), key := PySem.Value.str (PySem.Str.ofString "law") 636, val := PySem.Value.ref 355 }] 46 }),
  (93, { cls := PySem.Value.type "code", data := PySem.Data.fields #[PySem.Value.str (PySem.Str.ofString "number_word") 289, PySem.Value.str (PySem.Str.ofString "number_word") 290, PySem.Value.str (PySem.Str.ofString "/claim/cut.py") 291, PySem.Value.int 15 0, PySem.Value.int 1 0, PySem.Value.int 0 0, PySem.Value.int 0 0, PySem.Value.int 3 0, PySem.Value.ref 88, PySem.Value.bool true, PySem.Value.int 181 0, PySem.Value.ref 89, PySem.Value.none, PySem.Value.ref 90, PySem.Value.ref 91, PySem.Value.ref 92, PySem.Value.int 293 0, PySem.Value.int 15 0, PySem.Value.str (PySem.Str.ofString "/claim/cut.py") 294] }),
  (94, { cls := PySem.Value.type "function", data := PySem.Data.func { name := PySem.Str.ofString "number_word", qualname := PySem.Str.ofString "number_word", params := (dP 8), body := .stmts (dB 8), scope := (dS 8), globals := 3, closure := [], defaults := PySem.Value.none, kwdefaults := PySem.Value.none, pyModule := PySem.Value.str (PySem.Str.ofString "threadslide.words") 287, code := PySem.Value.ref 93 } }),
  (100, { cls := PySem.Value.type "code", data := PySem.Data.fields #[PySem.Value.str (PySem.Str.ofString "link_word") 296, PySem.Value.str (PySem.Str.ofString "link_word") 297, PySem.Value.str (PySem.Str.ofString "/claim/cut.py") 298, PySem.Value.int 17 0, PySem.Value.int 1 0, PySem.Value.int 0 0, PySem.Value.int 0 0, PySem.Value.int 3 0, PySem.Value.ref 95, PySem.Value.bool true, PySem.Value.int 181 0, PySem.Value.ref 96, PySem.Value.none, PySem.Value.ref 97, PySem.Value.ref 98, PySem.Value.ref 99, PySem.Value.int 300 0, PySem.Value.int 17 0, PySem.Value.str (PySem.Str.ofString "/claim/cut.py") 301] }),
  (101, { cls := PySem.Value.type "function", data := PySem.Data.func { name := PySem.Str.ofString "link_word", qualname := PySem.Str.ofString "link_word", params := (dP 9), body := .stmts (dB 9), scope := (dS 9), globals := 3, closure := [], defaults := PySem.Value.none, kwdefaults := PySem.Value.none, pyModule := PySem.Value.str (PySem.Str.ofString "threadslide.words") 287, code := PySem.Value.ref 100 } }),
  (107, { cls := PySem.Value.type "code", data := PySem.Data.fields #[PySem.Value.str (PySem.Str.ofString "head_word") 303, PySem.Value.str (PySem.Str.ofString "head_word") 304, PySem.Value.str (PySem.Str.ofString "/claim/cut.py") 305, PySem.Value.int 19 0, PySem.Value.int 2 0, PySem.Value.int 0 0, PySem.Value.int 0 0, PySem.Value.int 3 0, PySem.Value.ref 102, PySem.Value.bool true, PySem.Value.int 181 0, PySem.Value.ref 103, PySem.Value.none, PySem.Value.ref 104, PySem.Value.ref 105, PySem.Value.ref 106, PySem.Value.int 308 0, PySem.Value.int 19 0, PySem.Value.str (PySem.Str.ofString "/claim/cut.py") 309] }),
  (108, { cls := PySem.Value.type "function", data := PySem.Data.func { name := PySem.Str.ofString "head_word", qualname := PySem.Str.ofString "head_word", params := (dP 10), body := .stmts (dB 10), scope := (dS 10), globals := 3, closure := [], defaults := PySem.Value.none, kwdefaults := PySem.Value.none, pyModule := PySem.Value.str (PySem.Str.ofString "threadslide.words") 287, code := PySem.Value.ref 107 } }),
  (114, { cls := PySem.Value.type "code", data := PySem.Data.fields #[PySem.Value.str (PySem.Str.ofString "is_link") 311, PySem.Value.str (PySem.Str.ofString "is_link") 312, PySem.Value.str (PySem.Str.ofString "/claim/cut.py") 313, PySem.Value.int 23 0, PySem.Value.int 1 0, PySem.Value.int 0 0, PySem.Value.int 0 0, PySem.Value.int 3 0, PySem.Value.ref 109, PySem.Value.bool true, PySem.Value.int 181 0, PySem.Value.ref 110, PySem.Value.none, PySem.Value.ref 111, PySem.Value.ref 112, PySem.Value.ref 113, PySem.Value.int 315 0, PySem.Value.int 23 0, PySem.Value.str (PySem.Str.ofString "/claim/cut.py") 316] }),
  (115, { cls := PySem.Value.type "function", data := PySem.Data.func { name := PySem.Str.ofString "is_link", qualname := PySem.Str.ofString "is_link", params := (dP 11), body := .stmts (dB 11), scope := (dS 11), globals := 3, closure := [], defaults := PySem.Value.none, kwdefaults := PySem.Value.none, pyModule := PySem.Value.str (PySem.Str.ofString "threadslide.words") 287, code := PySem.Value.ref 114 } }),
  (121, { cls := PySem.Value.type "code", data := PySem.Data.fields #[PySem.Value.str (PySem.Str.ofString "told_by") 318, PySem.Value.str (PySem.Str.ofString "told_by") 319, PySem.Value.str (PySem.Str.ofString "/claim/cut.py") 320, PySem.Value.int 25 0, PySem.Value.int 1 0, PySem.Value.int 0 0, PySem.Value.int 0 0, PySem.Value.int 3 0, PySem.Value.ref 116, PySem.Value.bool true, PySem.Value.int 181 0, PySem.Value.ref 117, PySem.Value.none, PySem.Value.ref 118, PySem.Value.ref 119, PySem.Value.ref 120, PySem.Value.int 322 0, PySem.Value.int 25 0, PySem.Value.str (PySem.Str.ofString "/claim/cut.py") 323] }),
  (122, { cls := PySem.Value.type "function", data := PySem.Data.func { name := PySem.Str.ofString "told_by", qualname := PySem.Str.ofString "told_by", params := (dP 12), body := .stmts (dB 12), scope := (dS 12), globals := 3, closure := [], defaults := PySem.Value.none, kwdefaults := PySem.Value.none, pyModule := PySem.Value.str (PySem.Str.ofString "threadslide.words") 287, code := PySem.Value.ref 121 } }),
  (128, { cls := PySem.Value.type "code", data := PySem.Data.fields #[PySem.Value.str (PySem.Str.ofString "fields_of") 325, PySem.Value.str (PySem.Str.ofString "fields_of") 326, PySem.Value.str (PySem.Str.ofString "/claim/cut.py") 327, PySem.Value.int 27 0, PySem.Value.int 1 0, PySem.Value.int 0 0, PySem.Value.int 0 0, PySem.Value.int 3 0, PySem.Value.ref 123, PySem.Value.bool true, PySem.Value.int 181 0, PySem.Value.ref 124, PySem.Value.none, PySem.Value.ref 125, PySem.Value.ref 126, PySem.Value.ref 127, PySem.Value.int 329 0, PySem.Value.int 27 0, PySem.Value.str (PySem.Str.ofString "/claim/cut.py") 330] }),
  (129, { cls := PySem.Value.type "function", data := PySem.Data.func { name := PySem.Str.ofString "fields_of", qualname := PySem.Str.ofString "fields_of", params := (dP 13), body := .stmts (dB 13), scope := (dS 13), globals := 3, closure := [], defaults := PySem.Value.none, kwdefaults := PySem.Value.none, pyModule := PySem.Value.str (PySem.Str.ofString "threadslide.words") 287, code := PySem.Value.ref 128 } }),
  (135, { cls := PySem.Value.type "code", data := PySem.Data.fields #[PySem.Value.str (PySem.Str.ofString "is_marked") 332, PySem.Value.str (PySem.Str.ofString "is_marked") 333, PySem.Value.str (PySem.Str.ofString "/claim/cut.py") 334, PySem.Value.int 29 0, PySem.Value.int 1 0, PySem.Value.int 0 0, PySem.Value.int 0 0, PySem.Value.int 3 0, PySem.Value.ref 130, PySem.Value.bool true, PySem.Value.int 181 0, PySem.Value.ref 131, PySem.Value.none, PySem.Value.ref 132, PySem.Value.ref 133, PySem.Value.ref 134, PySem.Value.int 336 0, PySem.Value.int 29 0, PySem.Value.str (PySem.Str.ofString "/claim/cut.py") 337] }),
  (136, { cls := PySem.Value.type "function", data := PySem.Data.func { name := PySem.Str.ofString "is_marked", qualname := PySem.Str.ofString "is_marked", params := (dP 14), body := .stmts (dB 14), scope := (dS 14), globals := 3, closure := [], defaults := PySem.Value.none, kwdefaults := PySem.Value.none, pyModule := PySem.Value.str (PySem.Str.ofString "threadslide.words") 287, code := PySem.Value.ref 135 } }),
  (142, { cls := PySem.Value.type "code", data := PySem.Data.fields #[PySem.Value.str (PySem.Str.ofString "hung") 341, PySem.Value.str (PySem.Str.ofString "hung") 342, PySem.Value.str (PySem.Str.ofString "/claim/cut.py") 343, PySem.Value.int 32 0, PySem.Value.int 2 0, PySem.Value.int 0 0, PySem.Value.int 0 0, PySem.Value.int 3 0, PySem.Value.ref 137, PySem.Value.bool true, PySem.Value.int 181 0, PySem.Value.ref 138, PySem.Value.none, PySem.Value.ref 139, PySem.Value.ref 140, PySem.Value.ref 141, PySem.Value.int 348 0, PySem.Value.int 32 0, PySem.Value.str (PySem.Str.ofString "/claim/cut.py") 349] }),
  (143, { cls := PySem.Value.type "function", data := PySem.Data.func { name := PySem.Str.ofString "hung", qualname := PySem.Str.ofString "hung", params := (dP 16), body := .stmts (dB 16), scope := (dS 16), globals := 3, closure := [], defaults := PySem.Value.none, kwdefaults := PySem.Value.none, pyModule := PySem.Value.str (PySem.Str.ofString "threadslide.chains") 339, code := PySem.Value.ref 142 } }),
  (149, { cls := PySem.Value.type "code", data := PySem.Data.fields #[PySem.Value.str (PySem.Str.ofString "led") 351, PySem.Value.str (PySem.Str.ofString "led") 352, PySem.Value.str (PySem.Str.ofString "/claim/cut.py") 353, PySem.Value.int 38 0, PySem.Value.int 3 0, PySem.Value.int 0 0, PySem.Value.int 0 0, PySem.Value.int 3 0, PySem.Value.ref 144, PySem.Value.bool true, PySem.Value.int 181 0, PySem.Value.ref 145, PySem.Value.none, PySem.Value.ref 146, PySem.Value.ref 147, PySem.Value.ref 148, PySem.Value.int 360 0, PySem.Value.int 38 0, PySem.Value.str (PySem.Str.ofString "/claim/cut.py") 361] }),
  (150, { cls := PySem.Value.type "function", data := PySem.Data.func { name := PySem.Str.ofString "led", qualname := PySem.Str.ofString "led", params := (dP 17), body := .stmts (dB 17), scope := (dS 17), globals := 3, closure := [], defaults := PySem.Value.none, kwdefaults := PySem.Value.none, pyModule := PySem.Value.str (PySem.Str.ofString "threadslide.chains") 339, code := PySem.Value.ref 149 } }),
  (156, { cls := PySem.Value.type "code", data := PySem.Data.fields #[PySem.Value.str (PySem.Str.ofString "heads") 365, PySem.Value.str (PySem.Str.ofString "heads") 366, PySem.Value.str (PySem.Str.ofString "/claim/cut.py") 367, PySem.Value.int 48 0, PySem.Value.int 2 0, PySem.Value.int 0 0, PySem.Value.int 0 0, PySem.Value.int 3 0, PySem.Value.ref 151, PySem.Value.bool true, PySem.Value.int 181 0, PySem.Value.ref 152, PySem.Value.none, PySem.Value.ref 153, PySem.Value.ref 154, PySem.Value.ref 155, PySem.Value.int 372 0, PySem.Value.int 48 0, PySem.Value.str (PySem.Str.ofString "/claim/cut.py") 373] }),
  (157, { cls := PySem.Value.type "function", data := PySem.Data.func { name := PySem.Str.ofString "heads", qualname := PySem.Str.ofString "heads", params := (dP 19), body := .stmts (dB 19), scope := (dS 19), globals := 3, closure := [], defaults := PySem.Value.none, kwdefaults := PySem.Value.none, pyModule := PySem.Value.str (PySem.Str.ofString "threadslide.sliding") 363, code := PySem.Value.ref 156 } }),
  (163, { cls := PySem.Value.type "code", data := PySem.Data.fields #[PySem.Value.str (PySem.Str.ofString "with_mark") 375, PySem.Value.str (PySem.Str.ofString "with_mark") 376, PySem.Value.str (PySem.Str.ofString "/claim/cut.py") 377, PySem.Value.int 55 0, PySem.Value.int 2 0, PySem.Value.int 0 0, PySem.Value.int 0 0, PySem.Value.int 3 0, PySem.Value.ref 158, PySem.Value.bool true, PySem.Value.int 181 0, PySem.Value.ref 159, PySem.Value.none, PySem.Value.ref 160, PySem.Value.ref 161, PySem.Value.ref 162, PySem.Value.int 381 0, PySem.Value.int 55 0, PySem.Value.str (PySem.Str.ofString "/claim/cut.py") 382] }),
  (164, { cls := PySem.Value.type "function", data := PySem.Data.func { name := PySem.Str.ofString "with_mark", qualname := PySem.Str.ofString "with_mark", params := (dP 20), body := .stmts (dB 20), scope := (dS 20), globals := 3, closure := [], defaults := PySem.Value.none, kwdefaults := PySem.Value.none, pyModule := PySem.Value.str (PySem.Str.ofString "threadslide.sliding") 363, code := PySem.Value.ref 163 } }),
  (170, { cls := PySem.Value.type "code", data := PySem.Data.fields #[PySem.Value.str (PySem.Str.ofString "marked") 384, PySem.Value.str (PySem.Str.ofString "marked") 385, PySem.Value.str (PySem.Str.ofString "/claim/cut.py") 386, PySem.Value.int 59 0, PySem.Value.int 2 0, PySem.Value.int 0 0, PySem.Value.int 0 0, PySem.Value.int 3 0, PySem.Value.ref 165, PySem.Value.bool true, PySem.Value.int 181 0, PySem.Value.ref 166, PySem.Value.none, PySem.Value.ref 167, PySem.Value.ref 168, PySem.Value.ref 169, PySem.Value.int 393 0, PySem.Value.int 59 0, PySem.Value.str (PySem.Str.ofString "/claim/cut.py") 394] }),
  (171, { cls := PySem.Value.type "function", data := PySem.Data.func { name := PySem.Str.ofString "marked", qualname := PySem.Str.ofString "marked", params := (dP 21), body := .stmts (dB 21), scope := (dS 21), globals := 3, closure := [], defaults := PySem.Value.none, kwdefaults := PySem.Value.none, pyModule := PySem.Value.str (PySem.Str.ofString "threadslide.sliding") 363, code := PySem.Value.ref 170 } }),
  (177, { cls := PySem.Value.type "code", data := PySem.Data.fields #[PySem.Value.str (PySem.Str.ofString "threaded") 396, PySem.Value.str (PySem.Str.ofString "threaded") 397, PySem.Value.str (PySem.Str.ofString "/claim/cut.py") 398, PySem.Value.int 69 0, PySem.Value.int 2 0, PySem.Value.int 0 0, PySem.Value.int 0 0, PySem.Value.int 3 0, PySem.Value.ref 172, PySem.Value.bool true, PySem.Value.int 181 0, PySem.Value.ref 173, PySem.Value.none, PySem.Value.ref 174, PySem.Value.ref 175, PySem.Value.ref 176, PySem.Value.int 405 0, PySem.Value.int 69 0, PySem.Value.str (PySem.Str.ofString "/claim/cut.py") 406] }),
  (178, { cls := PySem.Value.type "function", data := PySem.Data.func { name := PySem.Str.ofString "threaded", qualname := PySem.Str.ofString "threaded", params := (dP 22), body := .stmts (dB 22), scope := (dS 22), globals := 3, closure := [], defaults := PySem.Value.none, kwdefaults := PySem.Value.none, pyModule := PySem.Value.str (PySem.Str.ofString "threadslide.sliding") 363, code := PySem.Value.ref 177 } }),
  (184, { cls := PySem.Value.type "code", data := PySem.Data.fields #[PySem.Value.str (PySem.Str.ofString "moved") 408, PySem.Value.str (PySem.Str.ofString "moved") 409, PySem.Value.str (PySem.Str.ofString "/claim/cut.py") 410, PySem.Value.int 82 0, PySem.Value.int 4 0, PySem.Value.int 0 0, PySem.Value.int 0 0, PySem.Value.int 3 0, PySem.Value.ref 179, PySem.Value.bool true, PySem.Value.int 181 0, PySem.Value.ref 180, PySem.Value.none, PySem.Value.ref 181, PySem.Value.ref 182, PySem.Value.ref 183, PySem.Value.int 417 0, PySem.Value.int 82 0, PySem.Value.str (PySem.Str.ofString "/claim/cut.py") 418] }),
  (185, { cls := PySem.Value.type "function", data := PySem.Data.func { name := PySem.Str.ofString "moved", qualname := PySem.Str.ofString "moved", params := (dP 23), body := .stmts (dB 23), scope := (dS 23), globals := 3, closure := [], defaults := PySem.Value.none, kwdefaults := PySem.Value.none, pyModule := PySem.Value.str (PySem.Str.ofString "threadslide.sliding") 363, code := PySem.Value.ref 184 } }),
  (191, { cls := PySem.Value.type "code", data := PySem.Data.fields #[PySem.Value.str (PySem.Str.ofString "pushed") 420, PySem.Value.str (PySem.Str.ofString "pushed") 421, PySem.Value.str (PySem.Str.ofString "/claim/cut.py") 422, PySem.Value.int 88 0, PySem.Value.int 2 0, PySem.Value.int 0 0, PySem.Value.int 0 0, PySem.Value.int 3 0, PySem.Value.ref 186, PySem.Value.bool true, PySem.Value.int 181 0, PySem.Value.ref 187, PySem.Value.none, PySem.Value.ref 188, PySem.Value.ref 189, PySem.Value.ref 190, PySem.Value.int 428 0, PySem.Value.int 88 0, PySem.Value.str (PySem.Str.ofString "/claim/cut.py") 429] }),
  (192, { cls := PySem.Value.type "function", data := PySem.Data.func { name := PySem.Str.ofString "pushed", qualname := PySem.Str.ofString "pushed", params := (dP 24), body := .stmts (dB 24), scope := (dS 24), globals := 3, closure := [], defaults := PySem.Value.none, kwdefaults := PySem.Value.none, pyModule := PySem.Value.str (PySem.Str.ofString "threadslide.sliding") 363, code := PySem.Value.ref 191 } }),
  (198, { cls := PySem.Value.type "code", data := PySem.Data.fields #[PySem.Value.str (PySem.Str.ofString "is_whole") 438, PySem.Value.str (PySem.Str.ofString "is_whole") 439, PySem.Value.str (PySem.Str.ofString "/claim/cut.py") 440, PySem.Value.int 104 0, PySem.Value.int 1 0, PySem.Value.int 0 0, PySem.Value.int 0 0, PySem.Value.int 3 0, PySem.Value.ref 193, PySem.Value.bool true, PySem.Value.int 181 0, PySem.Value.ref 194, PySem.Value.none, PySem.Value.ref 195, PySem.Value.ref 196, PySem.Value.ref 197, PySem.Value.int 442 0, PySem.Value.int 104 0, PySem.Value.str (PySem.Str.ofString "/claim/cut.py") 443] }),
  (199, { cls := PySem.Value.type "function", data := PySem.Data.func { name := PySem.Str.ofString "is_whole", qualname := PySem.Str.ofString "is_whole", params := (dP 29), body := .stmts (dB 29), scope := (dS 29), globals := 3, closure := [], defaults := PySem.Value.none, kwdefaults := PySem.Value.none, pyModule := PySem.Value.str (PySem.Str.ofString "threadslide.rooms") 432, code := PySem.Value.ref 198 } }),
  (205, { cls := PySem.Value.type "code", data := PySem.Data.fields #[PySem.Value.str (PySem.Str.ofString "need_things") 445, PySem.Value.str (PySem.Str.ofString "need_things") 446, PySem.Value.str (PySem.Str.ofString "/claim/cut.py") 447, PySem.Value.int 106 0, PySem.Value.int 1 0, PySem.Value.int 0 0, PySem.Value.int 0 0, PySem.Value.int 3 0, PySem.Value.ref 200, PySem.Value.bool true, PySem.Value.int 181 0, PySem.Value.ref 201, PySem.Value.none, PySem.Value.ref 202, PySem.Value.ref 203, PySem.Value.ref 204, PySem.Value.int 450 0, PySem.Value.int 106 0, PySem.Value.str (PySem.Str.ofString "/claim/cut.py") 451] }),
  (206, { cls := PySem.Value.type "function", data := PySem.Data.func { name := PySem.Str.ofString "need_things", qualname := PySem.Str.ofString "need_things", params := (dP 30), body := .stmts (dB 30), scope := (dS 30), globals := 3, closure := [], defaults := PySem.Value.none, kwdefaults := PySem.Value.none, pyModule := PySem.Value.str (PySem.Str.ofString "threadslide.rooms") 432, code := PySem.Value.ref 205 } }),
  (212, { cls := PySem.Value.type "code", data := PySem.Data.fields #[PySem.Value.str (PySem.Str.ofString "word_of") 453, PySem.Value.str (PySem.Str.ofString "word_of") 454, PySem.Value.str (PySem.Str.ofString "/claim/cut.py") 455, PySem.Value.int 112 0, PySem.Value.int 1 0, PySem.Value.int 0 0, PySem.Value.int 0 0, PySem.Value.int 3 0, PySem.Value.ref 207, PySem.Value.bool true, PySem.Value.int 181 0, PySem.Value.ref 208, PySem.Value.none, PySem.Value.ref 209, PySem.Value.ref 210, PySem.Value.ref 211, PySem.Value.int 457 0, PySem.Value.int 112 0, PySem.Value.str (PySem.Str.ofString "/claim/cut.py") 458] }),
  (213, { cls := PySem.Value.type "function", data := PySem.Data.func { name := PySem.Str.ofString "word_of", qualname := PySem.Str.ofString "word_of", params := (dP 31), body := .stmts (dB 31), scope := (dS 31), globals := 3, closure := [], defaults := PySem.Value.none, kwdefaults := PySem.Value.none, pyModule := PySem.Value.str (PySem.Str.ofString "threadslide.rooms") 432, code := PySem.Value.ref 212 } }),
  (226, { cls := PySem.Value.type "code", data := PySem.Data.fields #[PySem.Value.str (PySem.Str.ofString "__init__") 472, PySem.Value.str (PySem.Str.ofString "Room.__init__") 473, PySem.Value.str (PySem.Str.ofString "/claim/cut.py") 474, PySem.Value.int 118 0, PySem.Value.int 3 0, PySem.Value.int 0 0, PySem.Value.int 0 0, PySem.Value.int 3 0, PySem.Value.ref 221, PySem.Value.bool true, PySem.Value.int 181 0, PySem.Value.ref 222, PySem.Value.none, PySem.Value.ref 223, PySem.Value.ref 224, PySem.Value.ref 225, PySem.Value.int 478 0, PySem.Value.int 118 0, PySem.Value.str (PySem.Str.ofString "/claim/cut.py") 479] }),
  (227, { cls := PySem.Value.type "function", data := PySem.Data.func { name := PySem.Str.ofString "__init__", qualname := PySem.Str.ofString "Room.__init__", params := (dPm 0), body := .stmts (dBm 0), scope := (dSm 0), globals := 3, closure := [], defaults := PySem.Value.none, kwdefaults := PySem.Value.none, pyModule := PySem.Value.str (PySem.Str.ofString "threadslide.rooms") 432, code := PySem.Value.ref 226 } }),
  (233, { cls := PySem.Value.type "code", data := PySem.Data.fields #[PySem.Value.str (PySem.Str.ofString "need_boxes") 481, PySem.Value.str (PySem.Str.ofString "Room.need_boxes") 482, PySem.Value.str (PySem.Str.ofString "/claim/cut.py") 483, PySem.Value.int 126 0, PySem.Value.int 2 0, PySem.Value.int 0 0, PySem.Value.int 0 0, PySem.Value.int 3 0, PySem.Value.ref 228, PySem.Value.bool true, PySem.Value.int 181 0, PySem.Value.ref 229, PySem.Value.none, PySem.Value.ref 230, PySem.Value.ref 231, PySem.Value.ref 232, PySem.Value.int 488 0, PySem.Value.int 126 0, PySem.Value.str (PySem.Str.ofString "/claim/cut.py") 489] }),
  (234, { cls := PySem.Value.type "function", data := PySem.Data.func { name := PySem.Str.ofString "need_boxes", qualname := PySem.Str.ofString "Room.need_boxes", params := (dPm 1), body := .stmts (dBm 1), scope := (dSm 1), globals := 3, closure := [], defaults := PySem.Value.none, kwdefaults := PySem.Value.none, pyModule := PySem.Value.str (PySem.Str.ofString "threadslide.rooms") 432, code := PySem.Value.ref 233 } }),
  (240, { cls := PySem.Value.type "code", data := PySem.Data.fields #[PySem.Value.str (PySem.Str.ofString "need_box") 491, PySem.Value.str (PySem.Str.ofString "Room.need_box") 492, PySem.Value.str (PySem.Str.ofString "/claim/cut.py") 493, PySem.Value.int 132 0, PySem.Value.int 2 0, PySem.Value.int 0 0, PySem.Value.int 0 0, PySem.Value.int 3 0, PySem.Value.ref 235, PySem.Value.bool true, PySem.Value.int 181 0, PySem.Value.ref 236, PySem.Value.none, PySem.Value.ref 237, PySem.Value.ref 238, PySem.Value.ref 239, PySem.Value.int 496 0, PySem.Value.int 132 0, PySem.Value.str (PySem.Str.ofString "/claim/cut.py") 497] }),
  (241, { cls := PySem.Value.type "function", data := PySem.Data.func { name := PySem.Str.ofString "need_box", qualname := PySem.Str.ofString "Room.need_box", params := (dPm 2), body := .stmts (dBm 2), scope := (dSm 2), globals := 3, closure := [], defaults := PySem.Value.none, kwdefaults := PySem.Value.none, pyModule := PySem.Value.str (PySem.Str.ofString "threadslide.rooms") 432, code := PySem.Value.ref 240 } }),
  (245, { cls := PySem.Value.type "code", data := PySem.Data.fields #[PySem.Value.str (PySem.Str.ofString "made") 499, PySem.Value.str (PySem.Str.ofString "Room.made") 500, PySem.Value.str (PySem.Str.ofString "/claim/cut.py") 501, PySem.Value.int 136 0, PySem.Value.int 2 0, PySem.Value.int 0 0, PySem.Value.int 0 0, PySem.Value.int 3 0, PySem.Value.ref 242, PySem.Value.bool true, PySem.Value.int 181 0, PySem.Value.ref 243, PySem.Value.none, PySem.Value.none, PySem.Value.none, PySem.Value.ref 244, PySem.Value.int 502 0, PySem.Value.int 136 0, PySem.Value.str (PySem.Str.ofString "/claim/cut.py") 503] }),
  (246, { cls := PySem.Value.type "function", data := PySem.Data.func { name := PySem.Str.ofString "made", qualname := PySem.Str.ofString "Room.made", params := (dPm 3), body := .stmts (dBm 3), scope := (dSm 3), globals := 3, closure := [], defaults := PySem.Value.none, kwdefaults := PySem.Value.none, pyModule := PySem.Value.str (PySem.Str.ofString "threadslide.rooms") 432, code := PySem.Value.ref 245 } }),
  (252, { cls := PySem.Value.type "code", data := PySem.Data.fields #[PySem.Value.str (PySem.Str.ofString "put") 505, PySem.Value.str (PySem.Str.ofString "Room.put") 506, PySem.Value.str (PySem.Str.ofString "/claim/cut.py") 507, PySem.Value.int 148 0, PySem.Value.int 4 0, PySem.Value.int 0 0, PySem.Value.int 0 0, PySem.Value.int 3 0, PySem.Value.ref 247, PySem.Value.bool true, PySem.Value.int 181 0, PySem.Value.ref 248, PySem.Value.none, PySem.Value.ref 249, PySem.Value.ref 250, PySem.Value.ref 251, PySem.Value.int 512 0, PySem.Value.int 148 0, PySem.Value.str (PySem.Str.ofString "/claim/cut.py") 513] }),
  (253, { cls := PySem.Value.type "function", data := PySem.Data.func { name := PySem.Str.ofString "put", qualname := PySem.Str.ofString "Room.put", params := (dPm 4), body := .stmts (dBm 4), scope := (dSm 4), globals := 3, closure := [], defaults := PySem.Value.none, kwdefaults := PySem.Value.none, pyModule := PySem.Value.str (PySem.Str.ofString "threadslide.rooms") 432, code := PySem.Value.ref 252 } }),
  (259, { cls := PySem.Value.type "code", data := PySem.Data.fields #[PySem.Value.str (PySem.Str.ofString "told") 515, PySem.Value.str (PySem.Str.ofString "Room.told") 516, PySem.Value.str (PySem.Str.ofString "/claim/cut.py") 517, PySem.Value.int 156 0, PySem.Value.int 2 0, PySem.Value.int 0 0, PySem.Value.int 0 0, PySem.Value.int 3 0, PySem.Value.ref 254, PySem.Value.bool true, PySem.Value.int 181 0, PySem.Value.ref 255, PySem.Value.none, PySem.Value.ref 256, PySem.Value.ref 257, PySem.Value.ref 258, PySem.Value.int 522 0, PySem.Value.int 156 0, PySem.Value.str (PySem.Str.ofString "/claim/cut.py") 523] }),
  (260, { cls := PySem.Value.type "function", data := PySem.Data.func { name := PySem.Str.ofString "told", qualname := PySem.Str.ofString "Room.told", params := (dPm 5), body := .stmts (dBm 5), scope := (dSm 5), globals := 3, closure := [], defaults := PySem.Value.none, kwdefaults := PySem.Value.none, pyModule := PySem.Value.str (PySem.Str.ofString "threadslide.rooms") 432, code := PySem.Value.ref 259 } }),
  (266, { cls := PySem.Value.type "code", data := PySem.Data.fields #[PySem.Value.str (PySem.Str.ofString "places") 525, PySem.Value.str (PySem.Str.ofString "Room.places") 526, PySem.Value.str (PySem.Str.ofString "/claim/cut.py") 527, PySem.Value.int 166 0, PySem.Value.int 1 0, PySem.Value.int 0 0, PySem.Value.int 0 0, PySem.Value.int 3 0, PySem.Value.ref 261, PySem.Value.bool true, PySem.Value.int 181 0, PySem.Value.ref 262, PySem.Value.none, PySem.Value.ref 263, PySem.Value.ref 264, PySem.Value.ref 265, PySem.Value.int 529 0, PySem.Value.int 166 0, PySem.Value.str (PySem.Str.ofString "/claim/cut.py") 530] }),
  (267, { cls := PySem.Value.type "function", data := PySem.Data.func { name := PySem.Str.ofString "places", qualname := PySem.Str.ofString "Room.places", params := (dPm 6), body := .stmts (dBm 6), scope := (dSm 6), globals := 3, closure := [], defaults := PySem.Value.none, kwdefaults := PySem.Value.none, pyModule := PySem.Value.str (PySem.Str.ofString "threadslide.rooms") 432, code := PySem.Value.ref 266 } }),
  (271, { cls := PySem.Value.type "code", data := PySem.Data.fields #[PySem.Value.str (PySem.Str.ofString "come_to") 532, PySem.Value.str (PySem.Str.ofString "Room.come_to") 533, PySem.Value.str (PySem.Str.ofString "/claim/cut.py") 534, PySem.Value.int 169 0, PySem.Value.int 1 0, PySem.Value.int 0 0, PySem.Value.int 0 0, PySem.Value.int 3 0, PySem.Value.ref 268, PySem.Value.bool true, PySem.Value.int 181 0, PySem.Value.ref 269, PySem.Value.none, PySem.Value.none, PySem.Value.none, PySem.Value.ref 270, PySem.Value.int 535 0, PySem.Value.int 169 0, PySem.Value.str (PySem.Str.ofString "/claim/cut.py") 536] }),
  (272, { cls := PySem.Value.type "function", data := PySem.Data.func { name := PySem.Str.ofString "come_to", qualname := PySem.Str.ofString "Room.come_to", params := (dPm 7), body := .stmts (dBm 7), scope := (dSm 7), globals := 3, closure := [], defaults := PySem.Value.none, kwdefaults := PySem.Value.none, pyModule := PySem.Value.str (PySem.Str.ofString "threadslide.rooms") 432, code := PySem.Value.ref 271 } }),
  (278, { cls := PySem.Value.type "code", data := PySem.Data.fields #[PySem.Value.str (PySem.Str.ofString "pushed") 538, PySem.Value.str (PySem.Str.ofString "Room.pushed") 539, PySem.Value.str (PySem.Str.ofString "/claim/cut.py") 540, PySem.Value.int 173 0, PySem.Value.int 1 0, PySem.Value.int 0 0, PySem.Value.int 0 0, PySem.Value.int 3 0, PySem.Value.ref 273, PySem.Value.bool true, PySem.Value.int 181 0, PySem.Value.ref 274, PySem.Value.none, PySem.Value.ref 275, PySem.Value.ref 276, PySem.Value.ref 277, PySem.Value.int 544 0, PySem.Value.int 173 0, PySem.Value.str (PySem.Str.ofString "/claim/cut.py") 545] }),
  (279, { cls := PySem.Value.type "function", data := PySem.Data.func { name := PySem.Str.ofString "pushed", qualname := PySem.Str.ofString "Room.pushed", params := (dPm 8), body := .stmts (dBm 8), scope := (dSm 8), globals := 3, closure := [], defaults := PySem.Value.none, kwdefaults := PySem.Value.none, pyModule := PySem.Value.str (PySem.Str.ofString "threadslide.rooms") 432, code := PySem.Value.ref 278 } }),
  (285, { cls := PySem.Value.type "code", data := PySem.Data.fields #[PySem.Value.str (PySem.Str.ofString "used") 547, PySem.Value.str (PySem.Str.ofString "Room.used") 548, PySem.Value.str (PySem.Str.ofString "/claim/cut.py") 549, PySem.Value.int 180 0, PySem.Value.int 1 0, PySem.Value.int 0 0, PySem.Value.int 0 0, PySem.Value.int 3 0, PySem.Value.ref 280, PySem.Value.bool true, PySem.Value.int 181 0, PySem.Value.ref 281, PySem.Value.none, PySem.Value.ref 282, PySem.Value.ref 283, PySem.Value.ref 284, PySem.Value.int 551 0, PySem.Value.int 180 0, PySem.Value.str (PySem.Str.ofString "/claim/cut.py") 552] }),
  (286, { cls := PySem.Value.type "function", data := PySem.Data.func { name := PySem.Str.ofString "used", qualname := PySem.Str.ofString "Room.used", params := (dPm 9), body := .stmts (dBm 9), scope := (dSm 9), globals := 3, closure := [], defaults := PySem.Value.none, kwdefaults := PySem.Value.none, pyModule := PySem.Value.str (PySem.Str.ofString "threadslide.rooms") 432, code := PySem.Value.ref 285 } }),
  (292, { cls := PySem.Value.type "code", data := PySem.Data.fields #[PySem.Value.str (PySem.Str.ofString "cells") 554, PySem.Value.str (PySem.Str.ofString "Room.cells") 555, PySem.Value.str (PySem.Str.ofString "/claim/cut.py") 556, PySem.Value.int 183 0, PySem.Value.int 1 0, PySem.Value.int 0 0, PySem.Value.int 0 0, PySem.Value.int 3 0, PySem.Value.ref 287, PySem.Value.bool true, PySem.Value.int 181 0, PySem.Value.ref 288, PySem.Value.none, PySem.Value.ref 289, PySem.Value.ref 290, PySem.Value.ref 291, PySem.Value.int 558 0, PySem.Value.int 183 0, PySem.Value.str (PySem.Str.ofString "/claim/cut.py") 559] }),
  (293, { cls := PySem.Value.type "function", data := PySem.Data.func { name := PySem.Str.ofString "cells", qualname := PySem.Str.ofString "Room.cells", params := (dPm 10), body := .stmts (dBm 10), scope := (dSm 10), globals := 3, closure := [], defaults := PySem.Value.none, kwdefaults := PySem.Value.none, pyModule := PySem.Value.str (PySem.Str.ofString "threadslide.rooms") 432, code := PySem.Value.ref 292 } }),
  (294, { cls := PySem.Value.type "tuple", data := PySem.Data.seq #[PySem.Value.str (PySem.Str.ofString "filled") 561, PySem.Value.str (PySem.Str.ofString "row") 562] }),
  (295, { cls := PySem.Value.type "dict", data := PySem.Data.dict #[{ hash := PySem.PyData.keyHash P (PySem.Str.ofString "__module__"), key := PySem.Value.str (PySem.Str.ofString "__module__") 467, val := PySem.Value.str (PySem.Str.ofString "threadslide.rooms") 432 }, { hash := PySem.PyData.keyHash P (PySem.Str.ofString "__firstlineno__"), key := PySem.Value.str (PySem.Str.ofString "__firstlineno__") 471, val := PySem.Value.int 116 470 }, { hash := PySem.PyData.keyHash P (PySem.Str.ofString "__init__"), key := PySem.Value.str (PySem.Str.ofString "__init__") 480, val := PySem.Value.ref 227 }, { hash := PySem.PyData.keyHash P (PySem.Str.ofString "need_boxes"), key := PySem.Value.str (PySem.Str.ofString "need_boxes") 490, val := PySem.Value.ref 234 }, { hash := PySem.PyData.keyHash P (PySem.Str.ofString "need_box"), key := PySem.Value.str (PySem.Str.ofString "need_box") 498, val := PySem.Value.ref 241 }, { hash := PySem.PyData.keyHash P (PySem.Str.ofString "made"), key := PySem.Value.str (PySem.Str.ofString "made") 504, val := PySem.Value.ref 246 }, { hash := PySem.PyData.keyHash P (PySem.Str.ofString "put"), key := PySem.Value.str (PySem.Str.ofString "put") 514, val := PySem.Value.ref 253 }, { hash := PySem.PyData.keyHash P (PySem.Str.ofString "told"), key := PySem.Value.str (PySem.Str.ofString "told") 524, val := PySem.Value.ref 260 }, { hash := PySem.PyData.keyHash P (PySem.Str.ofString "places"), key := PySem.Value.str (PySem.Str.ofString "places") 531, val := PySem.Value.ref 267 }, { hash := PySem.PyData.keyHash P (PySem.Str.ofString "come_to"), key := PySem.Value.str (PySem.Str.ofString "come_to") 537, val := PySem.Value.ref 272 }, { hash := PySem.PyData.keyHash P (PySem.Str.ofString "pushed"), key := PySem.Value.str (PySem.Str.ofString "pushed") 546, val := PySem.Value.ref 279 }, { hash := PySem.PyData.keyHash P (PySem.Str.ofString "used"), key := PySem.Value.str (PySem.Str.ofString "used") 553, val := PySem.Value.ref 286 }, { hash := PySem.PyData.keyHash P (PySem.Str.ofString "cells"), key := PySem.Value.str (PySem.Str.ofString "cells") 560, val := PySem.Value.ref 293 }, { hash := PySem.PyData.keyHash P (PySem.Str.ofString "__static_attributes__"), key := PySem.Value.str (PySem.Str.ofString "__static_attributes__") 563, val := PySem.Value.ref 294 }, { hash := PySem.PyData.keyHash P (PySem.Str.ofString "__dict__"), key := PySem.Value.str (PySem.Str.ofString "__dict__") 565, val := PySem.Value.ref 297 }, { hash := PySem.PyData.keyHash P (PySem.Str.ofString "__weakref__"), key := PySem.Value.str (PySem.Str.ofString "__weakref__") 567, val := PySem.Value.ref 298 }, { hash := PySem.PyData.keyHash P (PySem.Str.ofString "__doc__"), key := PySem.Value.str (PySem.Str.ofString "__doc__") 568, val := PySem.Value.none }] 4 }),
  (296, { cls := PySem.Value.type "type", data := PySem.Data.cls { name := PySem.Str.ofString "Room", bases := [PySem.Value.type "object"], mro := [PySem.Value.ref 296, PySem.Value.type "object"], ns := 295, qualname := PySem.Str.ofString "Room" }, slots := #[none, none, some (PySem.Value.str (PySem.Str.ofString "Room") 460), some (PySem.Value.str (PySem.Str.ofString "Room") 468), some (PySem.Value.builtin "object.__new__"), some (PySem.Value.bool true)] }),
  (297, { cls := PySem.Value.type "getset_descriptor", data := PySem.Data.fields #[PySem.Value.str (PySem.Str.ofString "__dict__") 564, PySem.Value.ref 296, PySem.Value.builtin "function.__dict__", PySem.Value.builtin "function.__dict__#set"] }),
  (298, { cls := PySem.Value.type "getset_descriptor", data := PySem.Data.fields #[PySem.Value.str (PySem.Str.ofString "__weakref__") 566, PySem.Value.ref 296, PySem.Value.builtin "ExceptionGroup.__weakref__", PySem.Value.none] }),
  (306, { cls := PySem.Value.type "code", data := PySem.Data.fields #[PySem.Value.str (PySem.Str.ofString "_law_at") 573, PySem.Value.str (PySem.Str.ofString "_law_at") 574, PySem.Value.str (PySem.Str.ofString "/claim/cut.py") 575, PySem.Value.int 186 0, PySem.Value.int 2 0, PySem.Value.int 0 0, PySem.Value.int 0 0, PySem.Value.int 3 0, PySem.Value.ref 301, PySem.Value.bool true, PySem.Value.int 181 0, PySem.Value.ref 302, PySem.Value.none, PySem.Value.ref 303, PySem.Value.ref 304, PySem.Value.ref 305, PySem.Value.int 578 0, PySem.Value.int 186 0, PySem.Value.str (PySem.Str.ofString "/claim/cut.py") 579] }),
  (307, { cls := PySem.Value.type "function", data := PySem.Data.func { name := PySem.Str.ofString "_law_at", qualname := PySem.Str.ofString "_law_at", params := (dP 34), body := .stmts (dB 34), scope := (dS 34), globals := 3, closure := [], defaults := PySem.Value.none, kwdefaults := PySem.Value.none, pyModule := PySem.Value.str (PySem.Str.ofString "law_uf060004_09") 571, code := PySem.Value.ref 306 } }),
  (313, { cls := PySem.Value.type "code", data := PySem.Data.fields #[PySem.Value.str (PySem.Str.ofString "_law_is_int") 581, PySem.Value.str (PySem.Str.ofString "_law_is_int") 582, PySem.Value.str (PySem.Str.ofString "/claim/cut.py") 583, PySem.Value.int 188 0, PySem.Value.int 1 0, PySem.Value.int 0 0, PySem.Value.int 0 0, PySem.Value.int 3 0, PySem.Value.ref 308, PySem.Value.bool true, PySem.Value.int 181 0, PySem.Value.ref 309, PySem.Value.none, PySem.Value.ref 310, PySem.Value.ref 311, PySem.Value.ref 312, PySem.Value.int 585 0, PySem.Value.int 188 0, PySem.Value.str (PySem.Str.ofString "/claim/cut.py") 586] }),
  (314, { cls := PySem.Value.type "function", data := PySem.Data.func { name := PySem.Str.ofString "_law_is_int", qualname := PySem.Str.ofString "_law_is_int", params := (dP 35), body := .stmts (dB 35), scope := (dS 35), globals := 3, closure := [], defaults := PySem.Value.none, kwdefaults := PySem.Value.none, pyModule := PySem.Value.str (PySem.Str.ofString "law_uf060004_09") 571, code := PySem.Value.ref 313 } }),
  (325, { cls := PySem.Value.type "code", data := PySem.Data.fields #[PySem.Value.str (PySem.Str.ofString "_law_number") 594, PySem.Value.str (PySem.Str.ofString "_law_number") 595, PySem.Value.str (PySem.Str.ofString "/claim/cut.py") 596, PySem.Value.int 194 0, PySem.Value.int 1 0, PySem.Value.int 0 0, PySem.Value.int 0 0, PySem.Value.int 3 0, PySem.Value.ref 320, PySem.Value.bool true, PySem.Value.int 181 0, PySem.Value.ref 321, PySem.Value.none, PySem.Value.ref 322, PySem.Value.ref 323, PySem.Value.ref 324, PySem.Value.int 598 0, PySem.Value.int 194 0, PySem.Value.str (PySem.Str.ofString "/claim/cut.py") 599] }),
  (326, { cls := PySem.Value.type "function", data := PySem.Data.func { name := PySem.Str.ofString "_law_number", qualname := PySem.Str.ofString "_law_number", params := (dP 37), body := .stmts (dB 37), scope := (dS 37), globals := 3, closure := [], defaults := PySem.Value.none, kwdefaults := PySem.Value.none, pyModule := PySem.Value.str (PySem.Str.ofString "law_uf060004_09") 571, code := PySem.Value.ref 325 } }),
  (332, { cls := PySem.Value.type "code", data := PySem.Data.fields #[PySem.Value.str (PySem.Str.ofString "_law_thing") 601, PySem.Value.str (PySem.Str.ofString "_law_thing") 602, PySem.Value.str (PySem.Str.ofString "/claim/cut.py") 603, PySem.Value.int 200 0, PySem.Value.int 2 0, PySem.Value.int 0 0, PySem.Value.int 0 0, PySem.Value.int 3 0, PySem.Value.ref 327, PySem.Value.bool true, PySem.Value.int 181 0, PySem.Value.ref 328, PySem.Value.none, PySem.Value.ref 329, PySem.Value.ref 330, PySem.Value.ref 331, PySem.Value.int 606 0, PySem.Value.int 200 0, PySem.Value.str (PySem.Str.ofString "/claim/cut.py") 607] }),
  (333, { cls := PySem.Value.type "function", data := PySem.Data.func { name := PySem.Str.ofString "_law_thing", qualname := PySem.Str.ofString "_law_thing", params := (dP 38), body := .stmts (dB 38), scope := (dS 38), globals := 3, closure := [], defaults := PySem.Value.none, kwdefaults := PySem.Value.none, pyModule := PySem.Value.str (PySem.Str.ofString "law_uf060004_09") 571, code := PySem.Value.ref 332 } }),
  (337, { cls := PySem.Value.type "code", data := PySem.Data.fields #[PySem.Value.str (PySem.Str.ofString "_law_deed") 609, PySem.Value.str (PySem.Str.ofString "_law_deed") 610, PySem.Value.str (PySem.Str.ofString "/claim/cut.py") 611, PySem.Value.int 204 0, PySem.Value.int 3 0, PySem.Value.int 0 0, PySem.Value.int 0 0, PySem.Value.int 3 0, PySem.Value.ref 334, PySem.Value.bool true, PySem.Value.int 181 0, PySem.Value.ref 335, PySem.Value.none, PySem.Value.none, PySem.Value.none, PySem.Value.ref 336, PySem.Value.int 612 0, PySem.Value.int 204 0, PySem.Value.str (PySem.Str.ofString "/claim/cut.py") 613] }),
  (338, { cls := PySem.Value.type "function", data := PySem.Data.func { name := PySem.Str.ofString "_law_deed", qualname := PySem.Str.ofString "_law_deed", params := (dP 39), body := .stmts (dB 39), scope := (dS 39), globals := 3, closure := [], defaults := PySem.Value.none, kwdefaults := PySem.Value.none, pyModule := PySem.Value.str (PySem.Str.ofString "law_uf060004_09") 571, code := PySem.Value.ref 337 } }),
  (342, { cls := PySem.Value.type "code", data := PySem.Data.fields #[PySem.Value.str (PySem.Str.ofString "_law_walked") 615, PySem.Value.str (PySem.Str.ofString "_law_walked") 616, PySem.Value.str (PySem.Str.ofString "/claim/cut.py") 617, PySem.Value.int 215 0, PySem.Value.int 2 0, PySem.Value.int 0 0, PySem.Value.int 0 0, PySem.Value.int 3 0, PySem.Value.ref 339, PySem.Value.bool true, PySem.Value.int 181 0, PySem.Value.ref 340, PySem.Value.none, PySem.Value.none, PySem.Value.none, PySem.Value.ref 341, PySem.Value.int 618 0, PySem.Value.int 215 0, PySem.Value.str (PySem.Str.ofString "/claim/cut.py") 619] }),
  (343, { cls := PySem.Value.type "function", data := PySem.Data.func { name := PySem.Str.ofString "_law_walked", qualname := PySem.Str.ofString "_law_walked", params := (dP 40), body := .stmts (dB 40), scope := (dS 40), globals := 3, closure := [], defaults := PySem.Value.none, kwdefaults := PySem.Value.none, pyModule := PySem.Value.str (PySem.Str.ofString "law_uf060004_09") 571, code := PySem.Value.ref 342 } }),
  (349, { cls := PySem.Value.type "code", data := PySem.Data.fields #[PySem.Value.str (PySem.Str.ofString "_law_same") 621, PySem.Value.str (PySem.Str.ofString "_law_same") 622, PySem.Value.str (PySem.Str.ofString "/claim/cut.py") 623, PySem.Value.int 226 0, PySem.Value.int 2 0, PySem.Value.int 0 0, PySem.Value.int 0 0, PySem.Value.int 3 0, PySem.Value.ref 344, PySem.Value.bool true, PySem.Value.int 181 0, PySem.Value.ref 345, PySem.Value.none, PySem.Value.ref 346, PySem.Value.ref 347, PySem.Value.ref 348, PySem.Value.int 628 0, PySem.Value.int 226 0, PySem.Value.str (PySem.Str.ofString "/claim/cut.py") 629] }),
  (350, { cls := PySem.Value.type "function", data := PySem.Data.func { name := PySem.Str.ofString "_law_same", qualname := PySem.Str.ofString "_law_same", params := (dP 41), body := .stmts (dB 41), scope := (dS 41), globals := 3, closure := [], defaults := PySem.Value.none, kwdefaults := PySem.Value.none, pyModule := PySem.Value.str (PySem.Str.ofString "law_uf060004_09") 571, code := PySem.Value.ref 349 } }),
  (354, { cls := PySem.Value.type "code", data := PySem.Data.fields #[PySem.Value.str (PySem.Str.ofString "law") 631, PySem.Value.str (PySem.Str.ofString "law") 632, PySem.Value.str (PySem.Str.ofString "/claim/cut.py") 633, PySem.Value.int 238 0, PySem.Value.int 1 0, PySem.Value.int 0 0, PySem.Value.int 0 0, PySem.Value.int 3 0, PySem.Value.ref 351, PySem.Value.bool true, PySem.Value.int 181 0, PySem.Value.ref 352, PySem.Value.none, PySem.Value.none, PySem.Value.none, PySem.Value.ref 353, PySem.Value.int 634 0, PySem.Value.int 238 0, PySem.Value.str (PySem.Str.ofString "/claim/cut.py") 635] }),
  (355, { cls := PySem.Value.type "function", data := PySem.Data.func { name := PySem.Str.ofString "law", qualname := PySem.Str.ofString "law", params := (dP 42), body := .stmts (dB 42), scope := (dS 42), globals := 3, closure := [], defaults := PySem.Value.none, kwdefaults := PySem.Value.none, pyModule := PySem.Value.str (PySem.Str.ofString "law_uf060004_09") 571, code := PySem.Value.ref 354 } })]
noncomputable def kas : List Addr := [3, 93, 94, 100, 101, 107, 108, 114, 115, 121, 122, 128, 129, 135, 136, 142, 143, 149, 150, 156, 157, 163, 164, 170, 171, 177, 178, 184, 185, 191, 192, 198, 199, 205, 206, 212, 213, 226, 227, 233, 234, 240, 241, 245, 246, 252, 253, 259, 260, 266, 267, 271, 272, 278, 279, 285, 286, 292, 293, 294, 295, 296, 297, 298, 306, 307, 313, 314, 325, 326, 332, 333, 337, 338, 342, 343, 349, 350, 354, 355]
noncomputable def fns : List (Str × Addr) := [("number_word", 94), ("link_word", 101), ("head_word", 108), ("is_link", 115), ("told_by", 122), ("fields_of", 129), ("is_marked", 136), ("hung", 143), ("led", 150), ("heads", 157), ("with_mark", 164), ("marked", 171), ("threaded", 178), ("moved", 185), ("pushed_sliding", 192), ("_law_at", 307), ("_law_is_int", 314), ("_law_number", 326), ("is_whole", 199), ("need_things", 206), ("word_of", 213), ("_law_thing", 333), ("_law_deed", 338), ("_law_walked", 343), ("_law_same", 350), ("law", 355)]
noncomputable def exs : List (Str × Value) := [("Room", .ref 296), ("MOST_CELLS", .int 400 434), ("MOST_DOORS", .int 20 436)]
noncomputable def gl0 : List (Str × Value) := fns.map (fun p => (p.1, Value.ref p.2)) ++ (exs ++ bt)
noncomputable def T0 (P : PySem.Params) : Tbl := ⟨fns, stdB, stdT, kk P, [(296, Str.ofString "row"), (296, Str.ofString "filled")], [(296, Str.ofString "need_boxes", 234), (296, Str.ofString "need_box", 241), (296, Str.ofString "made", 246), (296, Str.ofString "put", 253), (296, Str.ofString "told", 260), (296, Str.ofString "places", 267), (296, Str.ofString "come_to", 272), (296, Str.ofString "pushed", 279), (296, Str.ofString "used", 286), (296, Str.ofString "cells", 293)], [("Room", 296, 227)], [("MOST_CELLS", 400), ("MOST_DOORS", 20)]⟩
noncomputable abbrev cx0 (w : World) (s₁ : Shared) (sa : Addr) (ns : List Int) : Cx := ⟨PySem.Challenge.pw_uf060004_09, w, s₁.heap, fun a => if a = sa then some (intsV ns) else none, fun x => gl0.lookup x⟩
theorem glob0 {w : World} {s₁ : Shared} {p : Program} {loose : List Str} {mean : ExcName → Option Value} {mg mb : Str → Option Value} (T : Top p loose mean mg mb s₁.heap) (KX : (kk w.params).In s₁.heap) : GT.all s₁.heap gl0 := by
  refine ⟨glob_K T KX (by kernel_rfl), glob_K T KX (by kernel_rfl), glob_K T KX (by kernel_rfl), glob_K T KX (by kernel_rfl), glob_K T KX (by kernel_rfl), glob_K T KX (by kernel_rfl), glob_K T KX (by kernel_rfl), glob_K T KX (by kernel_rfl), glob_K T KX (by kernel_rfl), glob_K T KX (by kernel_rfl), glob_K T KX (by kernel_rfl), glob_K T KX (by kernel_rfl), glob_K T KX (by kernel_rfl), glob_K T KX (by kernel_rfl), glob_K T KX (by kernel_rfl), glob_K T KX (by kernel_rfl), glob_K T KX (by kernel_rfl), glob_K T KX (by kernel_rfl), glob_K T KX (by kernel_rfl), glob_K T KX (by kernel_rfl), glob_K T KX (by kernel_rfl), glob_K T KX (by kernel_rfl), glob_K T KX (by kernel_rfl), glob_K T KX (by kernel_rfl), glob_K T KX (by kernel_rfl), glob_K T KX (by kernel_rfl), glob_K T KX (by kernel_rfl), glob_K T KX (by kernel_rfl), glob_K T KX (by kernel_rfl),
    glob_B T KX (by kernel_rfl) (by decide +kernel) (by decide), glob_B T KX (by kernel_rfl) (by decide +kernel) (by decide), glob_B T KX (by kernel_rfl) (by decide +kernel) (by decide), glob_B T KX (by kernel_rfl) (by decide +kernel) (by decide), glob_B T KX (by kernel_rfl) (by decide +kernel) (by decide), glob_B T KX (by kernel_rfl) (by decide +kernel) (by decide), glob_B T KX (by kernel_rfl) (by decide +kernel) (by decide), glob_B T KX (by kernel_rfl) (by decide +kernel) (by decide), trivial⟩
section
variable {w : World} {s₁ : Shared} {sa : Addr} {ns : List Int}
theorem d_number_word (KX : (kk w.params).In s₁.heap) : Def (cx0 w s₁ sa ns) 94 ["n"] (bodyOf (fdAt (kk w.params) 94)) (fdAt (kk w.params) 94).scope := def_of KX (by kernel_rfl) _ (arity1 fun a => by kernel_rfl)
theorem d_link_word (KX : (kk w.params).In s₁.heap) : Def (cx0 w s₁ sa ns) 101 ["place"] (bodyOf (fdAt (kk w.params) 101)) (fdAt (kk w.params) 101).scope := def_of KX (by kernel_rfl) _ (arity1 fun a => by kernel_rfl)
theorem d_head_word (KX : (kk w.params).In s₁.heap) : Def (cx0 w s₁ sa ns) 108 ["many", "marked"] (bodyOf (fdAt (kk w.params) 108)) (fdAt (kk w.params) 108).scope := def_of KX (by kernel_rfl) _ (arity2 fun a b => by kernel_rfl)
theorem d_is_link (KX : (kk w.params).In s₁.heap) : Def (cx0 w s₁ sa ns) 115 ["word"] (bodyOf (fdAt (kk w.params) 115)) (fdAt (kk w.params) 115).scope := def_of KX (by kernel_rfl) _ (arity1 fun a => by kernel_rfl)
theorem d_told_by (KX : (kk w.params).In s₁.heap) : Def (cx0 w s₁ sa ns) 122 ["word"] (bodyOf (fdAt (kk w.params) 122)) (fdAt (kk w.params) 122).scope := def_of KX (by kernel_rfl) _ (arity1 fun a => by kernel_rfl)
theorem d_fields_of (KX : (kk w.params).In s₁.heap) : Def (cx0 w s₁ sa ns) 129 ["head"] (bodyOf (fdAt (kk w.params) 129)) (fdAt (kk w.params) 129).scope := def_of KX (by kernel_rfl) _ (arity1 fun a => by kernel_rfl)
theorem d_is_marked (KX : (kk w.params).In s₁.heap) : Def (cx0 w s₁ sa ns) 136 ["head"] (bodyOf (fdAt (kk w.params) 136)) (fdAt (kk w.params) 136).scope := def_of KX (by kernel_rfl) _ (arity1 fun a => by kernel_rfl)
theorem d_hung (KX : (kk w.params).In s₁.heap) : Def (cx0 w s₁ sa ns) 143 ["row", "at"] (bodyOf (fdAt (kk w.params) 143)) (fdAt (kk w.params) 143).scope := def_of KX (by kernel_rfl) _ (arity2 fun a b => by kernel_rfl)
theorem d_led (KX : (kk w.params).In s₁.heap) : Def (cx0 w s₁ sa ns) 150 ["row", "head", "place"] (bodyOf (fdAt (kk w.params) 150)) (fdAt (kk w.params) 150).scope := def_of KX (by kernel_rfl) _ (arity3 fun a b c => by kernel_rfl)
theorem d_heads (KX : (kk w.params).In s₁.heap) : Def (cx0 w s₁ sa ns) 157 ["row", "used"] (bodyOf (fdAt (kk w.params) 157)) (fdAt (kk w.params) 157).scope := def_of KX (by kernel_rfl) _ (arity2 fun a b => by kernel_rfl)
theorem d_with_mark (KX : (kk w.params).In s₁.heap) : Def (cx0 w s₁ sa ns) 164 ["row", "at"] (bodyOf (fdAt (kk w.params) 164)) (fdAt (kk w.params) 164).scope := def_of KX (by kernel_rfl) _ (arity2 fun a b => by kernel_rfl)
theorem d_marked (KX : (kk w.params).In s₁.heap) : Def (cx0 w s₁ sa ns) 171 ["row", "used"] (bodyOf (fdAt (kk w.params) 171)) (fdAt (kk w.params) 171).scope := def_of KX (by kernel_rfl) _ (arity2 fun a b => by kernel_rfl)
theorem d_threaded (KX : (kk w.params).In s₁.heap) : Def (cx0 w s₁ sa ns) 178 ["row", "used"] (bodyOf (fdAt (kk w.params) 178)) (fdAt (kk w.params) 178).scope := def_of KX (by kernel_rfl) _ (arity2 fun a b => by kernel_rfl)
theorem d_moved (KX : (kk w.params).In s₁.heap) : Def (cx0 w s₁ sa ns) 185 ["row", "at", "free", "many"] (bodyOf (fdAt (kk w.params) 185)) (fdAt (kk w.params) 185).scope := def_of KX (by kernel_rfl) _ (arity4 fun a b c d => by kernel_rfl)
theorem d_pushed (KX : (kk w.params).In s₁.heap) : Def (cx0 w s₁ sa ns) 192 ["row", "used"] (bodyOf (fdAt (kk w.params) 192)) (fdAt (kk w.params) 192).scope := def_of KX (by kernel_rfl) _ (arity2 fun a b => by kernel_rfl)
theorem d_law_at (KX : (kk w.params).In s₁.heap) : Def (cx0 w s₁ sa ns) 307 ["_law_script", "_law_place"] (bodyOf (fdAt (kk w.params) 307)) (fdAt (kk w.params) 307).scope := def_of KX (by kernel_rfl) _ (arity2 fun a b => by kernel_rfl)
theorem d_law_is_int (KX : (kk w.params).In s₁.heap) : Def (cx0 w s₁ sa ns) 314 ["_law_value"] (bodyOf (fdAt (kk w.params) 314)) (fdAt (kk w.params) 314).scope := def_of KX (by kernel_rfl) _ (arity1 fun a => by kernel_rfl)
theorem d_law_number (KX : (kk w.params).In s₁.heap) : Def (cx0 w s₁ sa ns) 326 ["_law_seed"] (bodyOf (fdAt (kk w.params) 326)) (fdAt (kk w.params) 326).scope := def_of KX (by kernel_rfl) _ (arity1 fun a => by kernel_rfl)
theorem d_is_whole (KX : (kk w.params).In s₁.heap) : Def (cx0 w s₁ sa ns) 199 ["thing"] (bodyOf (fdAt (kk w.params) 199)) (fdAt (kk w.params) 199).scope := def_of KX (by kernel_rfl) _ (arity1 fun a => by kernel_rfl)
theorem d_need_things (KX : (kk w.params).In s₁.heap) : Def (cx0 w s₁ sa ns) 206 ["things"] (bodyOf (fdAt (kk w.params) 206)) (fdAt (kk w.params) 206).scope := def_of KX (by kernel_rfl) _ (arity1 fun a => by kernel_rfl)
theorem d_word_of (KX : (kk w.params).In s₁.heap) : Def (cx0 w s₁ sa ns) 213 ["thing"] (bodyOf (fdAt (kk w.params) 213)) (fdAt (kk w.params) 213).scope := def_of KX (by kernel_rfl) _ (arity1 fun a => by kernel_rfl)
theorem d_law_thing (KX : (kk w.params).In s₁.heap) : Def (cx0 w s₁ sa ns) 333 ["_law_seed", "_law_places"] (bodyOf (fdAt (kk w.params) 333)) (fdAt (kk w.params) 333).scope := def_of KX (by kernel_rfl) _ (arity2 fun a b => by kernel_rfl)
theorem d_law_deed (KX : (kk w.params).In s₁.heap) : Def (cx0 w s₁ sa ns) 338 ["_law_room", "_law_cell", "_law_seed"] (bodyOf (fdAt (kk w.params) 338)) (fdAt (kk w.params) 338).scope := def_of KX (by kernel_rfl) _ (arity3 fun a b c => by kernel_rfl)
theorem d_law_walked (KX : (kk w.params).In s₁.heap) : Def (cx0 w s₁ sa ns) 343 ["_law_room", "_law_picks"] (bodyOf (fdAt (kk w.params) 343)) (fdAt (kk w.params) 343).scope := def_of KX (by kernel_rfl) _ (arity2 fun a b => by kernel_rfl)
theorem d_law_same (KX : (kk w.params).In s₁.heap) : Def (cx0 w s₁ sa ns) 350 ["_law_ahead", "_law_behind"] (bodyOf (fdAt (kk w.params) 350)) (fdAt (kk w.params) 350).scope := def_of KX (by kernel_rfl) _ (arity2 fun a b => by kernel_rfl)
theorem d_law (KX : (kk w.params).In s₁.heap) : Def (cx0 w s₁ sa ns) 355 ["_law_script"] (bodyOf (fdAt (kk w.params) 355)) (fdAt (kk w.params) 355).scope := def_of KX (by kernel_rfl) _ (arity1 fun a => by kernel_rfl)
theorem d_Room_init (KX : (kk w.params).In s₁.heap) : Def (cx0 w s₁ sa ns) 227 ["self", "size", "doors"] (bodyOf (fdAt (kk w.params) 227)) (fdAt (kk w.params) 227).scope := def_of KX (by kernel_rfl) _ (arity3 fun a b c => by kernel_rfl)
theorem d_Room_need_boxes (KX : (kk w.params).In s₁.heap) : Def (cx0 w s₁ sa ns) 234 ["self", "things"] (bodyOf (fdAt (kk w.params) 234)) (fdAt (kk w.params) 234).scope := def_of KX (by kernel_rfl) _ (arity2 fun a b => by kernel_rfl)
theorem d_Room_need_box (KX : (kk w.params).In s₁.heap) : Def (cx0 w s₁ sa ns) 241 ["self", "place"] (bodyOf (fdAt (kk w.params) 241)) (fdAt (kk w.params) 241).scope := def_of KX (by kernel_rfl) _ (arity2 fun a b => by kernel_rfl)
theorem d_Room_made (KX : (kk w.params).In s₁.heap) : Def (cx0 w s₁ sa ns) 246 ["self", "things"] (bodyOf (fdAt (kk w.params) 246)) (fdAt (kk w.params) 246).scope := def_of KX (by kernel_rfl) _ (arity2 fun a b => by kernel_rfl)
theorem d_Room_put (KX : (kk w.params).In s₁.heap) : Def (cx0 w s₁ sa ns) 253 ["self", "place", "field", "thing"] (bodyOf (fdAt (kk w.params) 253)) (fdAt (kk w.params) 253).scope := def_of KX (by kernel_rfl) _ (arity4 fun a b c d => by kernel_rfl)
theorem d_Room_told (KX : (kk w.params).In s₁.heap) : Def (cx0 w s₁ sa ns) 260 ["self", "place"] (bodyOf (fdAt (kk w.params) 260)) (fdAt (kk w.params) 260).scope := def_of KX (by kernel_rfl) _ (arity2 fun a b => by kernel_rfl)
theorem d_Room_places (KX : (kk w.params).In s₁.heap) : Def (cx0 w s₁ sa ns) 267 ["self"] (bodyOf (fdAt (kk w.params) 267)) (fdAt (kk w.params) 267).scope := def_of KX (by kernel_rfl) _ (arity1 fun a => by kernel_rfl)
theorem d_Room_come_to (KX : (kk w.params).In s₁.heap) : Def (cx0 w s₁ sa ns) 272 ["self"] (bodyOf (fdAt (kk w.params) 272)) (fdAt (kk w.params) 272).scope := def_of KX (by kernel_rfl) _ (arity1 fun a => by kernel_rfl)
theorem d_Room_pushed (KX : (kk w.params).In s₁.heap) : Def (cx0 w s₁ sa ns) 279 ["self"] (bodyOf (fdAt (kk w.params) 279)) (fdAt (kk w.params) 279).scope := def_of KX (by kernel_rfl) _ (arity1 fun a => by kernel_rfl)
theorem d_Room_used (KX : (kk w.params).In s₁.heap) : Def (cx0 w s₁ sa ns) 286 ["self"] (bodyOf (fdAt (kk w.params) 286)) (fdAt (kk w.params) 286).scope := def_of KX (by kernel_rfl) _ (arity1 fun a => by kernel_rfl)
theorem d_Room_cells (KX : (kk w.params).In s₁.heap) : Def (cx0 w s₁ sa ns) 293 ["self"] (bodyOf (fdAt (kk w.params) 293)) (fdAt (kk w.params) 293).scope := def_of KX (by kernel_rfl) _ (arity1 fun a => by kernel_rfl)
end
theorem walk0 {w : World} {s₁ : Shared} {p : Program} {loose : List Str} {mean : ExcName → Option Value} {mg mb : Str → Option Value} (T : Top p loose mean mg mb s₁.heap) (hseer : s₁.heap.NoSeer) (KX : (kk w.params).In s₁.heap)
    {sa : Addr} {vs : List Value} {ns : List Int} (hW : Well w.params s₁.heap (.ref sa) (ofPy (PyData.list (ns.map PyData.int)))) (hL : s₁.heap.IsList sa vs.toArray) (hI : IntsAre vs ns) (hlay : (PyData.list (ns.map PyData.int)).layable0 = true) (hlen : ns.length ≤ 63) :
    CallP (cx0 w s₁ sa ns) 9 355 [.ref sa] (fun _ => none) fun v _ => v = .bool true := by
  have C : (cx0 w s₁ sa ns).OK := cx_ok T hseer (glob0 T KX) hW hL hI rfl
  have TO : Tbl.OK (cx0 w s₁ sa ns) (T0 w.params) := tbl_ok KX rfl (by kernel_rfl) (by kernel_rfl) (by kernel_rfl) (by kernel_rfl) (by kernel_rfl) (by kernel_rfl) (by kernel_rfl) (by kernel_rfl) (by kernel_rfl)
  have hbits : ∀ v, (v ∈ ns ∨ v = 0) → Builtin.Int.intBits v ≤ 1048576 := fun v h => h.elim (fun h => intBits_le_of_item h hlay) (fun h => by subst h; decide)
  have s_told : ∀ n, Fn1 (cx0 w s₁ sa ns) (n + 1) 122 fun w => .int (w.fdiv 2) := fun n w' H Q h => call_intro C TO (d_told_by KX) (rest := []) (ms := m_told_by) (by decide) (by kernel_rfl) (by kernel_rfl) rfl (told_ms h)
  have s_islink : ∀ n, Fn1 (cx0 w s₁ sa ns) (n + 1) 115 fun w => .bool (w.fmod 2 == 1) := fun n p H Q h => call_intro C TO (d_is_link KX) (rest := []) (ms := m_is_link) (by decide) (by kernel_rfl) (by kernel_rfl) rfl (islink_ms h)
  have s_fields : ∀ n, Fn1 (cx0 w s₁ sa ns) (n + 1) 129 fun w => .int (w.fdiv 4) := fun n p H Q h => call_intro C TO (d_fields_of KX) (rest := []) (ms := m_fields_of) (by decide) (by kernel_rfl) (by kernel_rfl) rfl (fields_ms h)
  have s_ismarked : ∀ n, Fn1 (cx0 w s₁ sa ns) (n + 1) 136 fun w => .bool ((w.fdiv 2).fmod 2 == 1) := fun n p H Q h => call_intro C TO (d_is_marked KX) (rest := []) (ms := m_is_marked) (by decide) (by kernel_rfl) (by kernel_rfl) rfl (ismarked_ms h)
  have s_numw : ∀ n, Fn1 (cx0 w s₁ sa ns) (n + 1) 94 fun p => .int (2 * p) := fun n p H Q h => call_intro C TO (d_number_word KX) (rest := []) (ms := m_number_word) (by decide) (by kernel_rfl) (by kernel_rfl) rfl (numw_ms h)
  have s_link : ∀ n, Fn1 (cx0 w s₁ sa ns) (n + 1) 101 fun p => .int (2 * p + 1) := fun n p H Q h => call_intro C TO (d_link_word KX) (rest := []) (ms := m_link_word) (by decide) (by kernel_rfl) (by kernel_rfl) rfl (link_ms h)
  have s_headw : ∀ n (p : Int) (b : Bool) (H : HP) (Q : V → HP → Prop), Q (.int (4 * p + 2 * (if b then 1 else 0))) H → CallP (cx0 w s₁ sa ns) (n + 1) 108 [.int p, .bool b] H Q := fun n p b H Q h => call_intro C TO (d_head_word KX) (rest := []) (ms := m_head_word) (by decide) (by kernel_rfl) (by kernel_rfl) rfl (headw_ms h)
  have s_withmark : ∀ n, WithMarkSpec (cx0 w s₁ sa ns) (n + 2) 164 := fun n row xs p w' H Q h1 h2 h3 h4 => call_intro C TO (d_with_mark KX) (rest := ["found"]) (ms := m_with_mark 108 129) (by decide) (by kernel_rfl) (by kernel_rfl) rfl (withmark_ms (s_headw n) (s_fields n) h1 h2 h3 h4)
  have s_marked : ∀ n, MarkedSpec (cx0 w s₁ sa ns) (n + 3) 171 := fun n row xs B used H Q h1 h2 h3 h4 h5 => call_intro C TO (d_marked KX) (rest := ["found", "waiting", "at", "word"]) (ms := m_marked 164 129 115 136 122) (by decide) (by kernel_rfl) (by kernel_rfl) rfl (marked_ms (s_withmark n) (s_fields (n + 1)) (s_islink (n + 1)) (s_ismarked (n + 1)) (s_told (n + 1)) h1 h2 h3 h4 h5)
  have s_hung : ∀ n, HungSp (cx0 w s₁ sa ns) (n + 2) 143 := fun n row xs k h wk wh H Q h1 h2 h3 h4 h5 h6 => call_intro C TO (d_hung KX) (rest := ["found", "head"]) (ms := m_hung 122 101) (by decide) (by kernel_rfl) (by kernel_rfl) rfl (hung_ms (s_told n) (s_link n) h1 h2 h3 h4 h5 h6)
  have s_led : ∀ n, LedSpec (cx0 w s₁ sa ns) (n + 2) 150 := fun n row xs h p w' e cs H Q h1 h2 h3 h4 h5 h6 h7 h8 => call_intro C TO (d_led KX) (rest := ["found", "word", "cell"]) (ms := m_led 115 122 101) (by decide) (by kernel_rfl) (by kernel_rfl) rfl (led_ms (s_islink n) (s_told n) (s_link n) h1 h2 h3 h4 h5 h6 h7 h8)
  have s_threaded : ∀ n, ThreadSpec (cx0 w s₁ sa ns) (n + 3) 178 := fun n row B p N zs H Q h1 h2 h3 h4 h5 h6 => call_intro C TO (d_threaded KX) (rest := ["at", "free", "many", "field"]) (ms := m_threaded 150 129 136 115 143) (by decide) (by kernel_rfl) (by kernel_rfl) rfl (threaded_ms (s_led n) (s_fields (n + 1)) (s_ismarked (n + 1)) (s_islink (n + 1)) (s_hung n) h1 h2 h3 h4 h5 h6)
  have s_moved : ∀ n, MovedSpec (cx0 w s₁ sa ns) (n + 2) 185 := fun n row xs a f m H Q h1 h2 h3 h4 h5 => call_intro C TO (d_moved KX) (rest := ["found", "k"]) (ms := m_moved 108) (by decide) (by kernel_rfl) (by kernel_rfl) rfl (moved_ms (s_headw n) h1 h2 h3 h4 h5)
  have s_pushed : ∀ n, PushedSpec (cx0 w s₁ sa ns) (n + 4) 192 := fun n row B xs H Q h1 h2 h3 h4 h5 => call_intro C TO (d_pushed KX) (rest := ["at", "free", "many"]) (ms := m_pushed 178 171 150 129 136 185) (by decide) (by kernel_rfl) (by kernel_rfl) rfl (pushed_ms (s_threaded n) (s_marked n) (s_led (n + 1)) (s_fields (n + 2)) (s_ismarked (n + 2)) (s_moved (n + 1)) h1 h2 h3 h4 h5)
  have s_heads : ∀ n, HeadsSpec (cx0 w s₁ sa ns) (n + 2) 157 := fun n row xs B H Q h1 h2 h3 h4 => call_intro C TO (d_heads KX) (rest := ["found", "at"]) (ms := m_heads 129) (by decide) (by kernel_rfl) (by kernel_rfl) rfl (heads_ms (s_fields n) h1 h2 h3 h4)
  have s_at : ∀ n, AtSpec (cx0 w s₁ sa ns) (n + 1) 307 sa ns := fun n p H Q h1 h2 h3 => call_intro C TO (d_law_at KX) (rest := []) (ms := m_law_at) (by decide) (by kernel_rfl) (by kernel_rfl) rfl (at_ms h1 (by omega) h2 fun v hv => h3 v (hbits v hv))
  have s_isint : ∀ n v H Q, Q (.bool true) H → CallP (cx0 w s₁ sa ns) (n + 1) 314 [.int v] H Q := fun n v H Q h => call_intro C TO (d_law_is_int KX) (rest := []) (ms := m_law_is_int) (by decide) (by kernel_rfl) (by kernel_rfl) rfl (isint_ms h)
  have s_num : ∀ n, NumSpec (cx0 w s₁ sa ns) (n + 1) 326 := fun n s H Q h1 h2 => call_intro C TO (d_law_number KX) (rest := []) (ms := m_law_number) (by decide) (by kernel_rfl) (by kernel_rfl) rfl (number_ms h1 h2)
  have s_whole : ∀ n, WholeSp (cx0 w s₁ sa ns) (n + 1) 199 := fun n i H Q h => call_intro C TO (d_is_whole KX) (rest := []) (ms := m_is_whole) (by decide) (by kernel_rfl) (by kernel_rfl) rfl (whole_ms h)
  have s_needt : ∀ n, NeedTSpec (cx0 w s₁ sa ns) (n + 2) 206 := fun n la vs ts H Q h1 h2 h3 h4 => call_intro C TO (d_need_things KX) (rest := ["thing"]) (ms := m_need_things 199) (by decide) (by kernel_rfl) (by kernel_rfl) rfl (needT_ms (s_whole n) h1 h2 h3 h4)
  have s_wordof : ∀ n, WordOfSpec (cx0 w s₁ sa ns) (n + 2) 213 := fun n b t H Q h1 h2 => call_intro C TO (d_word_of KX) (rest := []) (ms := m_word_of 94 101) (by decide) (by kernel_rfl) (by kernel_rfl) rfl (wordof_ms (s_numw n) (s_link n) h1 h2)
  have s_pl : ∀ n, PlSpec (cx0 w s₁ sa ns) 296 (n + 3) 267 := fun n rm dx ra B xs H Q h1 h2 => call_intro C TO (d_Room_places KX) (rest := []) (ms := m_Room_places 157 296) (by decide) (by kernel_rfl) (by kernel_rfl) rfl (places_ms (s_heads n) h1 h2)
  have s_needb : ∀ n, NeedBSpec (cx0 w s₁ sa ns) 296 (n + 4) 234 := fun n rm dx ra la B xs vs ts H Q h1 h2 h3 h4 h5 h6 => call_intro C TO (d_Room_need_boxes KX) (rest := ["known", "thing"]) (ms := m_Room_need_boxes 296 267) (by decide) (by kernel_rfl) (by kernel_rfl) rfl (needB_ms (s_pl n) h1 h2 h3 h4 h5 h6)
  have s_needx : ∀ n, NeedXSpec (cx0 w s₁ sa ns) 296 (n + 4) 241 := fun n rm dx ra B xs k H Q h1 h2 h3 => call_intro C TO (d_Room_need_box KX) (rest := []) (ms := m_Room_need_box 199 296 267) (by decide) (by kernel_rfl) (by kernel_rfl) rfl (needX_ms (s_whole (n + 2)) (s_pl n) h1 h2 h3)
  have s_tolds : ∀ n, ToldSpec (cx0 w s₁ sa ns) 296 (n + 5) 260 := fun n rm dx ra B xs k fl H Q h1 h2 h3 => call_intro C TO (d_Room_told KX) (rest := ["found", "word"]) (ms := m_Room_told 296 241 129 115 122) (by decide) (by kernel_rfl) (by kernel_rfl) rfl (told9_ms (s_needx n) (s_fields (n + 3)) (s_islink (n + 3)) (s_told (n + 3)) h1 h2 h3)
  have s_made : ∀ n, MadeSpec (cx0 w s₁ sa ns) 296 (n + 5) 246 := fun n rm dx ra la B xs vs ts H Q h1 h2 h3 h4 h5 h6 => call_intro C TO (d_Room_made KX) (rest := ["place", "behind", "words"]) (ms := m_Room_made 206 296 234 108 213) (by decide) (by kernel_rfl) (by kernel_rfl) rfl (made_ms (s_needt (n + 2)) (s_needb n) (s_headw (n + 3)) (s_wordof (n + 2)) h1 h2 h3 h4 h5 h6)
  have s_put : ∀ n, PutSpec (cx0 w s₁ sa ns) 296 (n + 5) 253 := fun n rm dx ra b B xs k j f t H Q h1 h2 h3 h4 h5 h6 => call_intro C TO (d_Room_put KX) (rest := []) (ms := m_Room_put 296 241 199 129 206 234 213) (by decide) (by kernel_rfl) (by kernel_rfl) rfl (put_ms (s_needx n) (s_whole (n + 3)) (s_fields (n + 3)) (s_needt (n + 2)) (s_needb n) (s_wordof (n + 2)) h1 h2 h3 h4 h5 h6)
  have s_come : ∀ n, ComeSpec (cx0 w s₁ sa ns) 296 (n + 4) 272 := fun n rm dx ra B xs H Q h1 h2 => call_intro C TO (d_Room_come_to KX) (rest := ["row"]) (ms := m_Room_come_to 171 296 136 267) (by decide) (by kernel_rfl) (by kernel_rfl) rfl (come_ms (s_marked n) (s_ismarked (n + 2)) (s_pl n) h1 h2)
  have s_pushm : ∀ n, PushMSpec (cx0 w s₁ sa ns) 296 (n + 5) 279 := fun n rm dx ra B xs H Q h1 h2 => call_intro C TO (d_Room_pushed KX) (rest := ["ahead", "found"]) (ms := m_Room_pushed 296 192) (by decide) (by kernel_rfl) (by kernel_rfl) rfl (pushm_ms (s_pushed n) h1 h2)
  have s_used : ∀ n, UsedSpec (cx0 w s₁ sa ns) 296 (n + 1) 286 := fun n rm dx ra B xs H Q h1 h2 => call_intro C TO (d_Room_used KX) (rest := []) (ms := m_Room_used 296) (by decide) (by kernel_rfl) (by kernel_rfl) rfl (used_ms h1 h2)
  have s_cells : ∀ n, CellsSpec (cx0 w s₁ sa ns) 296 (n + 1) 293 := fun n rm dx ra B xs H Q h1 h2 => call_intro C TO (d_Room_cells KX) (rest := []) (ms := m_Room_cells 296) (by decide) (by kernel_rfl) (by kernel_rfl) rfl (cells_ms h1 h2)
  have s_init : ∀ n, InitSpec (cx0 w s₁ sa ns) 296 (n + 2) 227 := fun n rm dx d H Q h1 h2 h3 h4 => call_intro C TO (d_Room_init KX) (rest := []) (ms := m_Room_init 199 296 108) (by decide) (by kernel_rfl) (by kernel_rfl) rfl (init_ms (s_whole n) (s_headw n) h1 h2 h3 h4)
  have s_thing : ∀ n, ThingSpec (cx0 w s₁ sa ns) (n + 2) 333 := fun n pa B seed H Q h1 h2 h3 h4 h5 h6 => call_intro C TO (d_law_thing KX) (rest := []) (ms := m_law_thing 326) (by decide) (by kernel_rfl) (by kernel_rfl) rfl (thing_ms (s_num n) h1 h2 h3 h4 h5 h6)
  have s_deed : ∀ n, DeedSpec (cx0 w s₁ sa ns) 296 (n + 6) 338 := fun n rm dx ra B xs cell seed H Q h1 h2 h3 h4 h5 => call_intro C TO (d_law_deed KX) (rest := ["_law_places", "_law_place", "_law_many"]) (ms := m_law_deed 296 267 246 333 260 253) (by decide) (by kernel_rfl) (by kernel_rfl) rfl (deed_ms (s_pl (n + 2)) (s_made n) (s_thing (n + 3)) (s_tolds n) (s_put n) h1 h2 h3 h4 h5)
  have s_walked : ∀ n, WalkedSpec (cx0 w s₁ sa ns) 296 (n + 6) 343 := fun n rm dx ra pa B xs qs H Q h1 h2 h3 h4 => call_intro C TO (d_law_walked KX) (rest := ["_law_place", "_law_found", "_law_pick", "_law_things", "_law_told"]) (ms := m_law_walked 296 260) (by decide) (by kernel_rfl) (by kernel_rfl) rfl (walked_ms (s_tolds n) h1 h2 h3 h4)
  have s_same : ∀ n, SameSpec (cx0 w s₁ sa ns) (n + 1) 350 := fun n aa ba r1 r2 es fs w1 w2 H Q h1 h2 h3 h4 h5 h6 h7 => call_intro C TO (d_law_same KX) (rest := ["_law_k", "_law_j"]) (ms := m_law_same) (by decide) (by kernel_rfl) (by kernel_rfl) rfl (lawsame_ms h1 h2 h3 h4 h5 h6 h7)
  refine call_intro C TO (d_law KX) (rest := ["_law_room", "_law_k", "_law_picks", "_law_many", "_law_ahead", "_law_before", "_law_fewer"]) (ms := m_law9 296 227 307 338 272 343 286 279 314 350 267 293) (by decide) (by kernel_rfl) (by kernel_rfl) rfl ?_
  exact law9_ms (by decide) (s_init 5) (s_at 7) (s_deed 2) (s_come 4) (s_walked 2) (s_used 7) (s_pushm 3) (s_isint 7) (s_same 7) (s_pl 5) (s_cells 7) (if_pos rfl) rfl (by omega) fun _ => rfl
end Mine

theorem PySem.Challenge.cw_uf060004_09_holds : PySem.Challenge.rw_uf060004_09.Holds := by
  w_on
  o_law
  o_head (kHook Mine.kk Mine.kas (fun _ => rfl))
  (case hw => w_witness2)
  intro w s₀ s₁ mg mb G Y fa o pm cd doc dV kV ho hd hcd hD hmg hg args vals as hpre hlay hrd hwl hlo
  have KX := kIn_of Y
  refine Ground.open G ?_
  intro T B D TE TW
  wrow_args hpre hlay hrd hwl hlo
  refine enter_call ?_
  rename_i ns _ _ hlay _ _ _ _ sa vs _ hL _ hW _ hI _ hlen _
  have hfa : fa = 355 := by
    have h1 : mg ("law" : Str) = some (.ref fa) := hmg
    have h2 : mg ("law" : Str) = some (.ref 355) := mg_of KX T.g (by kernel_rfl)
    rw [h1] at h2; cases h2; rfl
  subst hfa
  exact Mine.law_end (cx := Mine.cx0 w s₁ sa ns) rfl hg (by decide) (Mine.walk0 T (T.seer (by decide +kernel)) KX hW hL hI hlay (by omega))

