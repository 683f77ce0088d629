import PyProof.Rows.All
import Wide.All
import OpenK.KWalk
import Wide.FinOn
import KE.IntBitsLaws
import PyProof.Comp
import PyProof.CompFree
import PyProof.SliceList
import PyProof.Cells
import PyProof.Seq
import PyProof.RangeIter
import PyProof.Rules3
import PyProof.ListIndex
import PyProof.PlainList
import PyProof.Rows.Globals
import PyProof.NoPylong
import PyProof.SeqI3
import PyProof.P3Statements
import PyProof.ListOps
import PyProof.WalkInts
import PyProof.EqAt
import PyProof.IsiPairs
import PyProof.IsiHeapPairs
import PyProof.Rows.RuleB_mul
import PyProof.Rows.RuleB_mod
import PyProof.Rows.RuleB_floordiv
import PyProof.Rows.RuleB_pow
import PyProof.Rows.RuleC_int
import PyProof.Rows.RuleC_bool
import PyProof.Rows.RuleU_int
import PyProof.Rows.IntRules
import PyProof.Rows.StrRules
import PyProof.IsRules
import PyProof.Rows.StrTemp
import PyProof.Rows.TupSub
import PyProof.Rows.ListMul
import PyProof.Conv_int_bool
import PyProof.Rows.Tup
import PyProof.Rows.Chain
import PyProof.Rows.Nodes
import PyProof.EqKinds
import PyProof.Rows.EqDataRows
import PyProof.ListCopy
import PyProof.Rows.SortShell
import PyProof.Rows.SortWalk
import PyProof.SeqI
import PyProof.FactsAll.list_0
import PyProof.FactsAll.list_3
import PyProof.CallRoads
import PyProof.RulesDelMore
import PyProof.RangeFor
import PyProof.WalksMore
import PyProof.CompMap
import PyProof.CompUse
import PyProof.Rows.Walk
import PySem.Challenge.RW_uf060004_04
set_option Elab.async false
section
namespace Mine
open PySem PyProof.Rows

inductive V where
  | unb | none | bool (b : Bool) | int (i : Int) | str (x : Str) | ref (a : Addr) | other

noncomputable def abs : Value → V
  | .none => .none
  | .bool b => .bool b
  | .int i _ => .int i
  | .str x _ => .str x
  | .ref a => .ref a
  | _ => .other

inductive O where
  | list (vs : List V)
  | tup (vs : List V)

noncomputable def Rep (h : Heap) (a : Addr) : O → Prop
  | .list vs => ∃ items n, h.get? a = some { cls := .type "list", data := .seq items n } ∧ items.toList.map abs = vs
  | .tup vs => ∃ items n, h.get? a = some { cls := .type "tuple", data := .seq items n } ∧ items.toList.map abs = vs

theorem Rep.get {h : Heap} {a : Addr} : ∀ {o : O}, Rep h a o → ∃ ob, h.get? a = some ob
  | .list _, ⟨_, _, e, _⟩ => ⟨_, e⟩
  | .tup _, ⟨_, _, e, _⟩ => ⟨_, e⟩

theorem Rep.of_eq {h h' : Heap} {a : Addr} (e : h'.get? a = h.get? a) : ∀ {o : O}, Rep h a o → Rep h' a o
  | .list _, ⟨i, n, q, m⟩ => ⟨i, n, e.trans q, m⟩
  | .tup _, ⟨i, n, q, m⟩ => ⟨i, n, e.trans q, m⟩

theorem Rep.keep {h h' : Heap} {a : Addr} (k : ∀ o, h.get? a = some o → h'.get? a = some o) {o : O} (r : Rep h a o) : Rep h' a o := by
  obtain ⟨ob, e⟩ := r.get
  exact r.of_eq ((k _ e).trans e.symm)

noncomputable abbrev HP := Addr → Option O

noncomputable def upd (H : HP) (a : Addr) (o : O) : HP := fun b => if b = a then some o else H b

theorem upd_same (H : HP) (a : Addr) (o : O) : upd H a o a = some o := by simp [upd]
theorem upd_ne {H : HP} {a b : Addr} (o : O) (h : b ≠ a) : upd H a o b = H b := by simp [upd, h]
theorem upd_upd (H : HP) (a : Addr) (o o' : O) : upd (upd H a o) a o' = upd H a o' := by
  funext b; by_cases h : b = a <;> simp [upd, h]

noncomputable def LE (H H' : HP) : Prop := ∀ a o, H a = some o → H' a = some o
theorem LE.refl (H : HP) : LE H H := fun _ _ e => e
theorem LE.trans {A B C : HP} (x : LE A B) (y : LE B C) : LE A C := fun a o e => y a o (x a o e)
theorem LE.upd {H H' : HP} (x : LE H H') (a : Addr) (o : O) : LE (Mine.upd H a o) (Mine.upd H' a o) := by
  intro b o' e
  by_cases h : b = a
  · subst h; rw [upd_same] at e ⊢; exact e
  · rw [upd_ne _ h] at e ⊢; exact x _ _ e
theorem LE.fresh {H : HP} {a : Addr} (h : H a = Option.none) (o : O) : LE H (Mine.upd H a o) := by
  intro b o' e
  by_cases hb : b = a
  · subst hb; rw [h] at e; cases e
  · rw [upd_ne _ hb]; exact e

structure Cx where
  prog : Program
  w : World
  base : Heap
  Z : Addr → Option (List V)
  gl : Str → Option Value

noncomputable def GlobAt (h : Heap) (x : Str) (v : Value) : Prop :=
  (∃ mg, h.Ns mainGlobals mg ∧ mg x = some v) ∨ ∃ mg mb, h.Ns mainGlobals mg ∧ mg x = none ∧ h.Ns builtinsNs mb ∧ mb x = some v

structure Cx.OK (cx : Cx) : Prop where
  nolimit : cx.base.NoLimit
  seer : cx.base.NoSeer
  tree : cx.prog.given.tree = none
  glob : ∀ x v, cx.gl x = some v → GlobAt cx.base x v
  z : ∀ a vs, cx.Z a = some vs → Rep cx.base a (.list vs)

noncomputable def getL : List V → Nat → V
  | [], _ => .unb
  | a :: _, 0 => a
  | _ :: l, n + 1 => getL l n
noncomputable def setL : List V → Nat → V → List V
  | [], _, _ => []
  | _ :: l, 0, v => v :: l
  | a :: l, n + 1, v => a :: setL l n v

theorem setL_length : ∀ (l : List V) (i : Nat) (v : V), (setL l i v).length = l.length
  | [], _, _ => rfl
  | _ :: _, 0, _ => rfl
  | _ :: l, n + 1, v => by simp [setL, setL_length l n v]
theorem getL_setL_same : ∀ (l : List V) (i : Nat) (v : V), i < l.length → getL (setL l i v) i = v
  | _ :: _, 0, _, _ => rfl
  | _ :: l, n + 1, v, h => getL_setL_same l n v (Nat.lt_of_succ_lt_succ h)
theorem getL_setL_ne : ∀ (l : List V) (i j : Nat) (v : V), i ≠ j → getL (setL l i v) j = getL l j
  | [], _, _, _, _ => rfl
  | _ :: _, 0, 0, _, h => absurd rfl h
  | _ :: _, 0, _ + 1, _, _ => rfl
  | _ :: _, _ + 1, 0, _, _ => rfl
  | _ :: l, n + 1, m + 1, v, h => getL_setL_ne l n m v (fun e => h (by rw [e]))

structure Fm where
  env : Env
  names : List (Option Str)

noncomputable def Fm.own (fm : Fm) (a : Addr) : Prop := a = fm.env.locals ∨ ∃ x, fm.env.cells.lookup x = some a

noncomputable def VarAt (env : Env) (h : Heap) (x : Str) (v : Option Value) : Prop :=
  (env.kindOf x = some .local ∧ ∃ m, h.Ns env.locals m ∧ m x = v) ∨ (env.kindOf x = some .cell ∧ ∃ c, env.cells.lookup x = some c ∧ h.IsCell c v)

structure Fm.OK (cx : Cx) (fm : Fm) : Prop where
  kind : fm.env.scope.kind = .function
  globals : fm.env.globals = mainGlobals
  builtins : fm.env.builtins = builtinsNs
  cellsNe : ∀ x c, fm.env.cells.lookup x = some c → c ≠ fm.env.locals
  cellsInj : ∀ x y c, fm.env.cells.lookup x = some c → fm.env.cells.lookup y = some c → x = y
  inj : ∀ (i j : Nat) (x : Str), fm.names[i]? = some (some x) → fm.names[j]? = some (some x) → i = j
  above : ∀ a, fm.own a → cx.base.get? a = none
  cellAt : ∀ x, fm.env.kindOf x = some .cell → ∃ c, fm.env.cells.lookup x = some c

structure FR (fm : Fm) (μ : List V) (h : Heap) : Prop where
  len : μ.length = fm.names.length
  live : ∀ a, fm.own a → ∃ o, h.get? a = some o
  ns : ∃ m, h.Ns fm.env.locals m
  var : ∀ (i : Nat) (x : Str), fm.names[i]? = some (some x) → ∃ ov, VarAt fm.env h x ov ∧ (getL μ i = .unb ∨ ∃ v, ov = some v ∧ abs v = getL μ i)

structure HS (cx : Cx) (H : HP) (s : Shared) : Prop where
  hr : ∀ a o, H a = some o → Rep s.heap a o
  ext : ∀ b o, cx.base.get? b = some o → s.heap.get? b = some o
  low : ∀ a o, H a = some o → cx.base.get? a = none

structure SR (cx : Cx) (fm : Fm) (H : HP) (μ : List V) (s : Shared) : Prop extends HS cx H s where
  fr : FR fm μ s.heap
  own : ∀ a o, H a = some o → ¬ fm.own a

structure Kept (ow : Addr → Prop) (s : Shared) (H : HP) (s' : Shared) (H' : HP) : Prop where
  keep : ∀ b o, s.heap.get? b = some o → H b = none → ¬ ow b → s'.heap.get? b = some o
  dom : ∀ a o, s.heap.get? a = some o → H a = none → ¬ ow a → H' a = none
  os : s'.os = s.os
  gens : s'.gens = s.gens

noncomputable abbrev KE (s : Shared) (H : HP) (s' : Shared) (H' : HP) : Prop := Kept (fun _ => False) s H s' H'

theorem Kept.refl (ow : Addr → Prop) (s : Shared) (H : HP) : Kept ow s H s H := ⟨fun _ _ e _ _ => e, fun _ _ _ e _ => e, rfl, rfl⟩
theorem Kept.trans {ow : Addr → Prop} {s s₁ s₂ : Shared} {H H₁ H₂ : HP} (x : Kept ow s H s₁ H₁) (y : Kept ow s₁ H₁ s₂ H₂) : Kept ow s H s₂ H₂ :=
  ⟨fun b o e n w => y.keep b o (x.keep b o e n w) (x.dom b o e n w) w,
    fun a o e n w => y.dom a o (x.keep a o e n w) (x.dom a o e n w) w, y.os.trans x.os, y.gens.trans x.gens⟩
theorem Kept.mono {ow ow' : Addr → Prop} (h : ∀ a, ow a → ow' a) {s s' : Shared} {H H' : HP} (x : Kept ow s H s' H') : Kept ow' s H s' H' :=
  ⟨fun b o e n w => x.keep b o e n (fun q => w (h b q)), fun b o e n w => x.dom b o e n (fun q => w (h b q)), x.os, x.gens⟩
theorem KE.any {s s' : Shared} {H H' : HP} (x : KE s H s' H') (ow : Addr → Prop) : Kept ow s H s' H' := x.mono fun _ q => q.elim

theorem HS.toks {cx : Cx} {H : HP} {s : Shared} (S : HS cx H s) (n : Nat) : HS cx H { s with toks := n } := ⟨S.hr, S.ext, S.low⟩
theorem HS.le {cx : Cx} {H H' : HP} {s : Shared} (S : HS cx H' s) (l : LE H H') : HS cx H s :=
  ⟨fun a o e => S.hr a o (l a o e), S.ext, fun a o e => S.low a o (l a o e)⟩
theorem SR.le {cx : Cx} {fm : Fm} {H H' : HP} {μ : List V} {s : Shared} (S : SR cx fm H' μ s) (l : LE H H') : SR cx fm H μ s :=
  ⟨S.toHS.le l, S.fr, fun a o e => S.own a o (l a o e)⟩
theorem Kept.le {ow : Addr → Prop} {s s' : Shared} {H H₁ H₂ : HP} (x : Kept ow s H s' H₂) (l : LE H₁ H₂) : Kept ow s H s' H₁ :=
  ⟨x.keep, fun a ob q n w => (by
    cases e : H₁ a with
    | none => rfl
    | some o => exact absurd (l a o e) (by rw [x.dom a ob q n w]; simp)), x.os, x.gens⟩

theorem lookup_mem {α β : Type} [BEq α] [LawfulBEq α] {x : α} {c : β} : ∀ {l : List (α × β)}, l.lookup x = some c → (x, c) ∈ l
  | (y, d) :: l, e => by
    rw [List.lookup_cons] at e
    cases h : x == y with
    | true => rw [h] at e; cases e; rw [eq_of_beq h]; exact List.mem_cons_self
    | false => rw [h] at e; exact List.mem_cons_of_mem _ (lookup_mem e)

theorem VarAt.keep {env : Env} {h h' : Heap} {x : Str} {v : Option Value}
    (k : ∀ b o, (b = env.locals ∨ ∃ y, env.cells.lookup y = some b) → h.get? b = some o → h'.get? b = some o) (w : VarAt env h x v) : VarAt env h' x v := by
  rcases w with ⟨k1, m, ⟨o, es, ep, e, hd⟩, hm⟩ | ⟨k1, c, hc, o, e, hd⟩
  · exact .inl ⟨k1, m, ⟨o, es, ep, k _ _ (.inl rfl) e, hd⟩, hm⟩
  · exact .inr ⟨k1, c, hc, o, k _ _ (.inr ⟨x, hc⟩) e, hd⟩

theorem FR.keep {fm : Fm} {μ : List V} {h h' : Heap} (F : FR fm μ h) (k : ∀ b o, fm.own b → h.get? b = some o → h'.get? b = some o) : FR fm μ h' :=
  ⟨F.len, fun a q => (let ⟨o, e⟩ := F.live a q; ⟨o, k a o q e⟩), by obtain ⟨m, o, es, ep, e, hd⟩ := F.ns; exact ⟨m, o, es, ep, k _ _ (.inl rfl) e, hd⟩, fun i x e => by
    obtain ⟨ov, w, q⟩ := F.var i x e
    exact ⟨ov, w.keep (fun b o => k b o), q⟩⟩

theorem SR.step {cx : Cx} {fm : Fm} {H H' : HP} {μ : List V} {s s' : Shared} (S : SR cx fm H μ s) (S' : HS cx H' s') (k : KE s H s' H') : SR cx fm H' μ s' := by
  have hn : ∀ b, fm.own b → H b = none := fun b q => by
    cases e : H b with
    | none => rfl
    | some o => exact absurd q (S.own b o e)
  refine ⟨S', S.fr.keep (fun b o q e => k.keep b o e (hn b q) id), fun a o e q => ?_⟩
  obtain ⟨ob, l⟩ := S.fr.live a q
  rw [k.dom a ob l (hn a q) id] at e
  cases e

theorem HS.grow {cx : Cx} {H : HP} {s : Shared} (S : HS cx H s) {h' : Heap} (k : ∀ b o, s.heap.get? b = some o → h'.get? b = some o) (n : Nat) :
    HS cx H { s with heap := h', toks := n } :=
  ⟨fun a o e => (S.hr a o e).keep (k a), fun b o e => k b o (S.ext b o e), S.low⟩
theorem KE.grow {s : Shared} {H : HP} {h' : Heap} (k : ∀ b o, s.heap.get? b = some o → h'.get? b = some o) (n : Nat) :
    KE s H { s with heap := h', toks := n } H := ⟨fun b o e _ _ => k b o e, fun _ _ _ e _ => e, rfl, rfl⟩
theorem KE.toks (s : Shared) (H : HP) (n : Nat) : KE s H { s with toks := n } H := ⟨fun _ _ e _ _ => e, fun _ _ _ e _ => e, rfl, rfl⟩

noncomputable def Fresh (cx : Cx) (H : HP) (r : Addr) : Prop := H r = none ∧ cx.base.get? r = none ∧ cx.Z r = none

theorem HS.none_of {cx : Cx} {H : HP} {s : Shared} (S : HS cx H s) {r : Addr} (h : s.heap.get? r = none) : H r = none := by
  cases e : H r with
  | none => rfl
  | some o =>
    obtain ⟨ob, q⟩ := (S.hr r o e).get
    rw [h] at q; cases q
theorem HS.base_none {cx : Cx} {H : HP} {s : Shared} (S : HS cx H s) {r : Addr} (h : s.heap.get? r = none) : cx.base.get? r = none := by
  cases e : cx.base.get? r with
  | none => rfl
  | some o => rw [S.ext r o e] at h; cases h
theorem HS.fresh {cx : Cx} (C : cx.OK) {H : HP} {s : Shared} (S : HS cx H s) {r : Addr} (h : s.heap.get? r = none) : Fresh cx H r :=
  ⟨S.none_of h, S.base_none h, by
    cases e : cx.Z r with
    | none => rfl
    | some vs =>
      obtain ⟨ob, q⟩ := (C.z r vs e).get
      rw [S.base_none h] at q; cases q⟩
theorem get_size (h : Heap) : h.get? h.objs.size = none := by
  cases e : h.get? h.objs.size with
  | none => rfl
  | some o => exact absurd (Heap.lt_size e) (Nat.lt_irrefl _)

theorem HS.alloc {cx : Cx} {H : HP} {s : Shared} (S : HS cx H s) {h' : Heap} {r : Addr} {o : O} (k : ∀ b o, s.heap.get? b = some o → h'.get? b = some o)
    (hr : s.heap.get? r = none) (R : Rep h' r o) (n : Nat) : HS cx (upd H r o) { s with heap := h', toks := n } := by
  have G := S.grow k n
  refine ⟨fun a o' e => ?_, G.ext, fun a o' e => ?_⟩
  · by_cases h : a = r
    · subst h; rw [upd_same] at e; cases e; exact R
    · rw [upd_ne _ h] at e; exact G.hr a o' e
  · by_cases h : a = r
    · subst h; exact S.base_none hr
    · rw [upd_ne _ h] at e; exact G.low a o' e
theorem KE.alloc {s : Shared} {H : HP} {h' : Heap} {r : Addr} {o : O} (k : ∀ b o, s.heap.get? b = some o → h'.get? b = some o)
    (hr : s.heap.get? r = none) (n : Nat) : KE s H { s with heap := h', toks := n } (upd H r o) :=
  ⟨fun b o e _ _ => k b o e, fun a ob l e _ => by rw [upd_ne _ (fun q => by subst q; rw [hr] at l; cases l)]; exact e, rfl, rfl⟩

theorem HS.change {cx : Cx} {H : HP} {s : Shared} (S : HS cx H s) {h' : Heap} {a : Addr} {o o' : O} (ha : H a = some o) (sb : ∀ b ob, b ≠ a → s.heap.get? b = some ob → h'.get? b = some ob) (R : Rep h' a o') (n : Nat) :
    HS cx (upd H a o') { s with heap := h', toks := n } := by
  refine ⟨fun b o1 e => ?_, fun b ob e => ?_, fun b o1 e => ?_⟩
  · by_cases h : b = a
    · subst h; rw [upd_same] at e; cases e; exact R
    · rw [upd_ne _ h] at e; exact (S.hr b o1 e).keep (fun ob => sb b ob h)
  · exact sb b ob (fun q => by subst q; rw [S.low _ o ha] at e; cases e) (S.ext b ob e)
  · by_cases h : b = a
    · subst h; exact S.low _ _ ha
    · rw [upd_ne _ h] at e; exact S.low b o1 e
theorem KE.change {s : Shared} {H : HP} {h' : Heap} {a : Addr} {o o' : O} (ha : H a = some o) (sb : ∀ b ob, b ≠ a → s.heap.get? b = some ob → h'.get? b = some ob) (n : Nat) :
    KE s H { s with heap := h', toks := n } (upd H a o') :=
  ⟨fun b ob e hb _ => sb b ob (fun x => by subst x; rw [ha] at hb; cases hb) e,
    fun b _ _ e _ => by rw [upd_ne _ (fun x => by subst x; rw [ha] at e; cases e)]; exact e, rfl, rfl⟩

theorem SR.aside {cx : Cx} {fm : Fm} {H : HP} {μ : List V} {s : Shared} (S : SR cx fm H μ s) {h' : Heap} {a : Addr} (ha : H a = none) (hw : ¬ fm.own a) (hb : cx.base.get? a = none) (sb : Heap.ExtBut a s.heap h') (n : Nat) :
    SR cx fm H μ { s with heap := h', toks := n } :=
  ⟨⟨fun b o e => (S.hr b o e).keep (fun ob q => sb b ob (fun x => by subst x; rw [ha] at e; cases e) q),
    fun b o e => sb b o (fun q => by subst q; rw [hb] at e; cases e) (S.ext b o e), S.low⟩, S.fr.keep (fun b o q e => sb b o (fun x => hw (x ▸ q)) e), S.own⟩

section
variable {cx : Cx} {fm : Fm} {H : HP} {μ : List V} {s : Shared} {M : Model} {A : Around} {E : Value → Shared → Prop}

theorem load_loc (W : fm.OK cx) (S : SR cx fm H μ s) {i : Nat} {x : Str} (hi : fm.names[i]? = some (some x)) (hb : getL μ i ≠ .unb) {Q : Value → Shared → Prop} (h : ∀ v, abs v = getL μ i → Q v s) :
    wpAny M A (loadName fm.env x) Q E s := by
  obtain ⟨ov, w, q⟩ := S.fr.var i x hi
  obtain ⟨v, rfl, hv⟩ := q.resolve_left hb
  rcases w with ⟨k1, m, hn, hm⟩ | ⟨k1, c, hc, hcell⟩
  · exact wpAny_loadName_local W.kind k1 hn hm (h v hv)
  · exact wpAny_loadName_cell W.kind k1 hc hcell (h v hv)

theorem ns_unique {h : Heap} {a : Addr} {m m' : Str → Option Value} (x : h.Ns a m) (y : h.Ns a m') : m = m' := by
  obtain ⟨o, es, ep, e, hd, _, hm⟩ := x
  obtain ⟨o', es', ep', e', hd', _, hm'⟩ := y
  rw [e] at e'; cases e'
  rw [hd] at hd'; cases hd'
  funext n; rw [← hm n, ← hm' n]

theorem store_loc (W : fm.OK cx) (S : SR cx fm H μ s) {i : Nat} {x : Str} (hi : fm.names[i]? = some (some x)) {v : Value} {Q : Unit → Shared → Prop}
    (h : ∀ s', SR cx fm H (setL μ i (abs v)) s' → Kept fm.own s H s' H → Q () s') : wpAny M A (storeName fm.env x v) Q E s := by
  obtain ⟨ov, w, q⟩ := S.fr.var i x hi
  have hil : i < μ.length := by rw [S.fr.len]; exact (List.getElem?_eq_some_iff.mp hi).1
  -- the rest, for any own address that is changed
  have rest : ∀ (a : Addr) (h' : Heap) (tk : Nat), fm.own a → Heap.SameBut a s.heap h' → (∃ o, h'.get? a = some o) → (∃ m, h'.Ns fm.env.locals m) →
      (∀ j y, fm.names[j]? = some (some y) → ∃ ov, VarAt fm.env h' y ov ∧ (getL (setL μ i (abs v)) j = .unb ∨ ∃ v', ov = some v' ∧ abs v' = getL (setL μ i (abs v)) j)) →
      SR cx fm H (setL μ i (abs v)) { s with heap := h', toks := tk } ∧ Kept fm.own s H { s with heap := h', toks := tk } H := by
    intro a h' tk ha sb hla hns hvar
    refine ⟨⟨⟨fun b o e => ?_, fun b o e => ?_, S.low⟩, ⟨by rw [setL_length]; exact S.fr.len, fun b q => ?_, hns, hvar⟩, S.own⟩,
      fun b o e _ hw => (sb.2 b (fun x => hw (x ▸ ha))).trans e, fun _ _ _ e _ => e, rfl, rfl⟩
    · exact (S.hr b o e).of_eq (sb.2 b (fun x => S.own b o e (x ▸ ha)))
    · exact (sb.2 b (fun q => by subst q; rw [W.above _ ha] at e; cases e)).trans (S.ext b o e)
    · by_cases h : b = a
      · subst h; exact hla
      · obtain ⟨o, e⟩ := S.fr.live b q
        exact ⟨o, (sb.2 b h).trans e⟩
  rcases w with ⟨k1, m, hn, hm⟩ | ⟨k1, c, hc, hcell⟩
  · refine wpAny_storeName_local k1 hn (fun h' hn' sb => ?_) (by rw [W.kind]; rfl)
    obtain ⟨a1, a2⟩ := rest fm.env.locals h' (s.toks + 1) (.inl rfl) sb (let ⟨o, _, _, e, _⟩ := hn'; ⟨o, e⟩) ⟨_, hn'⟩ (fun j y hj => by
      by_cases hij : i = j
      · subst hij
        rw [hi] at hj; cases hj
        exact ⟨some v, .inl ⟨k1, _, hn', by simp⟩, .inr ⟨v, rfl, (getL_setL_same μ i _ hil).symm⟩⟩
      · obtain ⟨ov', w', q'⟩ := S.fr.var j y hj
        refine ⟨ov', ?_, by rw [getL_setL_ne _ _ _ _ hij]; exact q'⟩
        have hxy : y ≠ x := fun e => hij (W.inj i j x hi (e ▸ hj))
        rcases w' with ⟨k2, m2, hn2, hm2⟩ | ⟨k2, c2, hc2, o, e2, hd2⟩
        · exact .inl ⟨k2, _, hn', by rw [if_neg hxy, ns_unique hn hn2]; exact hm2⟩
        · exact .inr ⟨k2, c2, hc2, o, (sb.2 c2 (W.cellsNe y c2 hc2)).trans e2, hd2⟩)
    exact h _ a1 a2
  · refine wpAny_storeName_cell W.kind k1 hc hcell (fun h' hc' sb => ?_)
    have hcl := W.cellsNe x c hc
    have ns' : ∀ m, s.heap.Ns fm.env.locals m → h'.Ns fm.env.locals m := fun m ⟨o, es, ep, e, r⟩ => ⟨o, es, ep, (sb.2 _ (Ne.symm hcl)).trans e, r⟩
    obtain ⟨a1, a2⟩ := rest c h' s.toks (.inr ⟨x, hc⟩) sb (let ⟨o, e, _⟩ := hc'; ⟨o, e⟩) (by obtain ⟨m, hm⟩ := S.fr.ns; exact ⟨m, ns' m hm⟩) (fun j y hj => by
      by_cases hij : i = j
      · subst hij
        rw [hi] at hj; cases hj
        exact ⟨some v, .inr ⟨k1, c, hc, hc'⟩, .inr ⟨v, rfl, (getL_setL_same μ i _ hil).symm⟩⟩
      · obtain ⟨ov', w', q'⟩ := S.fr.var j y hj
        refine ⟨ov', ?_, by rw [getL_setL_ne _ _ _ _ hij]; exact q'⟩
        have hxy : y ≠ x := fun e => hij (W.inj i j x hi (e ▸ hj))
        rcases w' with ⟨k2, m2, hn2, hm2⟩ | ⟨k2, c2, hc2, o, e2, hd2⟩
        · exact .inl ⟨k2, m2, ns' m2 hn2, hm2⟩
        · exact .inr ⟨k2, c2, hc2, o, (sb.2 c2 (fun e => hxy (W.cellsInj y x c (e ▸ hc2) hc))).trans e2, hd2⟩)
    exact h _ a1 a2
end
end Mine
end

section
namespace Mine
open PySem PyProof.Rows

inductive BF where
  | len | list | int | sum | max | sorted
  deriving DecidableEq
inductive Mth where
  | append | pop
  deriving DecidableEq

mutual
inductive ME where
  | cint (i : Int) | cbool (b : Bool) | cnone | cstr (x : Str)
  | loc (i : Nat)
  | bin (op : Operator) (l r : ME)
  | not (e : ME)
  | cmp (l : ME) (op : CmpOp) (r : ME)
  | bop (op : BoolOp) (es : MEs)
  | callf (f : Addr) (args : MEs)
  | callb (b : BF) (args : MEs)
  | isi (e : ME) (t : String)
  | meth (o : ME) (m : Mth) (args : MEs)
  | sub (o i : ME)
  | slice (o lo hi : ME)
  | list (es : MEs)
  | tup (es : MEs)
  | comp (elt it cond : ME)
  | compR (elt a b cond : ME)
inductive MEs where
  | nil
  | cons (e : ME) (es : MEs)
end

mutual
inductive MS where
  | assign (i : Nat) (e : ME)
  | setSub (o i v : ME)
  | expr (e : ME)
  | ite (c : ME) (t e : MSs)
  | for_ (i : Nat) (it : ME) (body : MSs)
  | forR (i : Nat) (a b : ME) (body : MSs)
  | while_ (c : ME) (body : MSs)
  | ret (e : ME)
inductive MSs where
  | nil
  | cons (s : MS) (r : MSs)
end

structure ACall (A : Around) (n : Nat) : Prop where
  handled : A.handled = none
  depth : A.depth + n < 850
  units : A.units + 16 * n < 9000
  frames : ∃ l, A.frames = some l
structure AOK (A : Around) (n : Nat) : Prop extends ACall A n where
  top : ∃ env outer, A.frames = some (env :: outer) ∧ env.scope.isGenerator = false ∧ env.scope.isCoroutine = false ∧ env.builtins = builtinsNs ∧ env.globals = mainGlobals

noncomputable def CallP (cx : Cx) (n : Nat) (f : Addr) (args : List V) (H : HP) (Q : V → HP → Prop) : Prop :=
  ∀ (A : Around) (s : Shared) (vs : List Value), ACall A n → HS cx H s → vs.map Mine.abs = args →
    codeAny (model cx.prog cx.w) A (.call (.ref f) ⟨vs, []⟩) (fun r s' => ∃ v H', r = .ok (.ret v) ∧ HS cx H' s' ∧ KE s H s' H' ∧ Q (Mine.abs v) H') s

noncomputable def lk (cx : Cx) (H : HP) (a : Addr) : Option O :=
  match H a with
  | some o => some o
  | none => (cx.Z a).map O.list
noncomputable def lst (cx : Cx) (H : HP) (a : Addr) : Option (List V) :=
  match lk cx H a with
  | some (.list vs) => some vs
  | _ => none
noncomputable def sq (cx : Cx) (H : HP) (a : Addr) : Option (List V) :=
  match lk cx H a with
  | some (.list vs) => some vs
  | some (.tup vs) => some vs
  | _ => none

noncomputable def onR (v : V) (k : Addr → Prop) : Prop := match v with
  | .ref a => k a
  | _ => False
noncomputable def onI (v : V) (k : Int → Prop) : Prop := match v with
  | .int i => k i
  | _ => False
noncomputable def TruthP (v : V) (Q : Bool → Prop) : Prop := match v with
  | .bool b => Q b
  | _ => False
noncomputable def onO {α : Type} (o : Option α) (k : α → Prop) : Prop := match o with
  | some x => k x
  | none => False
noncomputable def onHL (o : Option O) (k : List V → Prop) : Prop := match o with
  | some (.list vs) => k vs
  | _ => False
noncomputable def on0 (l : List V) (k : Prop) : Prop := match l with
  | [] => k
  | _ => False
noncomputable def on1 (l : List V) (k : V → Prop) : Prop := match l with
  | [v] => k v
  | _ => False
noncomputable def on2 (l : List V) (k : V → V → Prop) : Prop := match l with
  | [v, w] => k v w
  | _ => False
theorem onR_inv {v : V} {k : Addr → Prop} (h : onR v k) : ∃ a, v = .ref a ∧ k a := by cases v <;> first | exact ⟨_, rfl, h⟩ | exact False.elim h
theorem onI_inv {v : V} {k : Int → Prop} (h : onI v k) : ∃ a, v = .int a ∧ k a := by cases v <;> first | exact ⟨_, rfl, h⟩ | exact False.elim h
theorem onO_inv {α : Type} {o : Option α} {k : α → Prop} (h : onO o k) : ∃ x, o = some x ∧ k x := by
  cases o with
  | none => exact h.elim
  | some x => exact ⟨x, rfl, h⟩
theorem onHL_inv {o : Option O} {k : List V → Prop} (h : onHL o k) : ∃ vs, o = some (.list vs) ∧ k vs := by
  cases o with
  | none => exact False.elim h
  | some x => cases x <;> first | exact ⟨_, rfl, h⟩ | exact False.elim h
theorem on1_inv {l : List V} {k : V → Prop} (h : on1 l k) : ∃ v, l = [v] ∧ k v := match l, h with
  | [v], h => ⟨v, rfl, h⟩
theorem on2_inv {l : List V} {k : V → V → Prop} (h : on2 l k) : ∃ v w, l = [v, w] ∧ k v w := match l, h with
  | [v, w], h => ⟨v, w, rfl, h⟩
theorem onR_mono {v : V} {k k' : Addr → Prop} (h : onR v k) (q : ∀ a, k a → k' a) : onR v k' := by obtain ⟨a, rfl, h⟩ := onR_inv h; exact q a h
theorem onI_mono {v : V} {k k' : Int → Prop} (h : onI v k) (q : ∀ a, k a → k' a) : onI v k' := by obtain ⟨a, rfl, h⟩ := onI_inv h; exact q a h
theorem onO_mono {α : Type} {o : Option α} {k k' : α → Prop} (h : onO o k) (q : ∀ a, k a → k' a) : onO o k' := by obtain ⟨a, rfl, h⟩ := onO_inv h; exact q a h
theorem onHL_mono {o : Option O} {k k' : List V → Prop} (h : onHL o k) (q : ∀ a, k a → k' a) : onHL o k' := by obtain ⟨a, rfl, h⟩ := onHL_inv h; exact q a h
theorem on1_mono {l : List V} {k k' : V → Prop} (h : on1 l k) (q : ∀ a, k a → k' a) : on1 l k' := by obtain ⟨a, rfl, h⟩ := on1_inv h; exact q a h
theorem on2_mono {l : List V} {k k' : V → V → Prop} (h : on2 l k) (q : ∀ a b, k a b → k' a b) : on2 l k' := by obtain ⟨a, b, rfl, h⟩ := on2_inv h; exact q a b h

noncomputable def asInts : List V → Option (List Int)
  | [] => some []
  | .int i :: r => (asInts r).map (i :: ·)
  | _ => none
noncomputable def intsV (l : List Int) : List V := l.map V.int

theorem asInts_ints : ∀ l : List Int, asInts (intsV l) = some l
  | [] => rfl
  | i :: l => by simp [intsV, asInts]; exact asInts_ints l

noncomputable def cutAt (n : Nat) (i : Int) : Option Nat := if 0 ≤ i then some (min i.toNat n) else none
noncomputable def cutLo (n : Nat) (v : V) : Option Nat := match v with
  | .none => some 0
  | .int i => cutAt n i
  | _ => none
noncomputable def cutHi (n : Nat) (v : V) : Option Nat := match v with
  | .int i => cutAt n i
  | _ => none
noncomputable def cut (vs : List V) (lo hi : Nat) : List V := (vs.take hi).drop lo

noncomputable def new (cx : Cx) (H : HP) (o : O) (Q : V → HP → Prop) : Prop := ∀ r, Fresh cx H r → Q (.ref r) (upd H r o)

noncomputable def addP (cx : Cx) (a b : V) (H : HP) (Q : V → HP → Prop) : Prop := match a with
  | .int x => onI b fun y => Q (.int (x + y)) H
  | .ref x => onR b fun y => onO (lst cx H x) fun xs => onO (lst cx H y) fun ys => xs.length + ys.length ≤ 16777216 ∧ new cx H (.list (xs ++ ys)) Q
  | _ => False
noncomputable def mulP (cx : Cx) (a b : V) (H : HP) (Q : V → HP → Prop) : Prop := match a with
  | .int x => onI b fun y => IntMulOk x y ∧ Q (.int (x * y)) H
  | .ref x => onI b fun n => onO (lst cx H x) fun xs => -16777216 < n ∧ n < 16777216 ∧ xs.length * n.toNat ≤ 16777216 ∧ new cx H (.list (List.replicate n.toNat xs).flatten) Q
  | _ => False
noncomputable def binP (cx : Cx) (op : Operator) (a b : V) (H : HP) (Q : V → HP → Prop) : Prop := match op with
  | .Add => addP cx a b H Q
  | .Sub => onI a fun x => onI b fun y => Q (.int (x - y)) H
  | .Mult => mulP cx a b H Q
  | .FloorDiv => onI a fun x => onI b fun y => y ≠ 0 ∧ Q (.int (x.fdiv y)) H
  | .Mod => onI a fun x => onI b fun y => y ≠ 0 ∧ Q (.int (x.fmod y)) H
  | .Pow => onI a fun x => onI b fun y => 0 ≤ y ∧ (Builtin.Int.intBits x : Int) * y ≤ 2 ^ 27 ∧ Q (.int (x ^ y.toNat)) H
  | _ => False

noncomputable def cmpII (op : CmpOp) (a b : Int) : Option Bool := match op with
  | .Lt => some (decide (a < b))
  | .Gt => some (decide (b < a))
  | .Eq => some (a == b)
  | .NotEq => some (a != b)
  | _ => none
noncomputable def cmpP (cx : Cx) (op : CmpOp) (a b : V) (H : HP) : Option Bool := match a with
  | .int a => match b with
    | .int b => cmpII op a b
    | .bool _ => match op with
      | .IsNot => some true
      | _ => none
    | .ref x => match op with
      | .NotIn => (sq cx H x).bind fun vs => (asInts vs).map fun l => !l.contains a
      | _ => none
    | _ => none
  | .str a => match b with
    | .str b => match op with
      | .Eq => some (a == b)
      | _ => none
    | _ => none
  | _ => none

noncomputable def isiP (H : HP) (v : V) (t : String) : Option Bool := match v with
  | .int _ => if t = "int" then some true else none
  | .ref a => match H a with
    | some (.list _) => if t = "list" then some true else none
    | some (.tup _) => if t = "tuple" then some true else none
    | _ => none
  | _ => none

noncomputable def shapeL (m : Nat) : List Int := (List.range m).map fun (i : Nat) => if i = 0 then (0 : Int) else ((m - i : Nat) : Int)

noncomputable def callbP (cx : Cx) (b : BF) (args : List V) (H : HP) (Q : V → HP → Prop) : Prop := match b with
  | .len => on1 args fun v => onR v fun a => onO (sq cx H a) fun vs => vs.length ≤ 16777216 ∧ Q (.int vs.length) H
  | .list => on1 args fun v => onR v fun a => onO (sq cx H a) fun vs => vs.length ≤ 16777216 ∧ new cx H (.list vs) Q
  | .int => on1 args fun v => TruthP v fun b => Q (.int (if b then 1 else 0)) H
  | .sum => on1 args fun v => onR v fun a => onO (lst cx H a) fun vs => onO (asInts vs) fun l => PySem.SumFits l ∧ Q (.int l.sum) H
  | .sorted => on1 args fun v => onR v fun a => onO (lst cx H a) fun vs => onO (asInts vs) fun l => (l.length < 64 ∨ ∃ m, 64 ≤ m ∧ m < 128 ∧ l = shapeL m) ∧ ∀ l' : List Int, l'.Perm l → l'.Pairwise (· ≤ ·) → new cx H (.list (intsV l')) Q
  | .max => on2 args fun v w => onI v fun a => onI w fun b => Q (.int (if b > a then b else a)) H

noncomputable def methP (o : V) (m : Mth) (args : List V) (H : HP) (Q : V → HP → Prop) : Prop := onR o fun a => onHL (H a) fun vs => match m with
  | .append => on1 args fun v => vs.length ≤ 16777216 ∧ Q .none (upd H a (.list (vs ++ [v])))
  | .pop => on0 args (onO vs.getLast? fun v => vs.length ≤ 16777216 ∧ Q v (upd H a (.list vs.dropLast)))

noncomputable def listAt (o : V) (H : HP) : Prop := onR o fun a => onHL (H a) fun _ => True

noncomputable def subP (cx : Cx) (o i : V) (H : HP) (Q : V → HP → Prop) : Prop :=
  onR o fun a => onI i fun i => onO (sq cx H a) fun vs => 0 ≤ i ∧ vs.length ≤ 16777216 ∧ onO vs[i.toNat]? fun v => Q v H

noncomputable def sliceP (cx : Cx) (o lo hi : V) (H : HP) (Q : V → HP → Prop) : Prop :=
  onR o fun a => onO (lst cx H a) fun vs => onO (cutLo vs.length lo) fun l => onO (cutHi vs.length hi) fun h => vs.length ≤ 16777216 ∧ new cx H (.list (cut vs l h)) Q

noncomputable def IterP (cx : Cx) (o : V) (H : HP) (Q : List V → (HP → Prop) → HP → Prop) : Prop :=
  onR o fun a => onHL (lk cx H a) fun vs => vs.length ≤ 16777216 ∧ Q vs (fun H' => lk cx H' a = some (.list vs)) H

noncomputable def rangeL (a b : Int) : List Int := (List.range (b - a).toNat).map fun (k : Nat) => a + (k : Int)

noncomputable def RngP (x y : V) (Q : List V → Prop) : Prop :=
  onI x fun x => onI y fun y => (-1152921504606846976 < x ∧ x < 1152921504606846976) ∧ (-1152921504606846976 < y ∧ y < 1152921504606846976) ∧ Q (intsV (rangeL x y))

noncomputable def setSubP (o i v : V) (H : HP) (Q : HP → Prop) : Prop :=
  onR o fun a => onI i fun i => onHL (H a) fun vs => 0 ≤ i ∧ vs.length ≤ 16777216 ∧ i.toNat < vs.length ∧ Q (upd H a (.list (vs.set i.toNat v)))

noncomputable def CompP (cx : Cx) (items : List V) (st : HP → Prop) (H₀ : HP) (turn : V → HP → (Option V → HP → Prop) → Prop) (Q : V → HP → Prop) : Prop :=
  items.length ≤ 16777216 ∧ ∃ I : List V → List V → HP → Prop, I [] [] H₀ ∧ (∀ done acc H₁, I done acc H₁ → st H₁) ∧
    (∀ done x rest acc H₁, items = done ++ x :: rest → I done acc H₁ → turn x H₁ fun ov H₂ => ∃ H₃, LE H₃ H₂ ∧ I (done ++ [x]) (acc ++ ov.toList) H₃) ∧
    (∀ acc H₁, I items acc H₁ → new cx H₁ (.list acc) Q)

mutual
noncomputable def mwpE (cx : Cx) (n : Nat) : ME → List V → HP → (V → HP → Prop) → Prop
  | .cint i, _, H, Q => Q (.int i) H
  | .cbool b, _, H, Q => Q (.bool b) H
  | .cnone, _, H, Q => Q .none H
  | .cstr x, _, H, Q => Q (.str x) H
  | .loc i, μ, H, Q => getL μ i ≠ .unb ∧ Q (getL μ i) H
  | .bin op l r, μ, H, Q => mwpE cx n l μ H fun a H => mwpE cx n r μ H fun b H => binP cx op a b H Q
  | .not e, μ, H, Q => mwpE cx n e μ H fun v H => TruthP v fun b => Q (.bool (!b)) H
  | .cmp l op r, μ, H, Q => mwpE cx n l μ H fun a H => mwpE cx n r μ H fun b H => onO (cmpP cx op a b H) fun c => Q (.bool c) H
  | .bop op es, μ, H, Q => mwpB cx n op es μ H Q
  | .callf f args, μ, H, Q => mwpEs cx n args μ H fun vs H => CallP cx n f vs H Q
  | .callb b args, μ, H, Q => mwpEs cx n args μ H fun vs H => callbP cx b vs H Q
  | .isi e t, μ, H, Q => mwpE cx n e μ H fun v H => onO (isiP H v t) fun b => Q (.bool b) H
  | .meth o m args, μ, H, Q => mwpE cx n o μ H fun ov H => listAt ov H ∧ mwpEs cx n args μ H fun vs H => methP ov m vs H Q
  | .sub o i, μ, H, Q => mwpE cx n o μ H fun ov H => mwpE cx n i μ H fun iv H => subP cx ov iv H Q
  | .slice o lo hi, μ, H, Q => mwpE cx n o μ H fun ov H => mwpE cx n lo μ H fun l H => mwpE cx n hi μ H fun h H => sliceP cx ov l h H Q
  | .list es, μ, H, Q => mwpEs cx n es μ H fun vs H => vs.length ≤ 16777216 ∧ new cx H (.list vs) Q
  | .tup es, μ, H, Q => mwpEs cx n es μ H fun vs H => vs.length ≤ 16777216 ∧ new cx H (.tup vs) Q
  | .comp elt it cond, μ, H, Q => mwpE cx n it μ H fun v H => IterP cx v H fun items st H₀ => CompP cx items st H₀ (fun x H₁ K =>
      mwpE cx n cond (μ ++ [x]) H₁ fun c H₂ => TruthP c fun b => (b = true → mwpE cx n elt (μ ++ [x]) H₂ fun v H₃ => K (some v) H₃) ∧ (b = false → K none H₂)) Q
  | .compR elt a b cond, μ, H, Q => mwpE cx n a μ H fun x H => mwpE cx n b μ H fun y H => RngP x y fun items => CompP cx items (fun _ => True) H (fun x H₁ K =>
      mwpE cx n cond (μ ++ [x]) H₁ fun c H₂ => TruthP c fun b => (b = true → mwpE cx n elt (μ ++ [x]) H₂ fun v H₃ => K (some v) H₃) ∧ (b = false → K none H₂)) Q
noncomputable def mwpEs (cx : Cx) (n : Nat) : MEs → List V → HP → (List V → HP → Prop) → Prop
  | .nil, _, H, Q => Q [] H
  | .cons e es, μ, H, Q => mwpE cx n e μ H fun v H => mwpEs cx n es μ H fun vs H => Q (v :: vs) H
noncomputable def mwpB (cx : Cx) (n : Nat) (op : BoolOp) : MEs → List V → HP → (V → HP → Prop) → Prop
  | .nil, _, _, _ => False
  | .cons e es, μ, H, Q => match es with
    | .nil => mwpE cx n e μ H Q
    | .cons _ _ => mwpE cx n e μ H fun v H => TruthP v fun b => (b = (op == .And) → mwpB cx n op es μ H Q) ∧ (b = (op == .Or) → Q (.bool b) H)
end

noncomputable def ForP (items : List V) (st : HP → Prop) (μ₀ : List V) (H₀ : HP) (turn : V → List V → HP → (List V → HP → Prop) → Prop) (N : List V → HP → Prop) : Prop :=
  ∃ I : List V → List V → HP → Prop, I [] μ₀ H₀ ∧ (∀ done μ H, I done μ H → st H) ∧
    (∀ done x rest μ H, items = done ++ x :: rest → I done μ H → turn x μ H fun μ' H' => ∃ H₃, LE H₃ H' ∧ I (done ++ [x]) μ' H₃) ∧
    (∀ μ H, I items μ H → N μ H)

mutual
noncomputable def mwpS (cx : Cx) (n : Nat) : MS → List V → HP → (List V → HP → Prop) → (V → HP → Prop) → Prop
  | .assign i e, μ, H, N, _ => mwpE cx n e μ H fun v H => N (setL μ i v) H
  | .setSub o i v, μ, H, N, _ => mwpE cx n v μ H fun vv H => mwpE cx n o μ H fun ov H => mwpE cx n i μ H fun iv H => setSubP ov iv vv H fun H => N μ H
  | .expr e, μ, H, N, _ => mwpE cx n e μ H fun _ H => N μ H
  | .ite c t e, μ, H, N, R => mwpE cx n c μ H fun v H => TruthP v fun b => (b = true → mwpSs cx n t μ H N R) ∧ (b = false → mwpSs cx n e μ H N R)
  | .for_ i it body, μ, H, N, R => mwpE cx n it μ H fun v H => IterP cx v H fun items st H₀ => ForP items st μ H₀ (fun x μ H K => mwpSs cx n body (setL μ i x) H K R) N
  | .forR i a b body, μ, H, N, R => mwpE cx n a μ H fun x H => mwpE cx n b μ H fun y H => RngP x y fun items => ForP items (fun _ => True) μ H (fun x μ H K => mwpSs cx n body (setL μ i x) H K R) N
  | .while_ c body, μ, H, N, R => ∃ I : Nat → List V → HP → Prop, (∃ k, I k μ H) ∧ ∀ k μ H, I k μ H → mwpE cx n c μ H fun v H => TruthP v fun b =>
      (b = true → mwpSs cx n body μ H (fun μ' H' => ∃ H₃, LE H₃ H' ∧ ∃ m, m < k ∧ I m μ' H₃) R) ∧ (b = false → N μ H)
  | .ret e, μ, H, _, R => mwpE cx n e μ H R
noncomputable def mwpSs (cx : Cx) (n : Nat) : MSs → List V → HP → (List V → HP → Prop) → (V → HP → Prop) → Prop
  | .nil, μ, H, N, _ => N μ H
  | .cons s r, μ, H, N, R => mwpS cx n s μ H (fun μ H => mwpSs cx n r μ H N R) R
end

section
variable {cx : Cx} {n : Nat} {μ : List V} {H : HP} {Q : V → HP → Prop} {N : List V → HP → Prop} {R : V → HP → Prop} {QL : List V → HP → Prop}
theorem e_cint {i : Int} : mwpE cx n (.cint i) μ H Q = Q (.int i) H := rfl
theorem e_cbool {b : Bool} : mwpE cx n (.cbool b) μ H Q = Q (.bool b) H := rfl
theorem e_cnone : mwpE cx n .cnone μ H Q = Q .none H := rfl
theorem e_cstr {x : Str} : mwpE cx n (.cstr x) μ H Q = Q (.str x) H := rfl
theorem e_loc {i : Nat} : mwpE cx n (.loc i) μ H Q = (getL μ i ≠ .unb ∧ Q (getL μ i) H) := rfl
theorem e_bin {op : Operator} {l r : ME} : mwpE cx n (.bin op l r) μ H Q = mwpE cx n l μ H fun a H => mwpE cx n r μ H fun b H => binP cx op a b H Q := rfl
theorem e_not {e : ME} : mwpE cx n (.not e) μ H Q = mwpE cx n e μ H fun v H => TruthP v fun b => Q (.bool (!b)) H := rfl
theorem e_cmp {l r : ME} {op : CmpOp} : mwpE cx n (.cmp l op r) μ H Q = mwpE cx n l μ H fun a H => mwpE cx n r μ H fun b H => onO (cmpP cx op a b H) fun c => Q (.bool c) H := rfl
theorem e_bop {op : BoolOp} {es : MEs} : mwpE cx n (.bop op es) μ H Q = mwpB cx n op es μ H Q := rfl
theorem e_callf {f : Addr} {as : MEs} : mwpE cx n (.callf f as) μ H Q = mwpEs cx n as μ H fun vs H => CallP cx n f vs H Q := rfl
theorem e_callb {b : BF} {as : MEs} : mwpE cx n (.callb b as) μ H Q = mwpEs cx n as μ H fun vs H => callbP cx b vs H Q := rfl
theorem e_isi {e : ME} {t : String} : mwpE cx n (.isi e t) μ H Q = mwpE cx n e μ H fun v H => onO (isiP H v t) fun b => Q (.bool b) H := rfl
theorem e_meth {o : ME} {m : Mth} {as : MEs} : mwpE cx n (.meth o m as) μ H Q = mwpE cx n o μ H fun ov H => listAt ov H ∧ mwpEs cx n as μ H fun vs H => methP ov m vs H Q := rfl
theorem e_sub {o i : ME} : mwpE cx n (.sub o i) μ H Q = mwpE cx n o μ H fun ov H => mwpE cx n i μ H fun iv H => subP cx ov iv H Q := rfl
theorem e_slice {o lo hi : ME} : mwpE cx n (.slice o lo hi) μ H Q = mwpE cx n o μ H fun ov H => mwpE cx n lo μ H fun l H => mwpE cx n hi μ H fun h H => sliceP cx ov l h H Q := rfl
theorem e_list {es : MEs} : mwpE cx n (.list es) μ H Q = mwpEs cx n es μ H fun vs H => vs.length ≤ 16777216 ∧ new cx H (.list vs) Q := rfl
theorem e_tup {es : MEs} : mwpE cx n (.tup es) μ H Q = mwpEs cx n es μ H fun vs H => vs.length ≤ 16777216 ∧ new cx H (.tup vs) Q := rfl
theorem e_comp {elt it cond : ME} : mwpE cx n (.comp elt it cond) μ H Q = mwpE cx n it μ H fun v H => IterP cx v H fun items st H₀ => CompP cx items st H₀ (fun x H₁ K =>
      mwpE cx n cond (μ ++ [x]) H₁ fun c H₂ => TruthP c fun b => (b = true → mwpE cx n elt (μ ++ [x]) H₂ fun v H₃ => K (some v) H₃) ∧ (b = false → K none H₂)) Q := rfl
theorem e_compR {elt a b cond : ME} : mwpE cx n (.compR elt a b cond) μ H Q = mwpE cx n a μ H fun x H => mwpE cx n b μ H fun y H => RngP x y fun items => CompP cx items (fun _ => True) H (fun x H₁ K =>
      mwpE cx n cond (μ ++ [x]) H₁ fun c H₂ => TruthP c fun b => (b = true → mwpE cx n elt (μ ++ [x]) H₂ fun v H₃ => K (some v) H₃) ∧ (b = false → K none H₂)) Q := rfl
theorem es_nil : mwpEs cx n .nil μ H QL = QL [] H := rfl
theorem es_cons {e : ME} {es : MEs} : mwpEs cx n (.cons e es) μ H QL = mwpE cx n e μ H fun v H => mwpEs cx n es μ H fun vs H => QL (v :: vs) H := rfl
theorem b_one {op : BoolOp} {e : ME} : mwpB cx n op (.cons e .nil) μ H Q = mwpE cx n e μ H Q := rfl
theorem b_more {op : BoolOp} {e e' : ME} {es : MEs} : mwpB cx n op (.cons e (.cons e' es)) μ H Q = mwpE cx n e μ H fun v H => TruthP v fun b => (b = (op == .And) → mwpB cx n op (.cons e' es) μ H Q) ∧ (b = (op == .Or) → Q (.bool b) H) := rfl
theorem s_assign {i : Nat} {e : ME} : mwpS cx n (.assign i e) μ H N R = mwpE cx n e μ H fun v H => N (setL μ i v) H := rfl
theorem s_setSub {o i v : ME} : mwpS cx n (.setSub o i v) μ H N R = mwpE cx n v μ H fun vv H => mwpE cx n o μ H fun ov H => mwpE cx n i μ H fun iv H => setSubP ov iv vv H fun H => N μ H := rfl
theorem s_expr {e : ME} : mwpS cx n (.expr e) μ H N R = mwpE cx n e μ H fun _ H => N μ H := rfl
theorem s_ite {c : ME} {t e : MSs} : mwpS cx n (.ite c t e) μ H N R = mwpE cx n c μ H fun v H => TruthP v fun b => (b = true → mwpSs cx n t μ H N R) ∧ (b = false → mwpSs cx n e μ H N R) := rfl
theorem s_for {i : Nat} {it : ME} {body : MSs} : mwpS cx n (.for_ i it body) μ H N R = mwpE cx n it μ H fun v H => IterP cx v H fun items st H₀ => ForP items st μ H₀ (fun x μ H K => mwpSs cx n body (setL μ i x) H K R) N := rfl
theorem s_forR {i : Nat} {a b : ME} {body : MSs} : mwpS cx n (.forR i a b body) μ H N R = mwpE cx n a μ H fun x H => mwpE cx n b μ H fun y H => RngP x y fun items => ForP items (fun _ => True) μ H (fun x μ H K => mwpSs cx n body (setL μ i x) H K R) N := rfl
theorem s_while {c : ME} {body : MSs} : mwpS cx n (.while_ c body) μ H N R = ∃ I : Nat → List V → HP → Prop, (∃ k, I k μ H) ∧ ∀ k μ H, I k μ H → mwpE cx n c μ H fun v H => TruthP v fun b =>
      (b = true → mwpSs cx n body μ H (fun μ' H' => ∃ H₃, LE H₃ H' ∧ ∃ m, m < k ∧ I m μ' H₃) R) ∧ (b = false → N μ H) := rfl
theorem s_ret {e : ME} : mwpS cx n (.ret e) μ H N R = mwpE cx n e μ H R := rfl
theorem ss_nil : mwpSs cx n .nil μ H N R = N μ H := rfl
theorem ss_cons {s : MS} {r : MSs} : mwpSs cx n (.cons s r) μ H N R = mwpS cx n s μ H (fun μ H => mwpSs cx n r μ H N R) R := rfl
end
end Mine
end

section
namespace Mine
open PySem PyProof.Rows

noncomputable def EP (cx : Cx) (s : Shared) (H : HP) (Q : V → HP → Prop) : Value → Shared → Prop := fun v s' => ∃ H', HS cx H' s' ∧ KE s H s' H' ∧ Q (abs v) H'

theorem EP.from {cx : Cx} {s s₁ : Shared} {H H₁ : HP} {Q : V → HP → Prop} (k : KE s H s₁ H₁) {v : Value} {s' : Shared} (h : EP cx s₁ H₁ Q v s') : EP cx s H Q v s' := by
  obtain ⟨H', a, b, c⟩ := h
  exact ⟨H', a, k.trans b, c⟩
theorem ep_from {cx : Cx} {s s₁ : Shared} {H H₁ : HP} {Q : V → HP → Prop} {M : Model} {A : Around} {E : Value → Shared → Prop} {t : Sem Value} (k : KE s H s₁ H₁) (h : wpAny M A t (EP cx s₁ H₁ Q) E s₁) : wpAny M A t (EP cx s H Q) E s₁ :=
  wpAny_mono h (fun _ _ x => x.from k) fun _ _ e => e

theorem abs_bool {v : Value} {b : Bool} (h : abs v = .bool b) : v = .bool b := by cases v <;> first | (cases h; rfl) | cases h
theorem abs_int {v : Value} {i : Int} (h : abs v = .int i) : ∃ t, v = .int i t := by cases v <;> first | (cases h; exact ⟨_, rfl⟩) | cases h
theorem abs_ref {v : Value} {a : Addr} (h : abs v = .ref a) : v = .ref a := by cases v <;> first | (cases h; rfl) | cases h

section
variable {cx : Cx} {H : HP} {s : Shared} {A : Around} {E : Value → Shared → Prop} {n : Nat}

theorem lk_rep (C : cx.OK) (S : HS cx H s) {a : Addr} {o : O} (h : lk cx H a = some o) : Rep s.heap a o := by
  unfold lk at h
  split at h
  · rename_i e; cases h; exact S.hr a _ e
  · obtain ⟨vs, e, rfl⟩ := Option.map_eq_some_iff.mp h
    exact (C.z a vs e).keep (S.ext a)
theorem lst_get (C : cx.OK) (S : HS cx H s) {a : Addr} {vs : List V} (h : lst cx H a = some vs) : ∃ items k, IsL s.heap a items k ∧ items.toList.map abs = vs := by
  unfold lst at h
  split at h
  · rename_i e; cases h
    exact lk_rep C S e
  · cases h
theorem sq_get (C : cx.OK) (S : HS cx H s) {a : Addr} {vs : List V} (h : sq cx H a = some vs) :
    ∃ (T : String) (items : Array Value) (k : Nat), s.heap.get? a = some { cls := .type T, data := .seq items k } ∧ (T = "list" ∨ T = "tuple") ∧ items.toList.map abs = vs := by
  unfold sq at h
  split at h
  · rename_i e; cases h
    obtain ⟨i, k, q, m⟩ := lk_rep C S e
    exact ⟨_, i, k, q, .inl rfl, m⟩
  · rename_i e; cases h
    obtain ⟨i, k, q, m⟩ := lk_rep C S e
    exact ⟨_, i, k, q, .inr rfl, m⟩
  · cases h

theorem size_of {items : Array Value} {vs : List V} (h : items.toList.map abs = vs) : items.size = vs.length := by rw [← h]; simp

theorem ep_push (C : cx.OK) (S : HS cx H s) {Q : V → HP → Prop} {o : O} (h : new cx H o Q) {ob : Obj} (R : ∀ h : Heap, h.get? s.heap.objs.size = some ob → Rep h s.heap.objs.size o) (hf : ob.isFreed = false) (tk : Nat) :
    EP cx s H Q (.ref s.heap.objs.size) { s with heap := s.heap.push ob, toks := tk } := by
  have k : ∀ b o', s.heap.get? b = some o' → (s.heap.push ob).get? b = some o' := fun b o' e => Heap.get?_push_of_some _ e
  exact ⟨_, S.alloc k (get_size _) (R _ (Heap.get?_push_size _ hf)) tk, KE.alloc k (get_size _) tk, h _ (S.fresh C (get_size _))⟩
theorem rep_list {h : Heap} {a : Addr} {items : Array Value} {k : Nat} {vs : List V} (e : h.get? a = some { cls := .type "list", data := .seq items k }) (m : items.toList.map abs = vs) : Rep h a (.list vs) := ⟨items, k, e, m⟩
theorem rep_tup {h : Heap} {a : Addr} {items : Array Value} {k : Nat} {vs : List V} (e : h.get? a = some { cls := .type "tuple", data := .seq items k }) (m : items.toList.map abs = vs) : Rep h a (.tup vs) := ⟨items, k, e, m⟩

theorem ep_same {Q : V → HP → Prop} (S : HS cx H s) {v : Value} (tk : Nat) (h : Q (abs v) H) : EP cx s H Q v { s with toks := tk } := ⟨H, S.toks tk, KE.toks s H tk, h⟩
theorem ep_here {Q : V → HP → Prop} (S : HS cx H s) {v : Value} (h : Q (abs v) H) : EP cx s H Q v s := ⟨H, S, Kept.refl _ s H, h⟩
theorem ep_grow {Q : V → HP → Prop} (S : HS cx H s) {v : Value} {h' : Heap} {tk : Nat} (k : ∀ b o, s.heap.get? b = some o → h'.get? b = some o) (h : Q (abs v) H) :
    EP cx s H Q v { s with heap := h', toks := tk } := ⟨H, S.grow k tk, KE.grow k tk, h⟩

theorem replicate_fold (items : Array Value) (m : Nat) : (List.foldl (fun x1 x2 => x1 ++ x2) #[] (List.replicate m items)).toList = (List.replicate m items.toList).flatten := by
  have : ∀ (l : List (Array Value)) (acc : Array Value), (List.foldl (fun x1 x2 => x1 ++ x2) acc l).toList = acc.toList ++ (l.map Array.toList).flatten := by
    intro l
    induction l with
    | nil => intro acc; simp
    | cons x l ih => intro acc; rw [List.foldl_cons, ih]; simp
  rw [this]; simp

theorem pylong_room (C : cx.OK) (hA : AOK A n) (S : HS cx H s) : PylongRoom (model cx.prog cx.w) A s := by
  obtain ⟨env, outer, hf, h1, h2, h3, h4⟩ := hA.top
  refine PylongRoom.of (C.nolimit.keeps S.ext) ?_ (SeerAt.of (C.seer.keeps S.ext) C.tree hf h1 h2 h3 h4)
  have := hA.depth
  unfold recursionLimit Builtin.pylongFrames
  first | lia | omega

theorem add_ok (C : cx.OK) (S : HS cx H s) {a b : Value} {Q : V → HP → Prop} (h : addP cx (abs a) (abs b) H Q) : wpAny (model cx.prog cx.w) A (binaryOp .Add a b) (EP cx s H Q) E s := by
  cases a with
  | int x t =>
    obtain ⟨y, hb, h⟩ := onI_inv h
    obtain ⟨u, rfl⟩ := abs_int hb
    exact PyProof.Rows.add_int (ep_same S _ h)
  | ref x =>
    obtain ⟨y, hb, h⟩ := onR_inv h
    have := abs_ref hb; subst this
    obtain ⟨xs, hx, h⟩ := onO_inv h
    obtain ⟨ys, hy, h⟩ := onO_inv h
    obtain ⟨i1, k1, e1, m1⟩ := lst_get C S hx
    obtain ⟨i2, k2, e2, m2⟩ := lst_get C S hy
    refine PySem.P.add_list e1 e2 (ep_push C S h.2 (fun h e => rep_list e (by simp [m1, m2])) rfl _) ?_
    rw [size_of m1, size_of m2, sizeLine_eq]; exact h.1
  | _ => exact False.elim h
theorem mul_ok (C : cx.OK) (S : HS cx H s) {a b : Value} {Q : V → HP → Prop} (h : mulP cx (abs a) (abs b) H Q) : wpAny (model cx.prog cx.w) A (binaryOp .Mult a b) (EP cx s H Q) E s := by
  cases a with
  | int x t =>
    obtain ⟨y, hb, h⟩ := onI_inv h
    obtain ⟨u, rfl⟩ := abs_int hb
    exact PyProof.Rows.mul_int (ep_same S _ h.2) h.1
  | ref a =>
    obtain ⟨x, hb, h⟩ := onI_inv h
    obtain ⟨u, rfl⟩ := abs_int hb
    obtain ⟨xs, hx, hn0, hn, hsz, h⟩ := onO_inv h
    obtain ⟨i1, k1, e1, m1⟩ := lst_get C S hx
    rw [← size_of m1] at hsz
    refine wpAny_binaryOp_repeat_ref (T := "list") (U := "int") (by decide) ⟨_, e1, rfl⟩ (fun s' => typeIs_int s' x u) noFill_list_mul F.fills_int_mul F.slot_int_rmul repeat_list F.slot_int_index.lookup
        (call_meets F.slot_int_rmul (typeIs_int s x u) F.entry_int_rmul (F.args_int_rmul_2 _ _) (int___rmul___int_list x u _ i1 k1)
          ⟨e1, rfl, ⟨_, e1, rfl⟩, call_meets F.slot_list_mul ⟨_, e1, rfl⟩ F.entry_list_mul (F.args_list_mul_2 _ _)
            (AutoListH.list___mul___list_int_3 _ i1 k1 x u (by simp [Builtin.List.listFitsIndex]; omega) (by first | lia | omega) (by simp [Builtin.List.listTooLong, sizeLine]; omega))
            ⟨e1, ?_⟩⟩)
    refine ep_push C S h (fun h e => rep_list e ?_) rfl _
    rw [replicate_fold, ← m1]
    split
    · rename_i he
      have : i1 = #[] := by simpa using he
      subst this; simp
    · simp [List.map_flatten]
  | _ => exact False.elim h
theorem bin_ok (C : cx.OK) (hA : AOK A n) (S : HS cx H s) {op : Operator} {a b : Value} {Q : V → HP → Prop} (h : binP cx op (abs a) (abs b) H Q) :
    wpAny (model cx.prog cx.w) A (binaryOp op a b) (EP cx s H Q) E s := by
  have ii : ∀ {k : Int → Int → Prop}, (onI (abs a) fun x => onI (abs b) fun y => k x y) → ∃ x y t u, a = .int x t ∧ b = .int y u ∧ k x y := fun h => by
    obtain ⟨x, e1, h⟩ := onI_inv h
    obtain ⟨y, e2, h⟩ := onI_inv h
    obtain ⟨t, e1⟩ := abs_int e1
    obtain ⟨u, e2⟩ := abs_int e2
    exact ⟨x, y, t, u, e1, e2, h⟩
  cases op with
  | Add => exact add_ok C S h
  | Mult => exact mul_ok C S h
  | Sub =>
    obtain ⟨x, y, t, u, rfl, rfl, h⟩ := ii h
    exact PyProof.Rows.sub_int (ep_same S _ h)
  | FloorDiv =>
    obtain ⟨x, y, t, u, rfl, rfl, h1, h2⟩ := ii h
    exact PyProof.Rows.floordiv_int h1 (ep_same S _ h2) (Or.inr (pylong_room C hA S))
  | Mod =>
    obtain ⟨x, y, t, u, rfl, rfl, h1, h2⟩ := ii h
    exact PyProof.Rows.mod_int' h1 (ep_same S _ h2)
  | Pow =>
    obtain ⟨x, y, t, u, rfl, rfl, h1, h2, h3⟩ := ii h
    exact PyProof.Rows.pow_int h1 h2 (ep_same S _ h3)
  | _ => exact False.elim h
end
end Mine
end

section
namespace Mine
open PySem PyProof.Rows PySem.SeqAt

theorem asInts_some : ∀ {vs : List V} {l : List Int}, asInts vs = some l → vs = intsV l
  | [], l, h => by cases h; rfl
  | .int i :: r, l, h => by
    simp only [asInts, Option.map_eq_some_iff] at h
    obtain ⟨l', h1, rfl⟩ := h
    simp only [intsV, List.map_cons]; rw [asInts_some h1]; rfl
  | .unb :: _, _, h => by cases h
  | .none :: _, _, h => by cases h
  | .bool _ :: _, _, h => by cases h
  | .str _ :: _, _, h => by cases h
  | .ref _ :: _, _, h => by cases h
  | .other :: _, _, h => by cases h

noncomputable def hits (x : Int) : Value → Bool
  | .int i _ => i == x
  | _ => false

theorem any_hits {x : Int} : ∀ {items : List Value} {l : List Int}, items.map abs = intsV l → items.any (hits x) = l.contains x
  | [], [], _ => rfl
  | [], _ :: _, h => by cases h
  | _ :: _, [], h => by cases h
  | v :: r, i :: l, h => by
    simp only [intsV, List.map_cons, List.cons.injEq] at h
    obtain ⟨t, rfl⟩ := abs_int h.1
    rw [List.any_cons, List.contains_cons, any_hits (l := l) (by simpa [intsV] using h.2)]
    simp only [hits]
    rw [Bool.beq_comm]
theorem mem_int {items : List Value} {l : List Int} (h : items.map abs = intsV l) {y : Value} (hy : y ∈ items) : ∃ i t, y = .int i t := by
  have : abs y ∈ intsV l := by rw [← h]; exact List.mem_map_of_mem hy
  simp only [intsV, List.mem_map] at this
  obtain ⟨i, _, e⟩ := this
  obtain ⟨t, q⟩ := abs_int e.symm
  exact ⟨i, t, q⟩

section
variable {cx : Cx} {H : HP} {s : Shared} {A : Around} {E : Value → Shared → Prop} {n : Nat}

theorem cmpII_ok (S : HS cx H s) {op : CmpOp} {x y : Int} {t u : Tok} {c : Bool} {Q : V → HP → Prop} (h : cmpII op x y = some c) (hQ : Q (.bool c) H) : wpAny (model cx.prog cx.w) A (compareOp op (.int x t) (.int y u)) (EP cx s H Q) E s := by
  have fin : EP cx s H Q (.bool c) s := ep_here S hQ
  cases op with
  | Lt => cases h; exact PyProof.Rows.lt_int fin
  | Gt => cases h; exact PyProof.Rows.gt_int fin
  | Eq => cases h; exact PyProof.Rows.eq_int fin
  | NotEq => cases h; exact PyProof.Rows.ne_int fin
  | _ => cases h
theorem cmpNI_ok (C : cx.OK) (S : HS cx H s) {x : Int} {t : Tok} {a : Addr} {c : Bool} {Q : V → HP → Prop} (h : ((sq cx H a).bind fun vs => (asInts vs).map fun l => !l.contains x) = some c) (hQ : Q (.bool c) H) : wpAny (model cx.prog cx.w) A (compareOp .NotIn (.int x t) (.ref a)) (EP cx s H Q) E s := by
  have fin : EP cx s H Q (.bool c) s := ep_here S hQ
  obtain ⟨vs, hvs, h⟩ := Option.bind_eq_some_iff.mp h
  obtain ⟨l, hl, rfl⟩ := Option.map_eq_some_iff.mp h
  obtain ⟨T, items, k, e, hT, m⟩ := sq_get C S hvs
  rw [asInts_some hl] at m
  have hany : items.any (hits x) = l.contains x := by rw [← any_hits m, ← Array.any_toList]
  have he : ∀ y, y ∈ items → EqAt A.in1 s y (.int x t) (hits x y) := fun y hy => by
    obtain ⟨i, u, rfl⟩ := mem_int m (Array.mem_toList_iff.mpr hy)
    exact EqAt.int_int i u x t
  rcases hT with rfl | rfl
  · exact notIn_listAt (hits x) ⟨_, e, rfl, k, rfl⟩ he (by rw [hany]; exact fin)
  · exact notIn_tupleAt (hits x) ⟨_, e, rfl, k, rfl⟩ he (by rw [hany]; exact fin)
theorem cmp_ok (C : cx.OK) (S : HS cx H s) {op : CmpOp} {a b : Value} {c : Bool} {Q : V → HP → Prop} (h : cmpP cx op (abs a) (abs b) H = some c) (hQ : Q (.bool c) H) :
    wpAny (model cx.prog cx.w) A (compareOp op a b) (EP cx s H Q) E s := by
  cases a with
  | int x t => cases b with
    | int y u => exact cmpII_ok S h hQ
    | bool y => cases op with
      | IsNot => cases h; exact wpAny_isNot_other rfl (by simp) (ep_here S hQ)
      | _ => cases h
    | ref a => cases op with
      | NotIn => exact cmpNI_ok C S h hQ
      | _ => cases h
    | _ => cases h
  | str x t => cases b with
    | str y u => cases op with
      | Eq => cases h; exact PyProof.Rows.eq_str (ep_here S hQ)
      | _ => cases h
    | _ => cases h
  | _ => cases h

theorem isi_ok (S : HS cx H s) {v : Value} {t : String} {b : Bool} {Q : V → HP → Prop} (h : isiP H (abs v) t = some b) (hQ : Q (.bool b) H) :
    wpAny (model cx.prog cx.w) A (call (.builtin "isinstance") [v, .type t]) (EP cx s H Q) E s := by
  have key : ∀ {u : String}, (if t = u then some true else none) = some b → t = u ∧ b = true := fun {u} h => by
    by_cases q : t = u
    · rw [if_pos q] at h; cases h; exact ⟨q, rfl⟩
    · rw [if_neg q] at h; cases h
  cases v with
  | int x u => obtain ⟨rfl, rfl⟩ := key h; exact IsiPair.int_int (ep_here S hQ)
  | ref a =>
    have h : (match H a with
      | some (.list _) => if t = "list" then some true else none
      | some (.tup _) => if t = "tuple" then some true else none
      | _ => none) = some b := h
    cases e : H a with
    | none => rw [e] at h; cases h
    | some o =>
      rw [e] at h
      cases o with
      | list vs =>
        obtain ⟨rfl, rfl⟩ := key h
        obtain ⟨i, k, q, m⟩ := S.hr _ _ e
        exact IsiPair.list_list q rfl (ep_here S hQ)
      | tup vs =>
        obtain ⟨rfl, rfl⟩ := key h
        obtain ⟨i, k, q, m⟩ := S.hr _ _ e
        exact IsiPair.tuple_tuple q rfl (ep_here S hQ)
  | _ => cases h
end
end Mine
end

section
namespace Mine
open PySem PyProof.Rows

noncomputable def gallop' : Bool → Keyed → Array Keyed → Nat → Nat → Nat → StateT SortSt Sem (Option Nat) := sortPriv% PySem.Builtin.gallop

section
variable {prog : Program} {w : World} {A : Around} {E : Value → Shared → Prop} {s : Shared}

theorem wpS_pos {σ α : Type} {M : Model} {c : Prop} [Decidable c] {x y : StateT σ Sem α} {Q : α → σ → Prop} {st : σ} (h : c) (hx : wpS M A E s x Q st) : wpS M A E s (if c then x else y) Q st := by rw [if_pos h]; exact hx
theorem wpS_neg {σ α : Type} {M : Model} {c : Prop} [Decidable c] {x y : StateT σ Sem α} {Q : α → σ → Prop} {st : σ} (h : ¬ c) (hx : wpS M A E s y Q st) : wpS M A E s (if c then x else y) Q st := by rw [if_neg h]; exact hx
theorem wpS_lt {st : SortSt} {x y : Keyed} {a b : Int} {t u : Tok} {Q : Option Bool → SortSt → Prop} (hk : kindOf st = oneType') (hx : x.1 = .int a t) (hy : y.1 = .int b u) (h : Q (some (decide (a < b))) st) :
    wpS (model prog w) A E s (lt' x y) Q st := by
  rw [lt'_eq]
  refine wpS_bind (wpS_get ?_)
  rw [hk, keyLt'_oneType, hx, hy]
  refine wpS_bind (wpS_lift (wpAny_attempt (oneLt_int ⟨rfl, ?_⟩)))
  exact wpS_pure h

theorem wpS_elem {st : SortSt} {arr : Array Keyed} {i : Nat} {x : Keyed} {Q : Keyed → SortSt → Prop} (hx : arr[i]? = some x) (h : Q x st) : wpS (model prog w) A E s (elem' arr i) Q st := by
  rw [elem'_eq, hx]; exact wpS_pure h

theorem wpS_gallop {st : SortSt} {left : Bool} {key : Keyed} {arr : Array Keyed} {base n hint p : Nat} {kv : Int} {kt : Tok} {f : Nat → Int} {Q : Option Nat → SortSt → Prop} (hk : kindOf st = oneType') (hkey : key.1 = .int kv kt)
    (harr : ∀ i, i < n → ∃ x t, arr[base + i]? = some x ∧ x.1 = .int (f i) t) (hh : hint < n) (hp : p ≤ n)
    (hb : ∀ i, i < n → (if left then decide (f i < kv) else !decide (kv < f i)) = decide (i < p)) (h : Q (some p) st) : wpS (model prog w) A E s (gallop' left key arr base n hint) Q st := by
  have hbey : ∀ (i : Nat) (Q' : Option Bool → SortSt → Prop), i < n → Q' (some (decide (i < p))) st → wpS (model prog w) A E s (do let x ← elem' arr (base + i); if left = true then lt' x key else do let r ← lt' key x; pure (r.map fun x => !x)) Q' st := by
    intro i Q' hi hq
    obtain ⟨x, t, hx, hxt⟩ := harr i hi
    have hbi := hb i hi
    refine wpS_bind (wpS_elem hx ?_)
    cases left with
    | true =>
      simp only [if_true] at hbi ⊢
      exact wpS_lt hk hxt hkey (by rw [hbi]; exact hq)
    | false =>
      simp only [Bool.false_eq_true, if_false] at hbi ⊢
      refine wpS_bind (wpS_lt hk hkey hxt (wpS_pure ?_))
      rw [Option.map_some, hbi]; exact hq
  unfold gallop'
  refine wpS_bind (hbey hint _ hh ?_)
  dsimp only
  by_cases hr : hint < p
  · rw [if_pos (decide_eq_true hr)]
    refine wpS_bind (wpS_mono (wpS_forRange (I := fun x c st' => st' = st ∧ ∃ lst ofs, c = (none, lst, ofs) ∧ lst < ofs ∧ x + 1 ≤ ofs ∧ hint + lst < p) (Q := fun c st' => st' = st ∧ ∃ lst ofs, c = (none, lst, ofs) ∧ hint + lst < p ∧ p ≤ hint + min ofs (n - hint)) ?step ?fin ⟨rfl, 0, 1, rfl, by omega, by omega, by omega⟩) ?post)
    case post =>
      rintro c st' ⟨rfl, lst, ofs, rfl, h1, h2⟩
      dsimp only
      have q1 : hint + lst + 1 ≤ p := by omega
      have q2 : p ≤ hint + min ofs (n - hint) := by omega
      have q3 : hint + min ofs (n - hint) ≤ n := by omega
      generalize hint + lst + 1 = lo at q1
      generalize hint + min ofs (n - hint) = hi at q2 q3
      refine wpS_bind (wpS_mono (wpS_forRange (I := fun x c st'' => st'' = st' ∧ ∃ lo hi, c = (none, lo, hi) ∧ lo ≤ p ∧ p ≤ hi ∧ hi ≤ n ∧ hi - lo ≤ n - x) (Q := fun c st'' => st'' = st' ∧ ∃ lo, c = (none, lo, p)) ?stepA ?finA ⟨rfl, lo, hi, rfl, q1, q2, q3, by omega⟩) ?postA)
      case postA =>
        rintro c st'' ⟨rfl, lo, rfl⟩
        exact wpS_pure h
      case finA =>
        rintro c st'' ⟨rfl, lo, hi, rfl, h1, h2, h3, h4⟩
        have : hi = p := by omega
        subst this
        exact ⟨rfl, lo, rfl⟩
      case stepA =>
        rintro x c st'' _ hx ⟨rfl, lo, hi, rfl, h1, h2, h3, h4⟩
        dsimp only
        by_cases hge : lo ≥ hi
        · rw [if_pos hge]
          have : hi = p := by omega
          subst this
          exact wpS_pure ⟨rfl, lo, rfl⟩
        · rw [if_neg hge]
          refine wpS_bind (hbey _ _ (by omega) ?_)
          dsimp only
          by_cases hm : lo + (hi - lo) / 2 < p
          · rw [if_pos (decide_eq_true hm)]
            exact wpS_pure ⟨rfl, _, _, rfl, by omega, by omega, by omega, by omega⟩
          · rw [if_neg (by simpa using hm)]
            exact wpS_pure ⟨rfl, _, _, rfl, by omega, by omega, by omega, by omega⟩
    case fin =>
      rintro c st' ⟨rfl, lst, ofs, rfl, h1, h2, h3⟩
      exact ⟨rfl, lst, ofs, rfl, h3, by first | lia | omega⟩
    case step =>
      rintro x c st' _ hx ⟨rfl, lst, ofs, rfl, h1, h2, h3⟩
      dsimp only
      by_cases hge : ofs ≥ n - hint
      · rw [if_pos hge]
        exact wpS_pure ⟨rfl, lst, ofs, rfl, h3, by first | lia | omega⟩
      · rw [if_neg hge]
        refine wpS_bind (hbey _ _ (by omega) ?_)
        dsimp only
        by_cases hm : hint + ofs < p
        · rw [decide_eq_true hm]
          exact wpS_pure ⟨rfl, _, _, rfl, by omega, by omega, hm⟩
        · rw [decide_eq_false hm]
          exact wpS_pure ⟨rfl, _, _, rfl, h3, by first | lia | omega⟩
  · rw [if_neg (by simpa using hr)]
    refine wpS_bind (wpS_mono (wpS_forRange (I := fun x c st' => st' = st ∧ ∃ lst ofs, c = (none, lst, ofs) ∧ lst < ofs ∧ x + 1 ≤ ofs ∧ p ≤ hint - lst ∧ lst ≤ hint) (Q := fun c st' => st' = st ∧ ∃ lst ofs, c = (none, lst, ofs) ∧ hint + 1 - min ofs (hint + 1) ≤ p ∧ p ≤ hint - lst) ?step2 ?fin2 ⟨rfl, 0, 1, rfl, by omega, by omega, by first | lia | omega, by first | lia | omega⟩) ?post2)
    case post2 =>
      rintro c st' ⟨rfl, lst, ofs, rfl, h1, h2⟩
      dsimp only
      have q1 : hint + 1 - min ofs (hint + 1) ≤ p := by omega
      have q2 : p ≤ hint - lst := by omega
      have q3 : hint - lst ≤ n := by omega
      generalize hint + 1 - min ofs (hint + 1) = lo at q1
      generalize hint - lst = hi at q2 q3
      refine wpS_bind (wpS_mono (wpS_forRange (I := fun x c st'' => st'' = st' ∧ ∃ lo hi, c = (none, lo, hi) ∧ lo ≤ p ∧ p ≤ hi ∧ hi ≤ n ∧ hi - lo ≤ n - x) (Q := fun c st'' => st'' = st' ∧ ∃ lo, c = (none, lo, p)) ?stepB ?finB ⟨rfl, lo, hi, rfl, q1, q2, q3, by omega⟩) ?postB)
      case postB =>
        rintro c st'' ⟨rfl, lo, rfl⟩
        exact wpS_pure h
      case finB =>
        rintro c st'' ⟨rfl, lo, hi, rfl, h1, h2, h3, h4⟩
        have : hi = p := by omega
        subst this
        exact ⟨rfl, lo, rfl⟩
      case stepB =>
        rintro x c st'' _ hx ⟨rfl, lo, hi, rfl, h1, h2, h3, h4⟩
        dsimp only
        by_cases hge : lo ≥ hi
        · rw [if_pos hge]
          have : hi = p := by omega
          subst this
          exact wpS_pure ⟨rfl, lo, rfl⟩
        · rw [if_neg hge]
          refine wpS_bind (hbey _ _ (by omega) ?_)
          dsimp only
          by_cases hm : lo + (hi - lo) / 2 < p
          · rw [if_pos (decide_eq_true hm)]
            exact wpS_pure ⟨rfl, _, _, rfl, by omega, by omega, by omega, by omega⟩
          · rw [if_neg (by simpa using hm)]
            exact wpS_pure ⟨rfl, _, _, rfl, by omega, by omega, by omega, by omega⟩
    case fin2 =>
      rintro c st' ⟨rfl, lst, ofs, rfl, h1, h2, h3, h4⟩
      exact ⟨rfl, lst, ofs, rfl, by omega, h3⟩
    case step2 =>
      rintro x c st' _ hx ⟨rfl, lst, ofs, rfl, h1, h2, h3, h4⟩
      dsimp only
      by_cases hge : ofs ≥ hint + 1
      · rw [if_pos hge]
        exact wpS_pure ⟨rfl, lst, ofs, rfl, by omega, h3⟩
      · rw [if_neg hge]
        refine wpS_bind (hbey _ _ (by omega) ?_)
        dsimp only
        by_cases hm : hint - ofs < p
        · rw [decide_eq_true hm]
          exact wpS_pure ⟨rfl, _, _, rfl, by omega, h3⟩
        · rw [decide_eq_false hm]
          exact wpS_pure ⟨rfl, _, _, rfl, by omega, by omega, by first | lia | omega, by first | lia | omega⟩
end
end Mine
end

section
namespace Mine
open PySem PyProof.Rows

noncomputable def mergeLo' : Array Keyed → Array Keyed → StateT SortSt Sem (Array Keyed) := sortPriv% PySem.Builtin.mergeLo

section
variable {prog : Program} {w : World} {A : Around} {E : Value → Shared → Prop} {s : Shared}

noncomputable abbrev setGal (st : SortSt) (g : Nat) : SortSt := SortSt.mk' (kindOf st) (arrOf st) (pendingOf st) g (failedOf st)

theorem push_extract {b : Array Keyed} {k : Nat} {y : Keyed} (h : b[k]? = some y) : (b.extract 0 k).push y = b.extract 0 (k + 1) := by
  have hk : k < b.size := by
    rcases Nat.lt_or_ge k b.size with q | q
    · exact q
    · rw [getElem?_neg b k (by first | lia | omega)] at h; cases h
  apply Array.ext_getElem?
  intro i
  rw [Array.getElem?_push]
  simp only [Array.size_extract, Array.getElem?_extract]
  by_cases hi : i = k
  · subst hi; rw [if_pos (by first | lia | omega), if_pos (by first | lia | omega), Nat.zero_add]; exact h.symm
  · rw [if_neg (by first | lia | omega)]
    by_cases hl : i < k
    · rw [if_pos (by first | lia | omega), if_pos (by first | lia | omega)]
    · rw [if_neg (by first | lia | omega), if_neg (by first | lia | omega)]

theorem wpS_mergeLo {st : SortSt} {a b : Array Keyed} {f g : Nat → Int} {Q : Array Keyed → SortSt → Prop} (hk : kindOf st = oneType') (hg : gallopOf st = 7)
    (ha : ∀ i, i < a.size → ∃ x t, a[i]? = some x ∧ x.1 = .int (f i) t) (hb : ∀ i, i < b.size → ∃ x t, b[i]? = some x ∧ x.1 = .int (g i) t) (hlt : ∀ i j, i < b.size → j < a.size → g i < f j) (h2 : 2 ≤ a.size) (h10 : 10 ≤ b.size)
    (h : ∀ g', Q (b ++ a) (setGal st g')) : wpS (model prog w) A E s (mergeLo' a b) Q st := by
  unfold mergeLo'
  refine wpS_bind (wpS_lift (wpAny_rule ⟨rfl, ?_⟩))
  obtain ⟨y0, t0, hy0, hyt0⟩ := hb 0 (by first | lia | omega)
  refine wpS_bind (wpS_elem hy0 ?_)
  refine wpS_neg (by simp; omega) (wpS_neg (by simp; omega) (wpS_bind (wpS_get ?_)))
  have e0 : #[y0] = b.extract 0 1 := by rw [← push_extract hy0]; simp
  rw [show (sortPriv% PySem.Builtin.SortState.minGallop) st = 7 from hg, e0]
  refine wpS_bind (wpS_mono (wpS_forRange (I := fun x c st' => x = 0 ∧ c = (none, b.extract 0 1, 0, 1, 7) ∧ st' = st) (Q := fun c st' => c.1 = some (b ++ a) ∧ ∃ g', st' = setGal st g') ?step ?fin ⟨rfl, rfl, rfl⟩) ?post)
  case post =>
    rintro ⟨c1, c2⟩ st' ⟨h1, g', rfl⟩
    dsimp only at h1
    subst h1
    exact wpS_pure (h g')
  case fin =>
    rintro c st' ⟨h1, _⟩
    first | lia | omega
  case step =>
    rintro x c st' _ _ ⟨rfl, rfl, rfl⟩
    dsimp only
    refine wpS_bind (wpS_mono (wpS_forRange (I := fun x c st'' => x ≤ 6 ∧ c = (none, b.extract 0 (x + 1), 0, x + 1, 0, x) ∧ st'' = st') (Q := fun c st'' => c = (none, b.extract 0 8, 0, 8, 0, 7) ∧ st'' = st') ?step1 ?fin1 ⟨by first | lia | omega, rfl, rfl⟩) ?post1)
    case fin1 =>
      rintro c st'' ⟨h1, _⟩
      first | lia | omega
    case step1 =>
      rintro x c st'' _ _ ⟨hx, rfl, rfl⟩
      dsimp only
      obtain ⟨y, t, hy, hyt⟩ := hb (x + 1) (by first | lia | omega)
      obtain ⟨z, u, hz, hzu⟩ := ha 0 (by first | lia | omega)
      refine wpS_bind (wpS_elem hy ?_)
      refine wpS_bind (wpS_elem hz ?_)
      refine wpS_bind (wpS_lt hk hyt hzu ?_)
      rw [decide_eq_true (hlt _ _ (by first | lia | omega) (by first | lia | omega))]
      refine wpS_pos rfl (wpS_bind (wpS_elem hy (wpS_neg (by simp; omega) ?_)))
      rw [push_extract hy]
      by_cases h6 : x = 6
      · subst h6
        exact wpS_pos (by first | lia | omega) (wpS_pure ⟨rfl, rfl⟩)
      · exact wpS_neg (by first | lia | omega) (wpS_pure ⟨by first | lia | omega, rfl, rfl⟩)
    case post1 =>
      rintro c st'' ⟨rfl, rfl⟩
      dsimp only
      refine wpS_bind (wpS_lift (wpAny_rule ⟨rfl, ?_⟩))
      refine wpS_bind (wpS_mono (wpS_forRange (I := fun x c st' => x = 0 ∧ c = (none, b.extract 0 8, 0, 8, 8, 0, 7) ∧ st' = st'') (Q := fun c st' => c.1 = some (b ++ a) ∧ ∃ g', st' = setGal st'' g') ?step2 ?fin2 ⟨rfl, rfl, rfl⟩) ?post2)
      case fin2 =>
        rintro c st' ⟨h1, _⟩
        first | lia | omega
      case post2 =>
        rintro ⟨c1, c2⟩ st' ⟨h1, g', rfl⟩
        dsimp only at h1
        subst h1
        exact wpS_pure ⟨rfl, g', rfl⟩
      case step2 =>
        rintro x c st' _ _ ⟨rfl, rfl, rfl⟩
        dsimp only
        refine wpS_pos (by first | lia | omega) (wpS_bind (wpS_modify ?_))
        obtain ⟨y, t, hy, hyt⟩ := hb 8 (by first | lia | omega)
        obtain ⟨z, u, hz, hzu⟩ := ha 0 (by first | lia | omega)
        refine wpS_bind (wpS_elem hy ?_)
        refine wpS_bind (wpS_gallop (p := 0) (f := f) hk hyt (fun i hi => by rw [Nat.zero_add]; exact ha i (by first | lia | omega)) (by first | lia | omega) (by first | lia | omega) (fun i hi => ?_) ?_)
        · simp only [Bool.false_eq_true, if_false, Nat.not_lt_zero, decide_false]
          rw [decide_eq_true (hlt 8 i (by first | lia | omega) (by first | lia | omega))]; rfl
        refine wpS_neg (by first | lia | omega) (wpS_bind (wpS_elem hy (wpS_neg (by simp; omega) (wpS_bind (wpS_elem hz ?_)))))
        refine wpS_bind (wpS_gallop (p := b.size - 9) (f := fun i => g (9 + i)) hk hzu (fun i hi => hb (9 + i) (by first | lia | omega)) (by first | lia | omega) (by first | lia | omega) (fun i hi => ?_) ?_)
        · simp only [if_true]
          rw [decide_eq_true (hlt (9 + i) 0 (by first | lia | omega) (by first | lia | omega)), decide_eq_true hi]
        refine wpS_pos (by first | lia | omega) (wpS_pos (by simp; omega) (wpS_pure ⟨?_, _, rfl⟩))
        dsimp only
        rw [push_extract hy, show 8 + 1 + (b.size - 9) = b.size from by omega]
        have e1 : b.extract 0 (8 + 1) ++ b.extract (8 + 1) b.size = b := by
          rw [Array.extract_append_extract]; simp
          try omega
        rw [Array.append_assoc, Array.append_assoc, ← Array.append_assoc, e1]
        simp
end
end Mine
end

section
namespace Mine
open PySem PyProof.Rows

noncomputable def mergeAtM : Nat → StateT SortSt Sem Bool := sortPriv% PySem.Builtin.mergeAt

section
variable {prog : Program} {w : World} {A : Around} {E : Value → Shared → Prop} {s : Shared} {P : Nat → Keyed} {m : Nat}

noncomputable def PW (P : Nat → Keyed) (xs : Array Keyed) (m : Nat) (f : Nat → Nat) : Prop := xs.size = m ∧ ∀ i, i < m → xs[i]? = some (P (f i))

theorem wpS_ltPW {st : SortSt} {xs : Array Keyed} {f : Nat → Nat} {i j : Nat} {Q : Option Bool → SortSt → Prop} (hP : ∀ v, ∃ t, (P v).1 = .int (v : Int) t) (hk : kindOf st = oneType') (hx : PW P xs m f) (hi : i < m) (hj : j < m)
    (h : Q (some (decide (f i < f j))) (setArr st xs)) : wpS (model prog w) A E s (ltAt' i j) Q (setArr st xs) := by
  obtain ⟨t, ht⟩ := hP (f i)
  obtain ⟨u, hu⟩ := hP (f j)
  rw [ltAt'_eq]
  refine wpS_bind (wpS_get ?_)
  refine wpS_bind (wpS_elem (hx.2 i hi) ?_)
  refine wpS_bind (wpS_elem (hx.2 j hj) ?_)
  refine wpS_lt hk ht hu ?_
  rw [show decide ((f i : Int) < (f j : Int)) = decide (f i < f j) from by simp]
  exact h

theorem wpS_run0 {st : SortSt} {xs : Array Keyed} {Q : Option Nat → SortSt → Prop} (hP : ∀ v, ∃ t, (P v).1 = .int (v : Int) t) (hk : kindOf st = oneType') (hm : 64 ≤ m) (hx : PW P xs m fun i => if i = 0 then 0 else m - i)
    (h : Q (some 2) (setArr st xs)) : wpS (model prog w) A E s (countRun' 0 (m - 0)) Q (setArr st xs) := by
  rw [countRun'_eq]
  simp only [Nat.sub_zero, Nat.zero_add]
  refine wpS_bind (wpS_mono (wpS_forRange (I := fun x c st' => (x = 1 ∧ c = (none, 1) ∨ x = 2 ∧ c = (none, 2)) ∧ st' = setArr st xs) (Q := fun c st' => c = (none, 2) ∧ st' = setArr st xs) ?step ?fin ⟨.inl ⟨rfl, rfl⟩, rfl⟩) ?post)
  case fin =>
    rintro c st' ⟨⟨h1, _⟩ | ⟨h1, _⟩, _⟩ <;> omega
  case step =>
    rintro x c st' _ _ ⟨⟨rfl, rfl⟩ | ⟨rfl, rfl⟩, rfl⟩
    · dsimp only
      refine wpS_bind (wpS_ltPW hP hk hx (by first | with_reducible exact Int.natCast_nonneg _ | with_reducible assumption | lia | omega) (by first | with_reducible exact Int.natCast_nonneg _ | with_reducible assumption | lia | omega) ?_)
      rw [decide_eq_false (by simp)]
      exact wpS_pure ⟨.inr ⟨rfl, rfl⟩, rfl⟩
    · dsimp only
      refine wpS_bind (wpS_ltPW hP hk hx (by first | with_reducible exact Int.natCast_nonneg _ | with_reducible assumption | lia | omega) (by first | with_reducible exact Int.natCast_nonneg _ | with_reducible assumption | lia | omega) ?_)
      rw [decide_eq_true (by simp; omega)]
      exact wpS_pure ⟨rfl, rfl⟩
  case post =>
    rintro c st' ⟨rfl, rfl⟩
    dsimp only
    rw [if_neg (by simp; omega), if_pos (by first | with_reducible exact Int.natCast_nonneg _ | with_reducible assumption | lia | omega)]
    refine wpS_bind (wpS_ltPW hP hk hx (by first | with_reducible exact Int.natCast_nonneg _ | with_reducible assumption | lia | omega) (by first | with_reducible exact Int.natCast_nonneg _ | with_reducible assumption | lia | omega) ?_)
    rw [decide_eq_true (by simp; omega)]
    exact wpS_pure h

noncomputable def fk (m k i : Nat) : Nat := if i = 0 then 0 else if i < k then m - k + i else m - i

theorem wpS_bin0 {st : SortSt} {xs : Array Keyed} {mr : Nat} {Q : Bool → SortSt → Prop} (hP : ∀ v, ∃ t, (P v).1 = .int (v : Int) t) (hk : kindOf st = oneType') (hm : 64 ≤ m) (hmr : 2 ≤ mr) (hmr2 : mr < m) (hx : PW P xs m (fk m 2))
    (h : ∀ ys, PW P ys m (fk m mr) → Q true (setArr st ys)) : wpS (model prog w) A E s (binarySort' 0 mr 2) Q (setArr st xs) := by
  rw [binarySort'_eq]
  simp only [Nat.zero_add]
  refine wpS_bind (wpS_mono (wpS_forRange (I := fun k c st' => c = (none, ()) ∧ ∃ ys, st' = setArr st ys ∧ PW P ys m (fk m k)) (Q := fun c st' => c = (none, ()) ∧ ∃ ys, st' = setArr st ys ∧ PW P ys m (fk m mr)) ?step ?fin ⟨rfl, xs, rfl, hx⟩) ?post)
  case post =>
    rintro c st' ⟨rfl, ys, rfl, hy⟩
    exact wpS_pure (h ys hy)
  case fin =>
    rintro c st' ⟨hc, ys, h1, h2⟩
    rw [show max (max 2 1) mr = mr by first | with_reducible exact Int.natCast_nonneg _ | with_reducible assumption | lia | omega] at h2
    exact ⟨hc, ys, h1, h2⟩
  case step =>
    rintro k c st' hk2 hkn ⟨rfl, ys, rfl, hy⟩
    have hk2 : 2 ≤ k := by first | with_reducible exact Int.natCast_nonneg _ | with_reducible assumption | lia | omega
    refine wpS_bind (wpS_mono (wpS_forRange (I := fun x c st'' => st'' = setArr st ys ∧ ∃ l r, c = (none, l, r) ∧ l ≤ 1 ∧ 1 ≤ r ∧ r ≤ k ∧ r - l ≤ k - x) (Q := fun c st'' => st'' = setArr st ys ∧ ∃ r, c = (none, 1, r)) ?istep ?ifin ⟨rfl, 0, k, rfl, by first | with_reducible exact Int.natCast_nonneg _ | with_reducible assumption | lia | omega, by first | with_reducible exact Int.natCast_nonneg _ | with_reducible assumption | lia | omega, by first | with_reducible exact Int.natCast_nonneg _ | with_reducible assumption | lia | omega, by first | with_reducible exact Int.natCast_nonneg _ | with_reducible assumption | lia | omega⟩) ?ipost)
    case ifin =>
      rintro c st'' ⟨rfl, l, r, rfl, h1, h2, h3, h4⟩
      have : l = 1 := by first | with_reducible exact Int.natCast_nonneg _ | with_reducible assumption | lia | omega
      subst this
      exact ⟨rfl, r, rfl⟩
    case istep =>
      rintro x c st'' _ hxk ⟨rfl, l, r, rfl, h1, h2, h3, h4⟩
      dsimp only
      by_cases hge : l ≥ r
      · rw [if_pos hge]
        have : l = 1 := by first | with_reducible exact Int.natCast_nonneg _ | with_reducible assumption | lia | omega
        subst this
        exact wpS_pure ⟨rfl, r, rfl⟩
      · rw [if_neg hge]
        refine wpS_bind (wpS_ltPW hP hk hy (by first | with_reducible exact Int.natCast_nonneg _ | with_reducible assumption | lia | omega) (by first | with_reducible exact Int.natCast_nonneg _ | with_reducible assumption | lia | omega) ?_)
        have e1 : fk m k k = m - k := by unfold fk; rw [if_neg (by first | with_reducible exact Int.natCast_nonneg _ | with_reducible assumption | lia | omega), if_neg (by first | with_reducible exact Int.natCast_nonneg _ | with_reducible assumption | lia | omega)]
        rw [e1]
        by_cases h0 : (l + r) / 2 = 0
        · rw [h0, decide_eq_false (by simp [fk])]
          exact wpS_pure ⟨rfl, _, _, rfl, by first | with_reducible exact Int.natCast_nonneg _ | with_reducible assumption | lia | omega, by first | with_reducible exact Int.natCast_nonneg _ | with_reducible assumption | lia | omega, by first | with_reducible exact Int.natCast_nonneg _ | with_reducible assumption | lia | omega, by first | with_reducible exact Int.natCast_nonneg _ | with_reducible assumption | lia | omega⟩
        · have e2 : fk m k ((l + r) / 2) = m - k + (l + r) / 2 := by unfold fk; rw [if_neg h0, if_pos (by first | with_reducible exact Int.natCast_nonneg _ | with_reducible assumption | lia | omega)]
          rw [e2, decide_eq_true (by first | with_reducible exact Int.natCast_nonneg _ | with_reducible assumption | lia | omega)]
          exact wpS_pure ⟨rfl, _, _, rfl, by first | with_reducible exact Int.natCast_nonneg _ | with_reducible assumption | lia | omega, by first | with_reducible exact Int.natCast_nonneg _ | with_reducible assumption | lia | omega, by first | with_reducible exact Int.natCast_nonneg _ | with_reducible assumption | lia | omega, by first | with_reducible exact Int.natCast_nonneg _ | with_reducible assumption | lia | omega⟩
    case ipost =>
      rintro c st'' ⟨rfl, r, rfl⟩
      dsimp only
      rw [moveDown'_eq]
      refine wpS_bind (wpS_modify (wpS_pure ⟨rfl, bubble ys k (k - 1), rfl, ?_, ?_⟩))
      · rw [bubble_size]; exact hy.1
      · intro i hi
        rw [getElem?_bubble (by rw [hy.1]; omega) _ (by first | with_reducible exact Int.natCast_nonneg _ | with_reducible assumption | lia | omega)]
        rw [show k - (k - 1) = 1 by first | with_reducible exact Int.natCast_nonneg _ | with_reducible assumption | lia | omega]
        by_cases q1 : i = 1
        · rw [if_pos q1, hy.2 k (by first | with_reducible exact Int.natCast_nonneg _ | with_reducible assumption | lia | omega)]
          unfold fk
          rw [if_neg (by first | with_reducible exact Int.natCast_nonneg _ | with_reducible assumption | lia | omega), if_neg (by first | with_reducible exact Int.natCast_nonneg _ | with_reducible assumption | lia | omega), if_neg (by first | with_reducible exact Int.natCast_nonneg _ | with_reducible assumption | lia | omega), if_pos (by first | with_reducible exact Int.natCast_nonneg _ | with_reducible assumption | lia | omega)]
          congr 2; first | lia | omega
        · rw [if_neg q1]
          by_cases q2 : 1 < i ∧ i ≤ k
          · rw [if_pos q2, hy.2 (i - 1) (by omega)]
            unfold fk
            rw [if_neg (by omega), if_pos (by omega), if_neg (by first | with_reducible exact Int.natCast_nonneg _ | with_reducible assumption | lia | omega), if_pos (by first | with_reducible exact Int.natCast_nonneg _ | with_reducible assumption | lia | omega)]
            congr 2; first | lia | omega
          · rw [if_neg q2, hy.2 i hi]
            unfold fk
            by_cases q3 : i = 0
            · rw [if_pos q3, if_pos q3]
            · rw [if_neg q3, if_neg q3, if_neg (by first | with_reducible exact Int.natCast_nonneg _ | with_reducible assumption | lia | omega), if_neg (by first | with_reducible exact Int.natCast_nonneg _ | with_reducible assumption | lia | omega)]

noncomputable def f2 (m mr i : Nat) : Nat := if i = 0 then 0 else if i < mr then m - mr + i else i - mr + 1

theorem wpS_run1 {st : SortSt} {xs : Array Keyed} {mr : Nat} {Q : Option Nat → SortSt → Prop} (hP : ∀ v, ∃ t, (P v).1 = .int (v : Int) t) (hk : kindOf st = oneType') (hmr : 2 ≤ mr) (hmr2 : mr + 4 ≤ m) (hx : PW P xs m (fk m mr))
    (h : ∀ ys, PW P ys m (f2 m mr) → Q (some (m - mr)) (setArr st ys)) : wpS (model prog w) A E s (countRun' mr (m - mr)) Q (setArr st xs) := by
  have hdesc : ∀ i, mr ≤ i → i + 1 < m → fk m mr (i + 1) < fk m mr i := by
    intro i h1 h2
    unfold fk
    rw [if_neg (by first | with_reducible exact Int.natCast_nonneg _ | with_reducible assumption | lia | omega), if_neg (by first | with_reducible exact Int.natCast_nonneg _ | with_reducible assumption | lia | omega), if_neg (by first | with_reducible exact Int.natCast_nonneg _ | with_reducible assumption | lia | omega), if_neg (by first | with_reducible exact Int.natCast_nonneg _ | with_reducible assumption | lia | omega)]; first | lia | omega
  rw [countRun'_eq]
  refine wpS_bind (wpS_mono (wpS_forRange (I := fun x c st' => x = 1 ∧ c = (none, 1) ∧ st' = setArr st xs) (Q := fun c st' => c = (none, 1) ∧ st' = setArr st xs) ?step ?fin ⟨rfl, rfl, rfl⟩) ?post)
  case fin =>
    rintro c st' ⟨h1, _⟩; first | lia | omega
  case step =>
    rintro x c st' _ _ ⟨rfl, rfl, rfl⟩
    dsimp only
    refine wpS_bind (wpS_ltPW hP hk hx (by first | with_reducible exact Int.natCast_nonneg _ | with_reducible assumption | lia | omega) (by first | with_reducible exact Int.natCast_nonneg _ | with_reducible assumption | lia | omega) ?_)
    rw [decide_eq_true (by rw [Nat.add_sub_cancel]; exact hdesc mr (by first | with_reducible exact Int.natCast_nonneg _ | with_reducible assumption | lia | omega) (by first | with_reducible exact Int.natCast_nonneg _ | with_reducible assumption | lia | omega))]
    exact wpS_pure ⟨rfl, rfl⟩
  case post =>
    rintro c st' ⟨rfl, rfl⟩
    dsimp only
    rw [if_neg (by simp; omega), if_neg (by first | with_reducible exact Int.natCast_nonneg _ | with_reducible assumption | lia | omega)]
    refine wpS_bind (wpS_lift (wpAny_rule ⟨rfl, ?_⟩))
    refine wpS_bind (wpS_mono (wpS_forRange (I := fun x c st' => c = (none, x, 0) ∧ st' = setArr st xs) (Q := fun c st' => c = (none, m - mr, 0) ∧ st' = setArr st xs) ?step1 ?fin1 ⟨rfl, rfl⟩) ?post1)
    case fin1 =>
      rintro c st' ⟨rfl, rfl⟩
      rw [show max (1 + 1) (m - mr) = m - mr by first | with_reducible exact Int.natCast_nonneg _ | with_reducible assumption | lia | omega]
      exact ⟨rfl, rfl⟩
    case step1 =>
      rintro x c st' h1 h2 ⟨rfl, rfl⟩
      dsimp only
      refine wpS_bind (wpS_ltPW hP hk hx (by first | with_reducible exact Int.natCast_nonneg _ | with_reducible assumption | lia | omega) (by first | with_reducible exact Int.natCast_nonneg _ | with_reducible assumption | lia | omega) ?_)
      rw [decide_eq_true (by have := hdesc (mr + x - 1) (by first | with_reducible exact Int.natCast_nonneg _ | with_reducible assumption | lia | omega) (by first | with_reducible exact Int.natCast_nonneg _ | with_reducible assumption | lia | omega); rwa [show mr + x - 1 + 1 = mr + x by first | with_reducible exact Int.natCast_nonneg _ | with_reducible assumption | lia | omega] at this)]
      dsimp only
      rw [if_pos rfl, if_neg (by first | with_reducible exact Int.natCast_nonneg _ | with_reducible assumption | lia | omega)]
      exact wpS_pure ⟨rfl, rfl⟩
    case post1 =>
      rintro c st' ⟨rfl, rfl⟩
      dsimp only
      rw [if_neg (by first | with_reducible exact Int.natCast_nonneg _ | with_reducible assumption | lia | omega)]
      refine wpS_bind (wpS_reverse ?_)
      refine wpS_bind (wpS_mono (wpS_forRange (I := fun x c st' => c = (none, m - mr) ∧ st' = setArr st (mirror xs mr (mr + (m - mr)) ((mr + (m - mr) - mr) / 2))) (Q := fun c st' => c = (none, m - mr) ∧ st' = setArr st (mirror xs mr (mr + (m - mr)) ((mr + (m - mr) - mr) / 2))) ?step2 (fun _ _ hh => hh) ⟨rfl, rfl⟩) ?post2)
      case step2 =>
        rintro x c st' h1 h2 _
        first | lia | omega
      case post2 =>
        rintro c st' ⟨rfl, rfl⟩
        refine wpS_pure (h _ ⟨?_, ?_⟩)
        · rw [mirror_size]; exact hx.1
        · intro i hi
          rw [getElem?_mirror_all (by rw [hx.1]; omega)]
          by_cases q : mr ≤ i ∧ i < mr + (m - mr)
          · rw [if_pos q, hx.2 _ (by omega)]
            unfold fk f2
            rw [if_neg (by first | with_reducible exact Int.natCast_nonneg _ | with_reducible assumption | lia | omega), if_neg (by first | with_reducible exact Int.natCast_nonneg _ | with_reducible assumption | lia | omega), if_neg (by first | with_reducible exact Int.natCast_nonneg _ | with_reducible assumption | lia | omega), if_neg (by first | with_reducible exact Int.natCast_nonneg _ | with_reducible assumption | lia | omega)]
            congr 2; first | lia | omega
          · rw [if_neg q, hx.2 i hi]
            unfold fk f2
            by_cases q3 : i = 0
            · rw [if_pos q3, if_pos q3]
            · rw [if_neg q3, if_neg q3, if_pos (by first | with_reducible exact Int.natCast_nonneg _ | with_reducible assumption | lia | omega), if_pos (by first | with_reducible exact Int.natCast_nonneg _ | with_reducible assumption | lia | omega)]
end
end Mine
end

section
namespace Mine
open PySem PyProof.Rows

section
variable {prog : Program} {w : World} {A : Around} {E : Value → Shared → Prop} {s : Shared} {P : Nat → Keyed} {m : Nat}

theorem wpS_set {σ : Type} {M : Model} {x : σ} {Q : PUnit → σ → Prop} {st : σ} (h : Q ⟨⟩ x) : wpS M A E s (set x : StateT σ Sem PUnit) Q st := by
  unfold wpS; rw [StateT.run_set]; exact wpAny_pure ⟨rfl, h⟩

noncomputable def foldSet (sa : Nat) (l : List (Keyed × Nat)) (xs : Array Keyed) : Array Keyed := List.foldl (fun a x => match x with | (p, j) => a.setIfInBounds (sa + j) p) xs l
theorem foldSet_size (sa : Nat) : ∀ (l : List (Keyed × Nat)) (xs : Array Keyed), (foldSet sa l xs).size = xs.size
  | [], xs => rfl
  | (p, j) :: l, xs => by
    show (foldSet sa l (xs.setIfInBounds (sa + j) p)).size = _
    rw [foldSet_size sa l]; simp
theorem foldSet_get (sa : Nat) : ∀ (l : List Keyed) (n : Nat) (xs : Array Keyed) (i : Nat), sa + n + l.length ≤ xs.size →
    (foldSet sa (l.zipIdx n) xs)[i]? = if sa + n ≤ i ∧ i < sa + n + l.length then l[i - (sa + n)]? else xs[i]?
  | [], n, xs, i, _ => by
    rw [if_neg (by simp only [List.length_nil]; omega)]; rfl
  | p :: l, n, xs, i, hl => by
    rw [List.length_cons] at hl
    rw [List.zipIdx_cons]
    show (foldSet sa (l.zipIdx (n + 1)) (xs.setIfInBounds (sa + n) p))[i]? = _
    rw [foldSet_get sa l (n + 1) _ i (by simp; omega), List.length_cons]
    by_cases h1 : i = sa + n
    · subst h1
      rw [if_neg (by first | with_reducible exact Int.natCast_nonneg _ | with_reducible assumption | lia | omega), if_pos (by first | with_reducible exact Int.natCast_nonneg _ | with_reducible assumption | lia | omega), Nat.sub_self, List.getElem?_cons_zero, Array.getElem?_setIfInBounds, if_pos rfl, if_pos (by omega)]
    · by_cases h2 : sa + (n + 1) ≤ i ∧ i < sa + (n + 1) + l.length
      · rw [if_pos h2, if_pos (by first | with_reducible exact Int.natCast_nonneg _ | with_reducible assumption | lia | omega)]
        rw [show i - (sa + n) = (i - (sa + (n + 1))) + 1 by first | with_reducible exact Int.natCast_nonneg _ | with_reducible assumption | lia | omega, List.getElem?_cons_succ]
      · rw [if_neg h2, if_neg (by first | with_reducible exact Int.natCast_nonneg _ | with_reducible assumption | lia | omega)]
        rw [Array.getElem?_setIfInBounds, if_neg (by first | with_reducible exact Int.natCast_nonneg _ | with_reducible assumption | lia | omega)]

theorem wpS_merge0 {st : SortSt} {xs : Array Keyed} {mr pw : Nat} {Q : Bool → SortSt → Prop} (hP : ∀ v, ∃ t, (P v).1 = .int (v : Int) t) (hk : kindOf st = oneType') (hf : failedOf st = none) (hg : gallopOf st = 7)
    (hmr : 10 ≤ mr) (hmr2 : mr + 10 ≤ m) (hmr3 : mr - 1 ≤ m - mr) (hx : PW P xs m (f2 m mr))
    (h : ∀ ys g', PW P ys m (fun i => i) → Q true (SortSt.mk' oneType' ys #[(0, m, pw)] g' none)) :
    wpS (model prog w) A E s (mergeAt' 0) Q (setPending (setArr st xs) #[(0, mr, pw), (mr, m - mr, 0)]) := by
  unfold mergeAt'
  refine wpS_bind (wpS_get ?_)
  refine wpS_bind (wpS_set ?_)
  have hf2a : ∀ i, i < mr → i ≠ 0 → f2 m mr i = m - mr + i := fun i h1 h2 => by unfold f2; rw [if_neg h2, if_pos h1]
  have hf2b : ∀ i, f2 m mr (mr + i) = i + 1 := fun i => by unfold f2; rw [if_neg (by first | with_reducible exact Int.natCast_nonneg _ | with_reducible assumption | lia | omega), if_neg (by first | with_reducible exact Int.natCast_nonneg _ | with_reducible assumption | lia | omega)]; first | lia | omega
  have hf20 : f2 m mr 0 = 0 := by simp [f2]
  have hkey : ∀ i, i < m → ∃ x t, xs[i]? = some x ∧ x.1 = .int (f2 m mr i : Int) t := fun i hi => ⟨_, _, hx.2 i hi, (hP _).choose_spec⟩
  refine wpS_bind (wpS_elem (hx.2 mr (by first | with_reducible exact Int.natCast_nonneg _ | with_reducible assumption | lia | omega)) ?_)
  refine wpS_bind (wpS_gallop (p := 1) (f := fun i => (f2 m mr i : Int)) (kv := (f2 m mr mr : Int)) hk (hP _).choose_spec (fun i hi => by rw [Nat.zero_add]; exact hkey i (by first | with_reducible exact Int.natCast_nonneg _ | with_reducible assumption | lia | omega)) (by first | with_reducible exact Int.natCast_nonneg _ | with_reducible assumption | lia | omega) (by first | with_reducible exact Int.natCast_nonneg _ | with_reducible assumption | lia | omega) (fun i hi => ?_) ?_)
  · simp only [Bool.false_eq_true, if_false]
    have e1 := hf2b 0
    rw [Nat.add_zero] at e1
    rw [e1]
    by_cases q : i = 0
    · subst q; rw [hf20]; rfl
    · rw [hf2a i hi q, decide_eq_true (by first | with_reducible exact Int.natCast_nonneg _ | with_reducible assumption | lia | omega), decide_eq_false (by first | with_reducible exact Int.natCast_nonneg _ | with_reducible assumption | lia | omega)]; rfl
  dsimp only
  rw [if_neg (by simp; omega)]
  refine wpS_bind (wpS_elem (hx.2 (0 + 1 + (mr - 1) - 1) (by first | with_reducible exact Int.natCast_nonneg _ | with_reducible assumption | lia | omega)) ?_)
  refine wpS_bind (wpS_gallop (p := m - mr) (f := fun i => (f2 m mr (mr + i) : Int)) (kv := (f2 m mr (0 + 1 + (mr - 1) - 1) : Int)) hk (hP _).choose_spec (fun i hi => hkey (mr + i) (by first | with_reducible exact Int.natCast_nonneg _ | with_reducible assumption | lia | omega)) (by first | with_reducible exact Int.natCast_nonneg _ | with_reducible assumption | lia | omega) (by first | with_reducible exact Int.natCast_nonneg _ | with_reducible assumption | lia | omega) (fun i hi => ?_) ?_)
  · simp only [if_true]
    rw [hf2b, hf2a (0 + 1 + (mr - 1) - 1) (by first | with_reducible exact Int.natCast_nonneg _ | with_reducible assumption | lia | omega) (by first | with_reducible exact Int.natCast_nonneg _ | with_reducible assumption | lia | omega), decide_eq_true (by first | with_reducible exact Int.natCast_nonneg _ | with_reducible assumption | lia | omega), decide_eq_true hi]
  dsimp only
  rw [if_neg (by simp; omega), if_pos (by first | with_reducible exact Int.natCast_nonneg _ | with_reducible assumption | lia | omega)]
  have hxa : ∀ i, i < mr - 1 → (xs.extract (0 + 1) mr)[i]? = some (P (m - mr + (i + 1))) := fun i hi => by
    rw [Array.getElem?_extract, if_pos (by rw [hx.1]; omega), hx.2 _ (by first | with_reducible exact Int.natCast_nonneg _ | with_reducible assumption | lia | omega), hf2a _ (by first | with_reducible exact Int.natCast_nonneg _ | with_reducible assumption | lia | omega) (by first | with_reducible exact Int.natCast_nonneg _ | with_reducible assumption | lia | omega)]
    congr 2; first | lia | omega
  have hya : ∀ i, i < m - mr → (xs.extract mr (mr + (m - mr)))[i]? = some (P (i + 1)) := fun i hi => by
    rw [Array.getElem?_extract, if_pos (by rw [hx.1]; omega), hx.2 _ (by first | with_reducible exact Int.natCast_nonneg _ | with_reducible assumption | lia | omega), hf2b]
  have hxs : (xs.extract (0 + 1) mr).size = mr - 1 := by rw [Array.size_extract, hx.1]; first | lia | omega
  have hys : (xs.extract mr (mr + (m - mr))).size = m - mr := by rw [Array.size_extract, hx.1]; first | lia | omega
  refine wpS_bind (wpS_mergeLo (a := xs.extract (0 + 1) mr) (b := xs.extract mr (mr + (m - mr))) (f := fun i => ((m - mr + (i + 1) : Nat) : Int)) (g := fun i => ((i + 1 : Nat) : Int)) hk hg (fun i hi => ⟨_, _, hxa i (by first | with_reducible exact Int.natCast_nonneg _ | with_reducible assumption | lia | omega), (hP _).choose_spec⟩) (fun i hi => ⟨_, _, hya i (by first | with_reducible exact Int.natCast_nonneg _ | with_reducible assumption | lia | omega), (hP _).choose_spec⟩) (fun i j hi hj => by first | with_reducible exact Int.natCast_nonneg _ | with_reducible assumption | lia | omega) (by first | with_reducible exact Int.natCast_nonneg _ | with_reducible assumption | lia | omega) (by first | with_reducible exact Int.natCast_nonneg _ | with_reducible assumption | lia | omega) fun g' => ?_)
  refine wpS_bind (wpS_modify ?_)
  refine wpS_bind (wpS_get ?_)
  refine wpS_pure ?_
  have hgoal := h (foldSet (0 + 1) (((xs.extract mr (mr + (m - mr))) ++ (xs.extract (0 + 1) mr)).toList.zipIdx) xs) g' ⟨by rw [foldSet_size]; exact hx.1, fun i hi => ?_⟩
  · show Q (failedOf st).isNone (SortSt.mk' (kindOf st) (foldSet (0 + 1) (((xs.extract mr (mr + (m - mr))) ++ (xs.extract (0 + 1) mr)).toList.zipIdx) xs) ((#[(0, mr, pw), (mr, m - mr, 0)].setIfInBounds 0 (0, mr + (m - mr), pw)).eraseIdxIfInBounds (0 + 1)) g' (failedOf st))
    have hpe : (#[(0, mr, pw), (mr, m - mr, 0)].setIfInBounds 0 (0, mr + (m - mr), pw)).eraseIdxIfInBounds (0 + 1) = #[(0, mr + (m - mr), pw)] := by
      simp [Array.eraseIdxIfInBounds, Array.eraseIdx]
    rw [hk, hf, hpe]
    have e2 : mr + (m - mr) = m := by first | with_reducible exact Int.natCast_nonneg _ | with_reducible assumption | lia | omega
    rw [e2] at hgoal ⊢
    exact hgoal
  · rw [foldSet_get _ _ _ _ _ (by rw [Array.length_toList, Array.size_append, hxs, hys, hx.1]; omega)]
    rw [Array.length_toList, Array.size_append, hxs, hys]
    by_cases q : i = 0
    · subst q
      rw [if_neg (by omega), hx.2 0 hi, hf20]
    · rw [if_pos (by first | with_reducible exact Int.natCast_nonneg _ | with_reducible assumption | lia | omega), Array.getElem?_toList, Array.getElem?_append, hys]
      by_cases q2 : i - (0 + 1 + 0) < m - mr
      · rw [if_pos q2, hya _ q2]; congr 2; show _ = i; first | lia | omega
      · rw [if_neg q2, hxa _ (by first | with_reducible exact Int.natCast_nonneg _ | with_reducible assumption | lia | omega)]; congr 2; show _ = i; first | lia | omega
end
end Mine
end

section
namespace Mine
open PySem PyProof.Rows

theorem minRun_64 {m : Nat} (h1 : 64 ≤ m) (h2 : m < 128) : minRun' m m 0 = m / 2 + m % 2 := by
  obtain ⟨f, hf⟩ : ∃ f, m = f + 1 + 1 := ⟨m - 2, by first | lia | omega⟩
  have : minRun' (f + 1 + 1) m 0 = m / 2 + m % 2 := by
    rw [minRun'_succ, if_neg (by first | lia | omega), minRun'_succ, if_pos (by first | lia | omega)]; first | lia | omega
  rwa [← hf] at this

section
variable {prog : Program} {w : World} {A : Around} {E : Value → Shared → Prop} {s : Shared} {P : Nat → Keyed} {m : Nat}

theorem wpS_binNone {st : SortSt} {lo n : Nat} {Q : Bool → SortSt → Prop} (hn : 1 ≤ n) (h : Q true st) : wpS (model prog w) A E s (binarySort' lo n n) Q st := by
  rw [binarySort'_eq]
  refine wpS_bind (wpS_mono (wpS_forRange (I := fun _ c st' => st' = st ∧ c = (none, ())) (Q := fun c st' => st' = st ∧ c = (none, ())) ?step (fun _ _ hh => hh) ⟨rfl, rfl⟩) ?post)
  case step =>
    rintro x c st' h1 h2 _
    first | lia | omega
  case post =>
    rintro c st' ⟨rfl, rfl⟩
    exact wpS_pure h

theorem wpS_sortShape {st : SortSt} {xs : Array Keyed} {Q : Unit → SortSt → Prop} (hP : ∀ v, ∃ t, (P v).1 = .int (v : Int) t) (hk : kindOf st = oneType') (hf : failedOf st = none) (hg : gallopOf st = 7) (hpd : pendingOf st = #[])
    (h1 : 64 ≤ m) (h2 : m < 128) (hx : PW P xs m (fk m 2)) (h : ∀ st', PW P (arrOf st') m (fun i => i) → failedOf st' = none → Q () st') :
    wpS (model prog w) A E s sortRuns' Q (setArr st xs) := by
  rw [sortRuns'_eq]
  refine wpS_bind (wpS_get ?_)
  dsimp only
  rw [hx.1, minRun_64 h1 h2]
  generalize hmr : m / 2 + m % 2 = mr
  have hx0 : PW P xs m fun i => if i = 0 then 0 else m - i := ⟨hx.1, fun i hi => by
    rw [hx.2 i hi]; unfold fk; dsimp only
    by_cases q : i = 0
    · rw [if_pos q, if_pos q]
    · rw [if_neg q, if_neg q]; split
      · congr 2; first | lia | omega
      · rfl⟩
  refine wpS_bind (wpS_mono (wpS_forRange
    (I := fun x c st' => (x = 0 ∧ c = (none, 0) ∧ st' = setArr st xs) ∨ (x = 1 ∧ c = (none, mr) ∧ ∃ ys, PW P ys m (fk m mr) ∧ st' = setPending (setArr st ys) #[(0, mr, 0)]) ∨ (2 ≤ x ∧ c = (none, m) ∧ ∃ ys pw, PW P ys m (f2 m mr) ∧ st' = setPending (setArr st ys) #[(0, mr, pw), (mr, m - mr, 0)]))
    (Q := fun c st' => c = (none, m) ∧ ∃ ys pw, PW P ys m (f2 m mr) ∧ st' = setPending (setArr st ys) #[(0, mr, pw), (mr, m - mr, 0)]) ?step ?fin (.inl ⟨rfl, rfl, rfl⟩)) ?post)
  case fin =>
    rintro c st' (⟨hx, _⟩ | ⟨hx, _⟩ | ⟨_, hc, hD⟩)
    · omega
    · omega
    · exact ⟨hc, hD⟩
  case step =>
    rintro x c st' _ hxm (⟨rfl, rfl, rfl⟩ | ⟨rfl, rfl, ys, hy, rfl⟩ | ⟨hx2, rfl, ys, pw, hy, rfl⟩)
    · dsimp only
      rw [if_neg (by first | lia | omega)]
      refine wpS_bind (wpS_run0 hP hk h1 hx0 ?_)
      dsimp only
      rw [if_pos (by first | lia | omega)]
      refine wpS_bind (wpS_lift (wpAny_rule ⟨rfl, ?_⟩))
      rw [show min (m - 0) mr = mr by first | lia | omega]
      refine wpS_bind (wpS_bin0 hP hk h1 (by first | lia | omega) (by first | lia | omega) hx fun ys hy => ?_)
      simp only [Bool.not_true, Bool.false_eq_true, if_false]
      refine wpS_bind (wpS_get ?_)
      have hb : (pendingOf (setArr st ys)).back? = none := by rw [show pendingOf (setArr st ys) = pendingOf st from rfl, hpd]; rfl
      rw [hb]
      dsimp only
      refine wpS_bind (wpS_modify (wpS_pure (.inr (.inl ⟨trivial, by rw [Nat.zero_add], ys, hy, ?_⟩))))
      show setPending (setArr st ys) ((pendingOf st).push (0, mr, 0)) = _
      rw [hpd]; rfl
    · dsimp only
      rw [if_neg (by first | lia | omega)]
      have key : ∀ (zs : Array Keyed), PW P zs m (f2 m mr) → ∀ pw, setPending (setArr st zs) (((#[(0, mr, 0)] : Array (Nat × Nat × Nat)).modify (#[(0, mr, 0)].size - 1) fun x => match x with | (st, len, _) => (st, len, pw)).push (mr, m - mr, 0)) = setPending (setArr st zs) #[(0, mr, pw), (mr, m - mr, 0)] := by
        intro zs _ pw; rfl
      refine wpS_bind (wpS_run1 (st := setPending st #[(0, mr, 0)]) hP hk (by first | lia | omega) (by first | lia | omega) hy fun zs hz => ?_)
      dsimp only
      by_cases hlt : m - mr < mr
      · rw [if_pos hlt]
        refine wpS_bind (wpS_lift (wpAny_rule ⟨rfl, ?_⟩))
        rw [show min (m - mr) mr = m - mr by first | lia | omega]
        refine wpS_bind (wpS_binNone (by first | lia | omega) ?_)
        simp only [Bool.not_true, Bool.false_eq_true, if_false]
        refine wpS_bind (wpS_get ?_)
        rw [show (pendingOf (setArr (setPending st #[(0, mr, 0)]) zs)).back? = some (0, mr, 0) from rfl]
        dsimp only
        refine wpS_bind (wpS_mono (wpS_forRange (I := fun x c st' => st' = setArr (setPending st #[(0, mr, 0)]) zs ∧ c = (none, ())) (Q := fun c st' => st' = setArr (setPending st #[(0, mr, 0)]) zs ∧ c = (none, ())) ?stepA (fun _ _ hh => hh) ⟨rfl, rfl⟩) ?postA)
        case stepA =>
          rintro x c st' _ _ ⟨rfl, rfl⟩
          refine wpS_bind (wpS_get ?_)
          exact wpS_pure ⟨rfl, rfl⟩
        case postA =>
          rintro c st' ⟨rfl, rfl⟩
          dsimp only
          refine wpS_bind (wpS_modify (wpS_bind (wpS_modify (wpS_pure (.inr (.inr ⟨by first | lia | omega, by rw [show mr + (m - mr) = m by first | lia | omega], zs, _, hz, rfl⟩))))))
      · rw [if_neg hlt]
        refine wpS_bind (wpS_get ?_)
        rw [show (pendingOf (setArr (setPending st #[(0, mr, 0)]) zs)).back? = some (0, mr, 0) from rfl]
        dsimp only
        refine wpS_bind (wpS_mono (wpS_forRange (I := fun x c st' => st' = setArr (setPending st #[(0, mr, 0)]) zs ∧ c = (none, ())) (Q := fun c st' => st' = setArr (setPending st #[(0, mr, 0)]) zs ∧ c = (none, ())) ?stepB (fun _ _ hh => hh) ⟨rfl, rfl⟩) ?postB)
        case stepB =>
          rintro x c st' _ _ ⟨rfl, rfl⟩
          refine wpS_bind (wpS_get ?_)
          exact wpS_pure ⟨rfl, rfl⟩
        case postB =>
          rintro c st' ⟨rfl, rfl⟩
          dsimp only
          refine wpS_bind (wpS_modify (wpS_bind (wpS_modify (wpS_pure (.inr (.inr ⟨by first | lia | omega, by rw [show mr + (m - mr) = m by first | lia | omega], zs, _, hz, rfl⟩))))))
    · dsimp only
      rw [if_pos (Nat.le_refl _)]
      exact wpS_pure ⟨rfl, ys, pw, hy, rfl⟩
  case post =>
    rintro c st' ⟨rfl, ys, pw, hy, rfl⟩
    dsimp only
    refine wpS_bind (wpS_mono (wpS_forRange
      (I := fun x c st' => (x = 0 ∧ c = (none, ()) ∧ st' = setPending (setArr st ys) #[(0, mr, pw), (mr, m - mr, 0)]) ∨ (1 ≤ x ∧ c = (none, ()) ∧ ∃ zs g', PW P zs m (fun i => i) ∧ st' = SortSt.mk' oneType' zs #[(0, m, pw)] g' none))
      (Q := fun c st' => c = (none, ()) ∧ ∃ zs g', PW P zs m (fun i => i) ∧ st' = SortSt.mk' oneType' zs #[(0, m, pw)] g' none) ?stepC ?finC (.inl ⟨rfl, rfl, rfl⟩)) ?postC)
    case finC =>
      rintro c st' (⟨hx, _⟩ | ⟨_, hc, hD⟩)
      · omega
      · exact ⟨hc, hD⟩
    case postC =>
      rintro c st' ⟨rfl, zs, g', hz, rfl⟩
      exact wpS_pure (h _ hz rfl)
    case stepC =>
      rintro x c st' _ _ (⟨rfl, rfl, rfl⟩ | ⟨hx1, rfl, zs, g', hz, rfl⟩)
      · refine wpS_bind (wpS_get ?_)
        rw [if_neg (by show ¬ (2 ≤ 1); omega)]
        refine wpS_bind (wpS_merge0 hP hk hf hg (by first | lia | omega) (by first | lia | omega) (by first | lia | omega) hy fun zs g' hz => ?_)
        simp only [Bool.not_true, Bool.false_eq_true, if_false]
        exact wpS_pure (.inr ⟨by first | lia | omega, rfl, zs, g', hz, rfl⟩)
      · refine wpS_bind (wpS_get ?_)
        rw [if_pos (by show 1 ≤ 1; omega)]
        exact wpS_pure ⟨rfl, zs, g', hz, rfl⟩
end
end Mine
end

section
namespace Mine
open PySem PyProof.Rows

theorem intsAre_of : ∀ {vs : List Value} {ns : List Int}, vs.map abs = intsV ns → IntsAre vs ns
  | [], [], _ => .nil
  | [], _ :: _, h => by simp [intsV] at h
  | _ :: _, [], h => by simp [intsV] at h
  | v :: vs, n :: ns, h => by
    simp only [intsV, List.map_cons, List.cons.injEq] at h
    obtain ⟨t, rfl⟩ := abs_int h.1
    exact .cons n t (intsAre_of h.2)

noncomputable def shape (m : Nat) : List Int := (List.range m).map fun i => ((fk m 2 i : Nat) : Int)
noncomputable def upTo (m : Nat) : List Int := (List.range m).map fun (i : Nat) => (i : Int)

theorem shape_eq (m : Nat) : shapeL m = shape m := by
  unfold shapeL shape
  refine List.map_congr_left fun i hi => ?_
  have hi := List.mem_range.mp hi
  unfold fk
  by_cases q : i = 0
  · simp [q]
  · rw [if_neg q, if_neg q]
    split
    · congr 1; first | lia | omega
    · rfl
theorem abs_ints_of : ∀ {vs : List Value} {ns : List Int}, IntsAre vs ns → vs.map abs = intsV ns
  | _, _, .nil => rfl
  | _, _, .cons n t h => by
    have := abs_ints_of h
    simp only [intsV, List.map_cons] at this ⊢
    rw [this]; rfl
theorem upTo_pairwise (m : Nat) : (upTo m).Pairwise (· ≤ ·) := by
  unfold upTo
  rw [List.pairwise_map]
  exact List.pairwise_lt_range.imp fun h => by first | lia | omega
theorem upTo_perm {m : Nat} (hm : 1 ≤ m) : (upTo m).Perm (shapeL m) := by
  have e1 : upTo m = 0 :: ((List.range (m - 1)).map fun (i : Nat) => ((i + 1 : Nat) : Int)) := by
    obtain ⟨k, rfl⟩ : ∃ k, m = k + 1 := ⟨m - 1, by first | lia | omega⟩
    unfold upTo
    rw [List.range_succ_eq_map, List.map_cons, List.map_map]; rfl
  have e2 : shapeL m = 0 :: ((List.range (m - 1)).map fun (i : Nat) => ((i + 1 : Nat) : Int)).reverse := by
    apply List.ext_getElem?
    intro i
    unfold shapeL
    cases i with
    | zero => rw [List.getElem?_map, List.getElem?_range (by first | lia | omega)]; rfl
    | succ i =>
      rw [List.getElem?_cons_succ, List.getElem?_map]
      by_cases hi : i + 1 < m
      · rw [List.getElem?_range hi, List.getElem?_reverse (by simp; omega), List.getElem?_map, List.length_map, List.length_range, List.getElem?_range (by omega)]
        simp only [Option.map_some, Nat.add_one_ne_zero, if_false]
        congr 2; first | lia | omega
      · rw [List.getElem?_eq_none (by simp; omega), List.getElem?_eq_none (by simp; omega)]; rfl
  rw [e1, e2]
  exact List.Perm.cons _ (List.reverse_perm _).symm

open Classical in
noncomputable def bear (vs : List Value) (m v : Nat) : Value := match vs[if v = 0 then 0 else m - v]? with
  | some x => if abs x = .int v then x else .int v 0
  | none => .int v 0
open Classical in
theorem bear_int (vs : List Value) (m v : Nat) : ∃ t, bear vs m v = .int (v : Int) t := by
  unfold bear
  split
  · split
    · rename_i h; exact abs_int h
    · exact ⟨0, rfl⟩
  · exact ⟨0, rfl⟩

section
variable {prog : Program} {w : World} {A : Around} {E : Value → Shared → Prop} {s : Shared}

open Classical in
theorem pw_start {vs : List Value} {m : Nat} (h1 : 64 ≤ m) (hv : vs.map abs = intsV (shape m)) : PW (fun v => (bear vs m v, bear vs m v)) (vs.toArray.zip vs.toArray) m (fk m 2) := by
  have hlen : vs.length = m := by
    have := congrArg List.length hv
    simpa [intsV, shape] using this
  refine ⟨by simp [hlen], fun i hi => ?_⟩
  have hi' : i < vs.length := by first | lia | omega
  have hget : vs[i]? = some vs[i] := List.getElem?_eq_getElem hi'
  have habs : abs vs[i] = .int ((fk m 2 i : Nat) : Int) := by
    have := congrArg (fun l => l[i]?) hv
    simp only [List.getElem?_map, hget, Option.map_some, intsV, shape, List.getElem?_range hi] at this
    exact Option.some.inj this
  have hidx : (if fk m 2 i = 0 then 0 else m - fk m 2 i) = i := by
    unfold fk
    by_cases q : i = 0
    · simp [q]
    · rw [if_neg q]
      by_cases q2 : i < 2
      · rw [if_pos q2, if_neg (by first | lia | omega)]; first | lia | omega
      · rw [if_neg q2, if_neg (by first | lia | omega)]; first | lia | omega
  have hbear : bear vs m (fk m 2 i) = vs[i] := by
    unfold bear
    rw [hidx, hget]
    simp only [habs, if_true]
  dsimp only
  rw [hbear]
  simp [hi']

theorem list_sort_shape {a : Addr} {vs : List Value} {m n : Nat} {P : Fin → Shared → Prop} (ho : s.heap.get? a = some (seqObj "list" vs.toArray n)) (h1 : 64 ≤ m) (h2 : m < 128)
    (hv : vs.map abs = intsV (shape m)) (h : ∀ out : Array Value, out.toList.map abs = intsV (upTo m) → P (.done (.ret .none)) { s with heap := sortedHeap s.heap a vs out }) :
    wpAny (model prog w) A (Builtin.«list.sort» ⟨[.ref a], []⟩) P E s := by
  have hlen : vs.length = m := by
    have := congrArg List.length hv
    simpa [intsV, shape] using this
  rw [list_sort_plain]
  have ha : a < s.heap.objs.size := Heap.lt_size ho
  refine wpAny_bind (listItems_at ho rfl (wpAny_bind (listUpdate_at ho rfl ?_ (hsz := by rw [sizeLine_eq, List.size_toArray]; omega))))
  obtain ⟨e1, ho1⟩ : ∃ e1, (s.heap.update a (Obj.mapSeq fun _ => #[])).get? a = some (seqObj "list" #[] e1) := ⟨_, get?_update_seq ho (fun _ => #[])⟩
  refine wpAny_bind (seqEpoch_at ho1 rfl (wpAny_bind (wpAny_newTuple (wpAny_bind (wpAny_newList (wpAny_holding ?_))))))
  have ho6 : (((s.heap.update a (Obj.mapSeq fun _ => #[])).push (seqObj "tuple" vs.toArray 0)).push (seqObj "list" #[] 0)).get? a = some (seqObj "list" #[] e1) := by
    rw [Heap.get?_push_ne _ _ _ (by rw [size_push', Heap.size_update]; exact Nat.ne_of_lt (Nat.lt_succ_of_lt ha)), Heap.get?_push_ne _ _ _ (by rw [Heap.size_update]; exact Nat.ne_of_lt ha)]
    exact ho1
  show wpAny (model prog w) A _ P E { s with heap := ((s.heap.update a (Obj.mapSeq fun _ => #[])).push (seqObj "tuple" vs.toArray 0)).push (seqObj "list" #[] 0) }
  have hbig : ¬ vs.toArray.size < 2 := by rw [List.size_toArray]; first | lia | omega
  rw [if_neg hbig, if_neg hbig]
  obtain ⟨v₁, v₂, rest, hvs⟩ : ∃ v₁ v₂ rest, vs = v₁ :: v₂ :: rest := by
    match vs, hlen with
    | [], hl => simp at hl; first | lia | omega
    | [_], hl => simp at hl; first | lia | omega
    | v₁ :: v₂ :: rest, _ => exact ⟨v₁, v₂, rest, rfl⟩
  have hkk : keyKind' vs.toArray = pure oneType' := by
    have hI := intsAre_of hv
    rw [hvs] at hI ⊢
    exact keyKind_ints hI
  rw [hkk]
  refine wpAny_bind (wpAny_pure ?_)
  refine wpAny_bind (wpAny_mono (wpS_sortShape (P := fun v => (bear vs m v, bear vs m v)) (st := SortSt.mk' oneType' #[] #[] 7 none) (xs := vs.toArray.zip vs.toArray)
    (Q := fun _ st' => PW (fun v => (bear vs m v, bear vs m v)) (arrOf st') m (fun i => i) ∧ failedOf st' = none)
    (fun v => bear_int vs m v) rfl rfl rfl rfl h1 h2 (pw_start h1 hv) fun st' a1 a2 => ⟨a1, a2⟩) ?_ fun _ _ e => e)
  rintro ⟨⟨⟩, st'⟩ s' ⟨rfl, hp, hf⟩
  dsimp only
  refine wpAny_bind (seqEpoch_at ho6 rfl ?_)
  refine wpAny_bind (listUpdate_at ho6 rfl ?_ (hsz2 := by rw [Array.size_map, hp.1, sizeLine_eq]; omega))
  rw [hf]
  simp only [bne_self_eq_false, Bool.false_eq_true, if_false]
  refine wpAny_pure (h _ ?_)
  apply List.ext_getElem?
  intro i
  rw [List.getElem?_map, Array.getElem?_toList, Array.getElem?_map]
  simp only [intsV, upTo, List.getElem?_map]
  by_cases hi : i < m
  · rw [hp.2 i hi, List.getElem?_range hi]
    obtain ⟨t, ht⟩ := bear_int vs m i
    simp only [Option.map_some, ht]
    rfl
  · rw [getElem?_neg _ _ (by rw [hp.1]; exact hi), List.getElem?_eq_none (by simp; omega)]
    rfl

theorem sorted_shape {l : Addr} {vs : List Value} {m : Nat} {Q : Value → Shared → Prop} (hl : s.heap.IsList l vs.toArray) (h1 : 64 ≤ m) (h2 : m < 128) (hv : vs.map abs = intsV (shape m))
    (h : ∀ out : Array Value, out.toList.map abs = intsV (upTo m) → Q (.ref (s.heap.objs.size + 1)) { s with heap := sortedAll s.heap vs out }) :
    wpAny (model prog w) A (call (.builtin "sorted") [.ref l]) Q E s := by
  have hlen : vs.length = m := by
    have := congrArg List.length hv
    simpa [intsV, shape] using this
  refine Calls.call_function_entry kind_sorted plain_sorted entry_sorted (args_sorted1 _) ?_
  unfold Builtin.«sorted»
  refine wpAny_bind (m := checkCount "sorted" 1 1 _) (wpAny_pure (wpAny_bind (collect_list hl (wpAny_bind (wpAny_newList ?_)) (by rw [sizeLine_eq]; omega))))
  have hsz : ((s.heap.push (seqObj "list" #[] 0)).update s.heap.objs.size (Obj.mapSeq (· ++ vs.toArray))).objs.size = s.heap.objs.size + 1 := by
    rw [Heap.size_update, size_push']
  have hoL : (((s.heap.push (seqObj "list" #[] 0)).update s.heap.objs.size (Obj.mapSeq (· ++ vs.toArray))).push (seqObj "list" vs.toArray 0)).get? (s.heap.objs.size + 1) = some (seqObj "list" vs.toArray 0) := by
    rw [← hsz]; exact Heap.get?_push_size _ rfl
  show wpAny _ _ _ _ _ { s with heap := ((s.heap.push (seqObj "list" #[] 0)).update s.heap.objs.size (Obj.mapSeq (· ++ vs.toArray))).push (seqObj "list" vs.toArray 0) }
  rw [hsz]
  refine wpAny_bind (wpAny_holding (wpAny_call_entry slot_list_sort ⟨_, hoL, rfl⟩ entry_list_sort (list_sort_shape hoL h1 h2 hv fun out ho => ⟨_, rfl, ?_⟩) (args_list_sort _)))
  exact wpAny_pure ⟨_, rfl, h out ho⟩
end
end Mine
end

section
namespace Mine
open PySem PyProof.Rows PySem.SeqAt

theorem range_pick {α : Type} (xs : List α) : ∀ (c l : Nat), ((List.range c).map fun k => l + k).filterMap (fun i => xs[i]?) = (xs.drop l).take c := by
  intro c
  induction c with
  | zero => intro l; simp
  | succ c ih =>
    intro l
    rw [List.range_succ_eq_map, List.map_cons, List.map_map]
    have e : ((fun k => l + k) ∘ Nat.succ) = fun k => (l + 1) + k := by funext k; simp only [Function.comp]; omega
    rw [e, List.filterMap_cons, ih (l + 1)]
    simp only [Nat.add_zero]
    cases h : xs[l]? with
    | none =>
      have hl : xs.length ≤ l := List.getElem?_eq_none_iff.mp h
      simp [List.drop_eq_nil_of_le hl, List.drop_eq_nil_of_le (Nat.le_succ_of_le hl)]
    | some x =>
      obtain ⟨hl, hx⟩ := List.getElem?_eq_some_iff.mp h
      simp only
      rw [List.drop_eq_getElem_cons hl, List.take_succ_cons, hx]

noncomputable def partOf : V → Option (Option Int)
  | .none => some none
  | .int i => some (some i)
  | _ => none

theorem isPart_of {v : Value} {x : Option Int} (h : partOf (abs v) = some x) : IsPart v x := by
  cases v <;> simp [abs, partOf] at h <;> subst h <;> constructor

theorem min_cast {j : Int} (h : 0 ≤ j) (n : Nat) : min j (n : Int) = ((min j.toNat n : Nat) : Int) := by
  obtain ⟨k, rfl⟩ := Int.eq_ofNat_of_zero_le h
  rw [Int.toNat_natCast]
  omega
theorem bnd_none (n : Nat) (j : Int) (h0 : 0 ≤ j) : sliceBounds none (some j) none n = (0, ((min j.toNat n : Nat) : Int), 1) := by
  simp [sliceBounds, Int.not_lt.mpr h0, min_cast h0]
theorem bnd_some (n : Nat) (i j : Int) (h1 : 0 ≤ i) (h0 : 0 ≤ j) : sliceBounds (some i) (some j) none n = (((min i.toNat n : Nat) : Int), ((min j.toNat n : Nat) : Int), 1) := by
  simp [sliceBounds, Int.not_lt.mpr h0, Int.not_lt.mpr h1, min_cast h0, min_cast h1]
theorem rng_cut (l h : Nat) : sliceRange (l : Int) (h : Int) 1 = (List.range (h - l)).map fun k => l + k := by
  unfold sliceRange
  simp only [show (1 : Int) > 0 from by decide, if_true, Int.one_mul]
  have ec : (if (l : Int) < h then ((h : Int) - l + 1 - 1) / 1 else 0).toNat = h - l := by
    split <;> omega
  rw [ec]
  congr 1
theorem cutAt_inv {n l : Nat} {i : Int} (h : cutAt n i = some l) : 0 ≤ i ∧ l = min i.toNat n := by
  unfold cutAt at h
  by_cases q : 0 ≤ i
  · rw [if_pos q] at h; cases h; exact ⟨q, rfl⟩
  · rw [if_neg q] at h; cases h
theorem slice_cut {items : Array Value} {vs : List V} (m : items.toList.map abs = vs) {lo hi : V} {l h : Nat} (hl : cutLo vs.length lo = some l) (hh : cutHi vs.length hi = some h) :
    ∃ pl ph, partOf lo = some pl ∧ partOf hi = some ph ∧ (slicePick items pl ph none).toList.map abs = cut vs l h := by
  have key : ∀ pl ph, sliceBounds pl ph none items.size = ((l : Int), (h : Int), 1) → (slicePick items pl ph none).toList.map abs = cut vs l h := by
    intro pl ph e
    unfold slicePick
    rw [e]
    dsimp only
    rw [rng_cut]
    have := range_pick items.toList (h - l) l
    simp only [Array.getElem?_toList] at this
    show List.map abs (List.filterMap (fun i => items[i]?) _) = _
    rw [this, ← m]
    unfold cut
    rw [List.map_take, List.map_drop, List.drop_take]
  rw [← size_of m] at hl hh
  cases hi with
  | int j =>
    obtain ⟨h0, rfl⟩ := cutAt_inv hh
    cases lo with
    | none => cases hl; exact ⟨none, some j, rfl, rfl, key _ _ (bnd_none _ _ h0)⟩
    | int i =>
      obtain ⟨h1, rfl⟩ := cutAt_inv hl
      exact ⟨some i, some j, rfl, rfl, key _ _ (bnd_some _ _ _ h1 h0)⟩
    | _ => cases hl
  | _ => cases hh

noncomputable def BF.val : BF → Value
  | .len => .builtin "len"
  | .list => .type "list"
  | .int => .type "int"
  | .sum => .builtin "sum"
  | .max => .builtin "max"
  | .sorted => .builtin "sorted"

theorem intItems_of : ∀ {vs : List Value} {l : List Int}, vs.map abs = intsV l → ∃ xs : Array (Int × Tok), vs.toArray = intItems xs ∧ xs.toList.map (·.1) = l
  | [], [], _ => ⟨#[], by simp [intItems], rfl⟩
  | [], _ :: _, h => by cases h
  | _ :: _, [], h => by cases h
  | v :: r, i :: l, h => by
    simp only [intsV, List.map_cons, List.cons.injEq] at h
    obtain ⟨t, rfl⟩ := abs_int h.1
    obtain ⟨xs, e, q⟩ := intItems_of (vs := r) (l := l) (by simpa [intsV] using h.2)
    refine ⟨((i, t) :: xs.toList).toArray, ?_, by simp [q]⟩
    have e' : r = (intItems xs).toList := by rw [← e]
    rw [e']; simp [intItems]

section
variable {cx : Cx} {H : HP} {s : Shared} {A : Around} {E : Value → Shared → Prop} {n : Nat}

theorem sorted_ok (C : cx.OK) (S : HS cx H s) {a : Addr} {l : List Int} {items : Array Value} {k : Nat} {Q : V → HP → Prop} (e : IsL s.heap a items k) (m : items.toList.map abs = intsV l)
    (hsz : l.length < 64 ∨ ∃ m, 64 ≤ m ∧ m < 128 ∧ l = shapeL m) (h : ∀ l' : List Int, l'.Perm l → l'.Pairwise (· ≤ ·) → new cx H (.list (intsV l')) Q) : wpAny (model cx.prog cx.w) A (call (.builtin "sorted") [.ref a]) (EP cx s H Q) E s := by
  have fin : ∀ (out : Array Value) (l' : List Int), out.toList.map abs = intsV l' → l'.Perm l → l'.Pairwise (· ≤ ·) → EP cx s H Q (.ref (s.heap.objs.size + 1)) { s with heap := sortedAll s.heap items.toList out } := by
    intro out l' ho hp hs
    obtain ⟨k', hk'⟩ := sortedAll_at s.heap items.toList out
    have hold : ∀ b o', s.heap.get? b = some o' → (sortedAll s.heap items.toList out).get? b = some o' := fun b o' q => sortedAll_old q
    have hno : s.heap.get? (s.heap.objs.size + 1) = none := by
      cases q : s.heap.get? (s.heap.objs.size + 1) with
      | none => rfl
      | some o => exact absurd (Heap.lt_size q) (Nat.not_lt.mpr (Nat.le_succ _))
    exact ⟨_, S.alloc hold hno (rep_list hk' ho) s.toks, KE.alloc hold hno s.toks, h l' hp hs _ (S.fresh C hno)⟩
  have hIs : s.heap.IsList _ items.toList.toArray := ⟨_, e, rfl, k, by simp⟩
  rcases hsz with h64 | ⟨mm, h1, h2, rfl⟩
  · have hlen : items.toList.length < 64 := by
      have := congrArg List.length m
      rw [List.length_map, intsV, List.length_map] at this
      rw [this]; exact h64
    exact sorted_ints hIs (intsAre_of m) hlen fun out ns' hi hp hs => fin out ns' (abs_ints_of hi) hp hs
  · exact sorted_shape hIs h1 h2 (by rw [← shape_eq]; exact m) fun out ho => fin out _ ho (upTo_perm (Nat.le_trans (by decide) h1)) (upTo_pairwise mm)
theorem one_arg {vs : List Value} {x : V} (e : vs.map abs = [x]) : ∃ v, vs = [v] ∧ abs v = x := by
  obtain ⟨v, vs', e1, e2, e3⟩ := List.map_eq_cons_iff.mp e
  exact ⟨v, by rw [e1, List.map_eq_nil_iff.mp e3], e2⟩
theorem callb_ok (C : cx.OK) (hA : AOK A n) (S : HS cx H s) {b : BF} {vs : List Value} {Q : V → HP → Prop} (h : callbP cx b (vs.map abs) H Q) :
    wpAny (model cx.prog cx.w) A (call b.val vs) (EP cx s H Q) E s := by
  have ref1 : ∀ {k : Addr → Prop}, (on1 (vs.map abs) fun v => onR v k) → ∃ a, vs = [.ref a] ∧ k a := fun h => by
    obtain ⟨x, e, h1⟩ := on1_inv h
    obtain ⟨a, e1, h2⟩ := onR_inv h1
    obtain ⟨v, e2, e3⟩ := one_arg e
    exact ⟨a, by rw [e2, abs_ref (e3.trans e1)], h2⟩
  cases b with
  | len =>
    obtain ⟨a, rfl, h⟩ := ref1 h
    obtain ⟨xs, hx, h1, h2⟩ := onO_inv h
    obtain ⟨T, items, k, e, hT, m⟩ := sq_get C S hx
    have hsz := size_of m
    have q : EP cx s H Q (.int items.size (s.toks + 1)) { s with toks := s.toks + 1 + 1 } := ep_same S _ (by rw [hsz]; exact h2)
    have hb : (items.size : Int) < 2 ^ 63 := by rw [hsz]; omega
    rcases hT with rfl | rfl
    · exact PyProof.Rows.len_list ⟨_, e, rfl, k, rfl⟩ hb q
    · exact PyProof.Rows.len_tuple ⟨_, e, rfl, k, rfl⟩ hb q
  | list =>
    obtain ⟨a, rfl, h⟩ := ref1 h
    obtain ⟨xs, hx, h1, h2⟩ := onO_inv h
    obtain ⟨T, items, k, e, hT, m⟩ := sq_get C S hx
    refine call_list_seq _ hT e rfl rfl (fun h' c' hk hD => ?_) (by rw [size_of m, sizeLine_eq]; exact h1)
    exact ⟨_, S.alloc hk (get_size _) (rep_list hD m) s.toks, KE.alloc hk (get_size _) s.toks, h2 _ (S.fresh C (get_size _))⟩
  | int =>
    obtain ⟨x, e, h⟩ := on1_inv h
    obtain ⟨v, rfl, e1⟩ := one_arg e
    subst e1
    cases v with
    | bool b => exact call_int_bool (ep_same S _ h)
    | _ => exact False.elim h
  | sum =>
    obtain ⟨a, rfl, h⟩ := ref1 h
    obtain ⟨xs, hx, h⟩ := onO_inv h
    obtain ⟨l, hl, h1, h2⟩ := onO_inv h
    obtain ⟨items, k, e, m⟩ := lst_get C S hx
    rw [asInts_some hl] at m
    obtain ⟨ps, e1, e2⟩ := intItems_of m
    have e3 : items = intItems ps := by rw [← e1]
    subst e3
    refine sum_intList hA.handled e.isList (fun j hj => ?_) fun h' tk t' hk => ?_
    · have := h1 j (by rw [← e2]; simpa using hj)
      rw [numAt_eq, preSum_eq, e2]; exact this
    · refine ep_grow S hk ?_
      rw [preSum_eq, List.take_of_length_le (by simp), e2]; exact h2
  | sorted =>
    obtain ⟨a, rfl, h⟩ := ref1 h
    obtain ⟨xs, hx, h⟩ := onO_inv h
    obtain ⟨l, hl, h1, h2⟩ := onO_inv h
    obtain ⟨items, k, e, m⟩ := lst_get C S hx
    rw [asInts_some hl] at m
    exact sorted_ok C S e m h1 h2
  | max =>
    obtain ⟨x, y, e, h⟩ := on2_inv h
    obtain ⟨a, ea, h⟩ := onI_inv h
    obtain ⟨b, eb, hm⟩ := onI_inv h
    clear h
    obtain ⟨v, vs', rfl, e1, e3⟩ := List.map_eq_cons_iff.mp e
    obtain ⟨w, rfl, e2⟩ := one_arg e3
    obtain ⟨t, rfl⟩ := abs_int (e1.trans ea); obtain ⟨u, rfl⟩ := abs_int (e2.trans eb)
    refine max_two_ints hA.handled fun h' tk hk => ep_grow S hk ?_
    by_cases c : b > a
    · rw [if_pos c] at hm ⊢; exact hm
    · rw [if_neg c] at hm ⊢; exact hm
end
end Mine
end

section
namespace Mine
open PySem PyProof.Rows PySem.SeqAt

noncomputable def notSlice : Expr → Bool
  | .Slice .. => false
  | _ => true
theorem notSlice_sub {e : Expr} (h : notSlice e = true) (o i : Value) : subscripted e false o i = operate [o, i] (getItem o i) := by
  cases e <;> first | rfl | exact (Bool.false_ne_true h).elim

section
variable {cx : Cx} {H : HP} {s : Shared} {A : Around} {E : Value → Shared → Prop} {n : Nat}

theorem item_of {items : Array Value} {vs : List V} (m : items.toList.map abs = vs) {j : Nat} {v : V} (h : vs[j]? = some v) : ∃ x, items[j]? = some x ∧ abs x = v := by
  rw [← m, List.getElem?_map] at h
  obtain ⟨x, e, q⟩ := Option.map_eq_some_iff.mp h
  exact ⟨x, by simpa using e, q⟩

theorem sub_ok (C : cx.OK) (S : HS cx H s) {value slice : Expr} (hsl : notSlice slice = true) {o i : Value} {Q : V → HP → Prop} (h : subP cx (abs o) (abs i) H Q) :
    wpAny (model cx.prog cx.w) A (subscriptTail value slice o i) (EP cx s H Q) E s := by
  obtain ⟨a, ho, h⟩ := onR_inv h
  obtain ⟨k, hi, h⟩ := onI_inv h
  have := abs_ref ho; subst this
  obtain ⟨u, rfl⟩ := abs_int hi
  obtain ⟨vs, hvs, h0, hlen, h⟩ := onO_inv h
  obtain ⟨v, hv, h⟩ := onO_inv h
  obtain ⟨T, items, kk, e, hT, m⟩ := sq_get C S hvs
  obtain ⟨x, hx, hxa⟩ := item_of m hv
  have hlt : k.toNat < vs.length := (List.getElem?_eq_some_iff.mp hv).1
  have fin : EP cx s H Q x s := ep_here S (by rw [hxa]; exact h)
  have hk : k < 2 ^ 63 := by first | lia | omega
  rcases hT with rfl | rfl
  · have hL : s.heap.IsList a items := ⟨_, e, rfl, kk, rfl⟩
    exact tail_any hL.typeIs slot_list_getitem.lookup (wpAny_getItem_list hL h0 hk hx fin) (notSlice_sub hsl _ _)
  · have hT : IsTup s.heap a items.toList.toArray := ⟨_, e, rfl, kk, rfl⟩
    refine item_tupleT hT (by first | lia | omega) hk (j := k.toNat) ?_ (by simpa using hx) fin (notSlice_sub hsl _ _)
    have hsz : items.toList.length = vs.length := by rw [← m]; simp
    unfold seqIndex?
    rw [hsz]
    simp only [Int.not_lt.mpr h0, if_false]
    rw [if_pos (by simp only [Bool.and_eq_true, decide_eq_true_eq]; omega)]

theorem slice_ok (C : cx.OK) (S : HS cx H s) {value : Expr} {lo hi : Option Expr} {p : Pos} {o l u : Value} {Q : V → HP → Prop} (h : sliceP cx (abs o) (abs l) (abs u) H Q) :
    wpAny (model cx.prog cx.w) A (subscriptTail value (.Slice lo hi none p) o (.ref s.heap.objs.size)) (EP cx s H Q) E
      { s with heap := s.heap.push { cls := .type "slice", data := .fields #[l, u, .none] } } := by
  obtain ⟨a, ho, h⟩ := onR_inv h
  have := abs_ref ho; subst this
  obtain ⟨vs, hvs, h⟩ := onO_inv h
  obtain ⟨cl, e1, h⟩ := onO_inv h
  obtain ⟨ch, e2, h1, h2⟩ := onO_inv h
  obtain ⟨items, k, e, m⟩ := lst_get C S hvs
  obtain ⟨pl, ph, q1, q2, q3⟩ := slice_cut m e1 e2
  have k1 : ∀ b ob, s.heap.get? b = some ob → (s.heap.push { cls := .type "slice", data := .fields #[l, u, .none] }).get? b = some ob := fun b ob x => Heap.get?_push_of_some _ x
  have S' := S.grow k1 s.toks
  have hL : (s.heap.push { cls := .type "slice", data := .fields #[l, u, .none] }).IsList a items := ⟨_, k1 _ _ e, rfl, k, rfl⟩
  refine ep_from (KE.grow k1 s.toks) ?_
  refine tail_any (s := { s with heap := s.heap.push { cls := .type "slice", data := .fields #[l, u, .none] } }) hL.typeIs slot_list_getitem.lookup
    (wpAny_getItem_list_slice hL ⟨_, Heap.get?_push_size _ rfl, rfl, rfl⟩ (isPart_of q1) (isPart_of q2) .none (by simp) ?_ (by rw [size_of m, sizeLine_eq]; exact h1)) rfl
  exact ep_push C S' h2 (fun h e => rep_list e q3) rfl _

noncomputable def UP (cx : Cx) (s : Shared) (H : HP) (Q : HP → Prop) : Unit → Shared → Prop := fun _ s' => ∃ H', HS cx H' s' ∧ KE s H s' H' ∧ Q H'

theorem setItem_plain {l : Addr} {items : Array Value} {c : Nat} {k : Int} {t : Tok} {v : Value} {Q : Unit → Shared → Prop} (hl : IsL s.heap l items c)
    (h0 : 0 ≤ k) (hfit : k < 2 ^ 63) (hn : k < items.size)
    (hQ : ∀ h', IsL h' l (items.setIfInBounds k.toNat v) c → Heap.SameBut l s.heap h' → Q () { s with heap := h' }) :
    wpAny (model cx.prog cx.w) A (setItem (.ref l) (.int k t) v) Q E s := by
  have hT : s.TypeIs (.ref l) "list" := ⟨_, hl, rfl⟩
  unfold setItem
  refine wpAny_holding (wpAny_bind (wpAny_sequenceKey hT (by decide) ?_))
  refine wpAny_bind (wpAny_callSpecial?_slot (name := Str.ofString "__setitem__") hT slot_list_setitem (wpAny_call_entry slot_list_setitem hT entry_list_setitem ?_ (args_list_setitem _ _ _)))
  show wpAny _ _ (Builtin.List.listSubscript? (.int k t) >>= _) _ _ s
  refine wpAny_bind (wpAny_listSubscript_int (fitsIndex_of h0 hfit) ?_)
  clear hfit
  obtain ⟨j, rfl⟩ := Int.eq_ofNat_of_zero_le h0
  have hj : j < items.size := by first | lia | omega
  have hx' : items[j]? = some items[j] := Array.getElem?_eq_getElem hj
  have hnew : IsL (s.heap.update l (Obj.mapSeq (·.setIfInBounds j v))) l (items.setIfInBounds j v) c := by
    have := hl.update (fun xs => xs.setIfInBounds j v)
    simpa using this
  show wpAny _ _ ((seqItemAt l j >>= fun r => pure (r.map (j, ·))) >>= _) _ _ s
  refine wpAny_bind (wpAny_bind (wpAny_seqItemAt hl rfl (wpAny_pure ?_)))
  rw [hx']
  show wpAny _ _ (setSeqItemAt l j v >>= _) _ _ s
  refine wpAny_bind (wpAny_setSeqItemAt hl rfl ?_)
  have fin : Q () { s with heap := s.heap.update l (Obj.mapSeq (·.setIfInBounds j v)) } := hQ _ hnew (Heap.SameBut.update ..)
  first
    | exact wpAny_pure ⟨.none, rfl, wpAny_pure fin⟩
    | exact wpAny_bind (wpAny_pure (wpAny_pure ⟨.none, rfl, wpAny_pure fin⟩))

theorem setSub_ok (S : HS cx H s) {o i v : Value} {Q : HP → Prop} (h : setSubP (abs o) (abs i) (abs v) H Q) :
    wpAny (model cx.prog cx.w) A (setItem o i v) (UP cx s H Q) E s := by
  obtain ⟨a, ho, h⟩ := onR_inv h
  obtain ⟨k, hi, h⟩ := onI_inv h
  have := abs_ref ho; subst this
  obtain ⟨u, rfl⟩ := abs_int hi
  obtain ⟨vs, hvs, h0, hlen, hlt, h⟩ := onHL_inv h
  obtain ⟨items, c, e, m⟩ := S.hr _ _ hvs
  rw [← size_of m] at hlt hlen
  refine setItem_plain e h0 (by first | lia | omega) (by first | lia | omega) fun h' hL sb => ?_
  exact ⟨_, S.change hvs (fun b ob hb q => (sb.2 b hb).trans q) (rep_list hL (by rw [Array.toList_setIfInBounds, List.map_set, m])) s.toks, KE.change hvs (fun b ob hb q => (sb.2 b hb).trans q) s.toks, h⟩
end
end Mine
end

section
namespace Mine
open PySem PyProof.Rows PySem.SeqAt

structure Tbl where
  fns : List (Str × Addr)
  bfs : List (Str × BF)
  tys : List (Str × String)

structure Tbl.OK (cx : Cx) (T : Tbl) : Prop where
  fn : ∀ x f, T.fns.lookup x = some f → cx.gl x = some (.ref f) ∧ ∃ o fd, cx.base.get? f = some o ∧ o.data = .func fd
  bf : ∀ x b, T.bfs.lookup x = some b → cx.gl x = some b.val
  ty : ∀ x t, T.tys.lookup x = some t → cx.gl x = some (.type t)
  isi : cx.gl "isinstance" = some (.builtin "isinstance")
  rng : cx.gl "range" = some (.type "range")

noncomputable def isGlob (sc : Scope) (x : Str) : Bool := sc.names.lookup x == some .globalImplicit && !(x == ("__debug__" : Str))
noncomputable def Mth.nm : Mth → Str
  | .append => "append"
  | .pop => "pop"
noncomputable def plainBase : Expr → Bool
  | .Call .. => false
  | _ => true
noncomputable def relabelS (scope outer : Scope) : Scope :=
  { scope with names := scope.names.map fun (n, k) => if (k == .free && outer.kind == .function && outer.names.lookup n == some .cell) then (n, .cell) else (n, k) }
noncomputable def compNames (scope : Scope) (nm : List (Option Str)) (x : Str) : List (Option Str) :=
  nm.map (fun o => o.filter fun y => scope.names.lookup y == some .free) ++ [some x]
noncomputable def compScopeOk (scope outer : Scope) (x : Str) : Bool :=
  scope.kind == .function && scope.names.lookup x == some .local && outer.kind == .function &&
  scope.names.all fun y => y.2 != .cell && (y.2 != .local || scope.names.lookup y.1 == some .local) && (y.2 != .free || (outer.names.lookup y.1 == some .cell && scope.names.lookup y.1 == some .free))

noncomputable def vConst (e : Expr) (k : Const → Bool) : Bool := match e with
  | .Constant c _ _ => k c
  | _ => false
theorem vConst_inv {e : Expr} {k : Const → Bool} (h : vConst e k = true) : ∃ c n p, e = .Constant c n p ∧ k c = true := by cases e <;> first | exact ⟨_, _, _, rfl, h⟩ | exact (Bool.false_ne_true h).elim
noncomputable def vName (e : Expr) (k : Str → Bool) : Bool := match e with
  | .Name x _ => k x
  | _ => false
theorem vName_inv {e : Expr} {k : Str → Bool} (h : vName e k = true) : ∃ x p, e = .Name x p ∧ k x = true := by cases e <;> first | exact ⟨_, _, rfl, h⟩ | exact (Bool.false_ne_true h).elim
noncomputable def vBin (e : Expr) (k : Expr → Operator → Expr → Bool) : Bool := match e with
  | .BinOp l op r _ => k l op r
  | _ => false
theorem vBin_inv {e : Expr} {k : Expr → Operator → Expr → Bool} (h : vBin e k = true) : ∃ l op r p, e = .BinOp l op r p ∧ k l op r = true := by cases e <;> first | exact ⟨_, _, _, _, rfl, h⟩ | exact (Bool.false_ne_true h).elim
noncomputable def vUn (e : Expr) (k : UnaryOp → Expr → Bool) : Bool := match e with
  | .UnaryOp op a _ => k op a
  | _ => false
theorem vUn_inv {e : Expr} {k : UnaryOp → Expr → Bool} (h : vUn e k = true) : ∃ op a p, e = .UnaryOp op a p ∧ k op a = true := by cases e <;> first | exact ⟨_, _, _, rfl, h⟩ | exact (Bool.false_ne_true h).elim
noncomputable def vCmp (e : Expr) (k : Expr → List CmpOp → List Expr → Bool) : Bool := match e with
  | .Compare l ops cs _ => k l ops cs
  | _ => false
theorem vCmp_inv {e : Expr} {k : Expr → List CmpOp → List Expr → Bool} (h : vCmp e k = true) : ∃ l ops cs p, e = .Compare l ops cs p ∧ k l ops cs = true := by cases e <;> first | exact ⟨_, _, _, _, rfl, h⟩ | exact (Bool.false_ne_true h).elim
noncomputable def vBool (e : Expr) (k : BoolOp → List Expr → Bool) : Bool := match e with
  | .BoolOp op es _ => k op es
  | _ => false
theorem vBool_inv {e : Expr} {k : BoolOp → List Expr → Bool} (h : vBool e k = true) : ∃ op es p, e = .BoolOp op es p ∧ k op es = true := by cases e <;> first | exact ⟨_, _, _, rfl, h⟩ | exact (Bool.false_ne_true h).elim
noncomputable def vCall (e : Expr) (k : Expr → List Expr → List Keyword → Pos → Bool) : Bool := match e with
  | .Call f as ks p => k f as ks p
  | _ => false
theorem vCall_inv {e : Expr} {k : Expr → List Expr → List Keyword → Pos → Bool} (h : vCall e k = true) : ∃ f as ks p, e = .Call f as ks p ∧ k f as ks p = true := by cases e <;> first | exact ⟨_, _, _, _, rfl, h⟩ | exact (Bool.false_ne_true h).elim
noncomputable def vAttr (e : Expr) (k : Expr → Str → Pos → Bool) : Bool := match e with
  | .Attribute o m p => k o m p
  | _ => false
theorem vAttr_inv {e : Expr} {k : Expr → Str → Pos → Bool} (h : vAttr e k = true) : ∃ o m p, e = .Attribute o m p ∧ k o m p = true := by cases e <;> first | exact ⟨_, _, _, rfl, h⟩ | exact (Bool.false_ne_true h).elim
noncomputable def vSub (e : Expr) (k : Expr → Expr → Bool) : Bool := match e with
  | .Subscript o i _ => k o i
  | _ => false
theorem vSub_inv {e : Expr} {k : Expr → Expr → Bool} (h : vSub e k = true) : ∃ o i p, e = .Subscript o i p ∧ k o i = true := by cases e <;> first | exact ⟨_, _, _, rfl, h⟩ | exact (Bool.false_ne_true h).elim
noncomputable def vSlice (e : Expr) (k : Option Expr → Option Expr → Option Expr → Bool) : Bool := match e with
  | .Slice a b c _ => k a b c
  | _ => false
theorem vSlice_inv {e : Expr} {k : Option Expr → Option Expr → Option Expr → Bool} (h : vSlice e k = true) : ∃ a b c p, e = .Slice a b c p ∧ k a b c = true := by cases e <;> first | exact ⟨_, _, _, _, rfl, h⟩ | exact (Bool.false_ne_true h).elim
noncomputable def vList (e : Expr) (k : List Expr → Bool) : Bool := match e with
  | .List es _ => k es
  | _ => false
theorem vList_inv {e : Expr} {k : List Expr → Bool} (h : vList e k = true) : ∃ es p, e = .List es p ∧ k es = true := by cases e <;> first | exact ⟨_, _, rfl, h⟩ | exact (Bool.false_ne_true h).elim
noncomputable def vTup (e : Expr) (k : List Expr → Bool) : Bool := match e with
  | .Tuple es _ _ => k es
  | _ => false
theorem vTup_inv {e : Expr} {k : List Expr → Bool} (h : vTup e k = true) : ∃ es n p, e = .Tuple es n p ∧ k es = true := by cases e <;> first | exact ⟨_, _, _, rfl, h⟩ | exact (Bool.false_ne_true h).elim
noncomputable def vComp (e : Expr) (k : Expr → List Comprehension → Scope → Bool) : Bool := match e with
  | .ListComp elt gs sc _ => k elt gs sc
  | _ => false
theorem vComp_inv {e : Expr} {k : Expr → List Comprehension → Scope → Bool} (h : vComp e k = true) : ∃ elt gs sc p, e = .ListComp elt gs sc p ∧ k elt gs sc = true := by cases e <;> first | exact ⟨_, _, _, _, rfl, h⟩ | exact (Bool.false_ne_true h).elim

theorem and2 {a b : Bool} (h : (a && b) = true) : a = true ∧ b = true := by cases a <;> cases b <;> first | exact ⟨rfl, rfl⟩ | cases h

noncomputable def nameCall (e : Expr) (k : Str → List Expr → Bool) : Bool := vCall e fun f as ks _ => ks.isEmpty && vName f fun x => k x as
theorem nil_of {α : Type} {l : List α} (h : l.isEmpty = true) : l = [] := List.isEmpty_iff.mp h
theorem nameCall_inv {e : Expr} {k : Str → List Expr → Bool} (h : nameCall e k = true) : ∃ x np as p, e = .Call (.Name x np) as [] p ∧ k x as = true := by
  obtain ⟨f, as, ks, p, e1, h1⟩ := vCall_inv h
  obtain ⟨hk, h2⟩ := and2 h1
  obtain ⟨x, np, e2, h3⟩ := vName_inv h2
  rw [nil_of hk, e2] at e1
  exact ⟨x, np, as, p, e1, h3⟩
noncomputable def oneGen (gs : List Comprehension) (k : Expr → Expr → List Expr → Int → Bool) : Bool := match gs with
  | [⟨tg, iter, ifs, a⟩] => k tg iter ifs a
  | _ => false
theorem oneGen_inv {gs : List Comprehension} {k : Expr → Expr → List Expr → Int → Bool} (h : oneGen gs k = true) : ∃ tg iter ifs a, gs = [⟨tg, iter, ifs, a⟩] ∧ k tg iter ifs a = true := match gs, h with
  | [⟨tg, iter, ifs, a⟩], h => ⟨tg, iter, ifs, a, rfl, h⟩
noncomputable def oneComp (e : Expr) (sc : Scope) (k : Expr → Str → Expr → List Expr → Scope → Bool) : Bool := vComp e fun elt gs scope => oneGen gs fun tg iter ifs a => a == 0 && vName tg fun x => compScopeOk scope sc x && k elt x iter ifs scope
theorem oneComp_inv {e : Expr} {sc : Scope} {k : Expr → Str → Expr → List Expr → Scope → Bool} (h : oneComp e sc k = true) :
    ∃ elt x px iter ifs scope p, e = .ListComp elt [⟨.Name x px, iter, ifs, 0⟩] scope p ∧ compScopeOk scope sc x = true ∧ k elt x iter ifs scope = true := by
  obtain ⟨elt, gs, scope, p, e1, h1⟩ := vComp_inv h
  obtain ⟨tg, iter, ifs, a, e2, h2⟩ := oneGen_inv h1
  obtain ⟨ha, h3⟩ := and2 h2
  obtain ⟨x, px, e3, h4⟩ := vName_inv h3
  obtain ⟨hs, h5⟩ := and2 h4
  rw [e3, eq_of_beq ha] at e2
  rw [e2] at e1
  exact ⟨elt, x, px, iter, ifs, scope, p, e1, hs, h5⟩

noncomputable def l1 {α : Type} (l : List α) (k : α → Bool) : Bool := match l with
  | [a] => k a
  | _ => false
theorem l1_inv {α : Type} {l : List α} {k : α → Bool} (h : l1 l k = true) : ∃ a, l = [a] ∧ k a = true := match l, h with
  | [a], h => ⟨a, rfl, h⟩
noncomputable def l2 {α : Type} (l : List α) (k : α → α → Bool) : Bool := match l with
  | [a, b] => k a b
  | _ => false
theorem l2_inv {α : Type} {l : List α} {k : α → α → Bool} (h : l2 l k = true) : ∃ a b, l = [a, b] ∧ k a b = true := match l, h with
  | [a, b], h => ⟨a, b, rfl, h⟩
theorem or2 {a b : Bool} (h : (a || b) = true) : a = true ∨ b = true := by cases a <;> cases b <;> first | exact .inl rfl | exact .inr rfl | cases h

noncomputable def isNoneM : ME → Bool
  | .cnone => true
  | _ => false
noncomputable def isTrueM : ME → Bool
  | .cbool b => b
  | _ => false
noncomputable def isZeroM : ME → Bool
  | .cint i => i == 0
  | _ => false
noncomputable def cI (c : Const) (i : Int) : Bool := match c with
  | .int j => i == j
  | _ => false
noncomputable def cB (c : Const) (b : Bool) : Bool := match c with
  | .bool d => b == d
  | _ => false
noncomputable def cS (c : Const) (x : Str) : Bool := match c with
  | .str y => x == y
  | _ => false
noncomputable def so {α : Type} (o : Option α) (k : α → Bool) (n : Bool) : Bool := match o with
  | some x => k x
  | none => n
mutual
noncomputable def chkE (T : Tbl) : ME → Scope → List (Option Str) → Expr → Bool
  | .cint i, _, _, e => vConst e fun c => cI c i
  | .cbool b, _, _, e => vConst e fun c => cB c b
  | .cnone, _, _, _ => false
  | .cstr x, _, _, e => vConst e fun c => cS c x
  | .loc i, _, nm, e => vName e fun x => !(x == ("__debug__" : Str)) && nm[i]? == some (some x)
  | .bin op l r, sc, nm, e => vBin e fun a o b => o == op && (chkE T l sc nm a && chkE T r sc nm b)
  | .not m, sc, nm, e => vUn e fun o a => o == .Not && chkE T m sc nm a
  | .cmp l op r, sc, nm, e => vCmp e fun a ops cs => l1 ops fun o => l1 cs fun b => o == op && (chkE T l sc nm a && chkE T r sc nm b)
  | .bop op ms, sc, nm, e => vBool e fun o es => o == op && chkEs T ms sc nm es
  | .callf f ms, sc, nm, e => nameCall e fun x as => isGlob sc x && (T.fns.lookup x == some f && (!as.isEmpty && chkEs T ms sc nm as))
  | .callb b ms, sc, nm, e => nameCall e fun x as => isGlob sc x && (T.bfs.lookup x == some b && (!as.isEmpty && chkEs T ms sc nm as))
  | .isi m t, sc, nm, e => nameCall e fun x as => isGlob sc x && (x == ("isinstance" : Str) && l2 as fun a b => chkE T m sc nm a && vName b fun y => isGlob sc y && T.tys.lookup y == some t)
  | .meth o m ms, sc, nm, e => vCall e fun f as ks p => ks.isEmpty && vAttr f fun b x ap =>
      (ap.endLine == p.line && plainBase b) && (x == m.nm && (chkE T o sc nm b && (decide (as.length < 2) && chkEs T ms sc nm as)))
  | .sub o i, sc, nm, e => vSub e fun a b => chkE T o sc nm a && chkE T i sc nm b
  | .slice o lo hi, sc, nm, e => vSub e fun a b => chkE T o sc nm a && vSlice b fun x y z => z.isNone && (so x (fun x => chkE T lo sc nm x) (isNoneM lo) && so y (fun y => chkE T hi sc nm y) false)
  | .list ms, sc, nm, e => vList e fun es => chkEs T ms sc nm es
  | .tup ms, sc, nm, e => vTup e fun es => chkEs T ms sc nm es
  | .comp el it c, sc, nm, e => oneComp e sc fun elt x iter ifs scope => chkE T el (relabelS scope sc) (compNames scope nm x) elt && (chkE T it sc nm iter &&
      (ifs.isEmpty && isTrueM c || l1 ifs fun i => chkE T c (relabelS scope sc) (compNames scope nm x) i))
  | .compR el a b c, sc, nm, e => oneComp e sc fun elt x iter ifs scope => chkE T el (relabelS scope sc) (compNames scope nm x) elt && ((nameCall iter fun y as => isGlob sc y && (y == ("range" : Str) &&
      ((l1 as fun q => isZeroM a && chkE T b sc nm q) || l2 as fun p q => chkE T a sc nm p && chkE T b sc nm q))) &&
      (ifs.isEmpty && isTrueM c || l1 ifs fun i => chkE T c (relabelS scope sc) (compNames scope nm x) i))
noncomputable def chkEs (T : Tbl) : MEs → Scope → List (Option Str) → List Expr → Bool
  | .nil, _, _, es => es.isEmpty
  | .cons m ms, sc, nm, es => match es with
    | e :: r => chkE T m sc nm e && chkEs T ms sc nm r
    | [] => false
end
theorem chkEs_cons {T : Tbl} {m : ME} {ms : MEs} {sc : Scope} {nm : List (Option Str)} {es : List Expr} (h : chkEs T (.cons m ms) sc nm es = true) : ∃ e r, es = e :: r ∧ chkE T m sc nm e = true ∧ chkEs T ms sc nm r = true := by
  cases es with
  | nil => cases h
  | cons e r => exact ⟨e, r, rfl, and2 h⟩
noncomputable def kindOK (e : Expr) : Bool := match e with
  | .Constant .. => true
  | .Name .. => true
  | .BinOp .. => true
  | .UnaryOp .. => true
  | .Compare .. => true
  | .BoolOp .. => true
  | .Call .. => true
  | .Subscript .. => true
  | .List .. => true
  | .Tuple .. => true
  | .ListComp .. => true
  | _ => false
end Mine
end

section
namespace Mine
open PySem PyProof.Rows PySem.SeqAt

noncomputable def BP (cx : Cx) (s : Shared) (H : HP) (Q : Bool → HP → Prop) : Bool → Shared → Prop := fun b s' => ∃ H', HS cx H' s' ∧ KE s H s' H' ∧ Q b H'
noncomputable def LP (cx : Cx) (s : Shared) (H : HP) (Q : List V → HP → Prop) : List Value → Shared → Prop := fun vs s' => ∃ H', HS cx H' s' ∧ KE s H s' H' ∧ Q (vs.map abs) H'
theorem bp_from {cx : Cx} {s s₁ : Shared} {H H₁ : HP} {Q : Bool → HP → Prop} {M : Model} {A : Around} {E : Value → Shared → Prop} {t : Sem Bool} (k : KE s H s₁ H₁) (h : wpAny M A t (BP cx s₁ H₁ Q) E s₁) : wpAny M A t (BP cx s H Q) E s₁ :=
  wpAny_mono h (fun _ _ ⟨H', a, b, c⟩ => ⟨H', a, k.trans b, c⟩) fun _ _ e => e
theorem ep_then {cx : Cx} {s : Shared} {H : HP} {Q : V → HP → Prop} {Q' : Value → Shared → Prop} {M : Model} {A : Around} {E : Value → Shared → Prop} {t : Sem Value} (h : wpAny M A t (EP cx s H Q) E s)
    (f : ∀ v s₁ H₁, HS cx H₁ s₁ → KE s H s₁ H₁ → Q (abs v) H₁ → Q' v s₁) : wpAny M A t Q' E s := wpAny_mono h (fun v s₁ ⟨H₁, a, b, c⟩ => f v s₁ H₁ a b c) fun _ _ e => e

theorem starEach_of {e : Expr} (h : kindOK e = true) (r : List Expr) (env : Env) : starEach (e :: r) env = (false, eval e env) :: starEach r env := by
  cases e <;> first | rfl | exact (Bool.false_ne_true h).elim
theorem marks_of {e : Expr} (h : kindOK e = true) (op : CmpOp) : behindInMarks op e = false := by
  cases e <;> first | rfl | exact (Bool.false_ne_true h).elim
theorem folded_of {e : Expr} (h : kindOK e = true) (env : Env) (x : Value) : foldedSetIterable e env x = pure x := by
  cases e <;> first | rfl | exact (Bool.false_ne_true h).elim
theorem notSlice_of {e : Expr} (h : kindOK e = true) : notSlice e = true := by
  cases e <;> first | rfl | exact (Bool.false_ne_true h).elim
theorem base_of {o : Expr} (h : plainBase o = true) (x : Str) (env : Env) (t : Sem Value) : attributeBase o x env t = t := by
  cases o <;> first | rfl | exact (Bool.false_ne_true h).elim
theorem truth_inv {v : Value} {Q : Bool → Prop} (h : TruthP (abs v) Q) : ∃ b, v = .bool b ∧ Q b := by
  cases v <;> first | exact ⟨_, rfl, h⟩ | exact False.elim h

section
variable {cx : Cx} {T : Tbl} {fm : Fm} {H : HP} {μ : List V} {s : Shared} {A : Around} {E : Value → Shared → Prop} {n : Nat}

theorem glob_name (C : cx.OK) (W : fm.OK cx) (S : HS cx H s) {M : Model} {x : Str} {pos : Pos} {v : Value} (hx : isGlob fm.env.scope x = true) (hg : cx.gl x = some v) {Q : Value → Shared → Prop} (h : Q v s) :
    wpAny M A (eval (.Name x pos) fm.env) Q E s := by
  obtain ⟨h1, h2⟩ := and2 hx
  refine Calls.Name_function_global W.kind (eq_of_beq h1) ?_ (by simpa using h2)
  rcases C.glob x v hg with ⟨mg, g1, g2⟩ | ⟨mg, mb, g1, g2, g3, g4⟩
  · exact Calls.loadGlobal_global (by rw [W.globals]; exact g1.keeps S.ext) g2 h
  · exact Calls.loadGlobal_builtin (by rw [W.globals]; exact g1.keeps S.ext) g2 (by rw [W.builtins]; exact g3.keeps S.ext) g4 h

theorem callf_ok (hA : AOK A n) (S : HS cx H s) {f : Addr} {vs : List Value} {Q : V → HP → Prop} (h : CallP cx n f (vs.map abs) H Q) :
    wpAny (model cx.prog cx.w) A (call (.ref f) vs) (EP cx s H Q) E s := by
  refine wpAny_call (codeAny_mono (h A s vs hA.toACall S rfl) fun r s' hr => ?_)
  obtain ⟨v, H', rfl, a, b, c⟩ := hr
  exact ⟨H', a, b, c⟩
theorem noStar (env : Env) (pos : Pos) : ∀ {es : List Expr}, (∀ e ∈ es, kindOK e = true) → (backTo pos (starEach es env)).any (·.1) = false ∧ (backTo pos (starEach es env)).all (fun x => !x.1) = true
  | [], _ => ⟨rfl, rfl⟩
  | e :: r, h => by
    rw [starEach_of (h e List.mem_cons_self)]
    exact noStar env pos fun e he => h e (List.mem_cons_of_mem _ he)
noncomputable def Mth.id : Mth → String
  | .append => "list.append"
  | .pop => "list.pop"
theorem mth_slot (m : Mth) : Slot "list" m.nm m.id ∧ typeOf (.builtin m.id) = pure (.type "method_descriptor") := by
  cases m with
  | append => exact ⟨PySem.F.slot_list_append, PySem.F.type_list_append⟩
  | pop => exact ⟨PySem.F.slot_list_pop, PySem.F.type_list_pop⟩
theorem listAt_inv {o : V} {H : HP} (h : listAt o H) : ∃ a vs, o = .ref a ∧ H a = some (.list vs) := by
  obtain ⟨a, e, h⟩ := onR_inv h
  obtain ⟨vs, e2, _⟩ := onHL_inv h
  exact ⟨a, vs, e, e2⟩
theorem erase_last (xs : Array Value) : (xs.eraseIdxIfInBounds (xs.size - 1)).toList = xs.toList.dropLast := by
  rw [Array.toList_eraseIdxIfInBounds]
  rw [List.dropLast_eq_take, List.eraseIdx_eq_take_drop_succ]
  simp
  omega
theorem meth0 {H : HP} {s : Shared} (S : HS cx H s) {a : Addr} {m : Mth} {pos : Pos} {Q : V → HP → Prop} (h : methP (.ref a) m [] H Q) :
    wpAny (model cx.prog cx.w) A (callWith pos (.builtin m.id) [.ref a] [] []) (EP cx s H Q) E s := by
  obtain ⟨vs, hvs, h⟩ := onHL_inv h
  cases m with
  | append => exact False.elim h
  | pop =>
    obtain ⟨v, hv, h1, h2⟩ := onO_inv h
    obtain ⟨items, k, e, mm⟩ := S.hr _ _ hvs
    have hlast : vs[vs.length - 1]? = some v := by rw [← List.getLast?_eq_getElem?]; exact hv
    obtain ⟨y, hy, hya⟩ := item_of mm hlast
    rw [← size_of mm] at hy
    have hle : items.size ≤ sizeLine := by rw [size_of mm, sizeLine_eq]; exact h1
    refine P.pop_list e hy ?_ hle
    have e' := IsL.update e (fun xs => xs.eraseIdxIfInBounds (items.size - 1))
    have sb : ∀ b ob, b ≠ a → s.heap.get? b = some ob → (s.heap.update a (Obj.mapSeq fun xs => xs.eraseIdxIfInBounds (items.size - 1))).get? b = some ob := fun b ob hb q => (Heap.get?_update_other _ _ (Ne.symm hb)).trans q
    exact ⟨_, S.change hvs sb (rep_list e' (by rw [erase_last, List.map_dropLast, mm])) s.toks, KE.change hvs sb s.toks, by rw [hya]; exact h2⟩
theorem meth1 {H : HP} {s : Shared} {a : Addr} {m : Mth} {pos : Pos} {x : Sem Value} {Q : V → HP → Prop}
    (h : wpAny (model cx.prog cx.w) A x (EP cx s H fun v H => methP (.ref a) m [v] H Q) E s) :
    wpAny (model cx.prog cx.w) A (callWith pos (.builtin m.id) [.ref a] [(false, x)] []) (EP cx s H Q) E s := by
  cases m with
  | append =>
    refine P.append_list (ep_then h fun v s₁ H₁ S k₁ h => ?_)
    obtain ⟨vs, hvs, h⟩ := onHL_inv h
    obtain ⟨items, k, e, mm⟩ := S.hr _ _ hvs
    refine ⟨items, k, by rw [size_of mm, sizeLine_eq]; exact h.1, e, ?_⟩
    have e' := IsL.update e (fun xs => xs.push v)
    have sb : ∀ b ob, b ≠ a → s₁.heap.get? b = some ob → (s₁.heap.update a (Obj.mapSeq fun xs => xs.push v)).get? b = some ob := fun b ob hb q => (Heap.get?_update_other _ _ (Ne.symm hb)).trans q
    exact ⟨_, S.change hvs sb (rep_list e' (by rw [Array.toList_push, List.map_append, mm]; rfl)) s₁.toks, k₁.trans (KE.change hvs sb s₁.toks), h.2⟩
  | pop =>
    refine Calls.callWith_builtin rfl (Calls.evalArgs_plain (Calls.spliced_cons (ep_then h fun v s₁ H₁ _ _ h => ?_)))
    obtain ⟨vs, _, h⟩ := onHL_inv h
    exact False.elim h
theorem truth_ok {M : Model} {H : HP} {s : Shared} {Q : Bool → HP → Prop} {v : Value} {s' : Shared} (x : EP cx s H (fun v H => TruthP v fun b => Q b H) v s') : wpAny M A (truthy v) (BP cx s H Q) E s' := by
  obtain ⟨H₁, S₁, k₁, h₁⟩ := x
  obtain ⟨b, rfl, h₁⟩ := truth_inv h₁
  exact wpAny_truthy_bool ⟨H₁, S₁, k₁, h₁⟩
end
end Mine
end

section
namespace Mine
open PySem PyProof.Rows PySem.SeqAt

noncomputable def JE (cx : Cx) (A : Around) (n : Nat) (m : ME) (fm : Fm) (e : Expr) : Prop :=
  ∀ (E : Value → Shared → Prop) (H : HP) (μ : List V) (s : Shared) (Q : V → HP → Prop), SR cx fm H μ s → mwpE cx n m μ H Q → wpAny (model cx.prog cx.w) A (eval e fm.env) (EP cx s H Q) E s
noncomputable def JT (cx : Cx) (A : Around) (n : Nat) (m : ME) (fm : Fm) (e : Expr) : Prop :=
  ∀ (E : Value → Shared → Prop) (H : HP) (μ : List V) (s : Shared) (Q : Bool → HP → Prop), SR cx fm H μ s → mwpE cx n m μ H (fun v H => TruthP v fun b => Q b H) → wpAny (model cx.prog cx.w) A (isTrue e fm.env (eval e fm.env)) (BP cx s H Q) E s
noncomputable def JL (cx : Cx) (A : Around) (n : Nat) (ms : MEs) (fm : Fm) (es : List Expr) : Prop :=
  ∀ (E : Value → Shared → Prop) (pos : Pos) (H : HP) (μ : List V) (s : Shared) (Q : List V → HP → Prop), SR cx fm H μ s → mwpEs cx n ms μ H Q → wpAny (model cx.prog cx.w) A (spliced (backTo pos (starEach es fm.env))) (LP cx s H Q) E s
noncomputable def JB (cx : Cx) (A : Around) (n : Nat) (op : BoolOp) (ms : MEs) (fm : Fm) (es : List Expr) : Prop :=
  ∀ (E : Value → Shared → Prop) (pos : Pos) (H : HP) (μ : List V) (s : Shared) (Q : V → HP → Prop), SR cx fm H μ s → mwpB cx n op ms μ H Q → wpAny (model cx.prog cx.w) A (boolOp pos op (evalEach es fm.env)) (EP cx s H Q) E s
noncomputable def JU (cx : Cx) (A : Around) (n : Nat) (op : BoolOp) (ms : MEs) (fm : Fm) (es : List Expr) : Prop :=
  ∀ (E : Value → Shared → Prop) (H : HP) (μ : List V) (s : Shared) (Q : Bool → HP → Prop), SR cx fm H μ s → mwpB cx n op ms μ H (fun v H => TruthP v fun b => Q b H) → wpAny (model cx.prog cx.w) A (allTrue op es fm.env) (BP cx s H Q) E s

section
variable {cx : Cx} {T : Tbl} {A : Around} {n : Nat} {fm : Fm} {E : Value → Shared → Prop} {H : HP} {μ : List V} {s : Shared} {Q : V → HP → Prop}

theorem j_int {i : Int} {c : Const} {k : Nat} {p : Pos} (h : cI c i = true) : JE cx A n (.cint i) fm (.Constant c k p) := by
  intro E H μ s Q S hq
  cases c with
  | int j => have := eq_of_beq (show (i == j) = true from h); subst this; exact wpAny_Constant_int (ep_same S.toHS _ hq)
  | _ => exact (Bool.false_ne_true h).elim
theorem j_bool {b : Bool} {c : Const} {k : Nat} {p : Pos} (h : cB c b = true) : JE cx A n (.cbool b) fm (.Constant c k p) := by
  intro E H μ s Q S hq
  cases c with
  | bool j => have := eq_of_beq (show (b == j) = true from h); subst this; exact wpAny_Constant_bool (ep_here S.toHS hq)
  | _ => exact (Bool.false_ne_true h).elim
theorem j_str {x : Str} {c : Const} {k : Nat} {p : Pos} (h : cS c x = true) : JE cx A n (.cstr x) fm (.Constant c k p) := by
  intro E H μ s Q S hq
  cases c with
  | str j => have := eq_of_beq (show (x == j) = true from h); subst this; exact wpAny_Constant_str (ep_same S.toHS _ hq)
  | _ => exact (Bool.false_ne_true h).elim
theorem j_loc (W : fm.OK cx) {i : Nat} {x : Str} {p : Pos} (hd : (!(x == ("__debug__" : Str))) = true) (hi : fm.names[i]? = some (some x)) : JE cx A n (.loc i) fm (.Name x p) := by
  intro E H μ s Q S h
  exact wpAny_Name (load_loc W S hi h.1 fun v hv => ep_here S.toHS (by rw [hv]; exact h.2)) (by simpa using hd)
theorem j_bin (C : cx.OK) (hA : AOK A n) {l r : ME} {a b : Expr} {op : Operator} {p : Pos} (il : JE cx A n l fm a) (ir : JE cx A n r fm b) : JE cx A n (.bin op l r) fm (.BinOp a op b p) := by
  intro E H μ s Q S h
  refine wpAny_BinOp (ep_then (il E H μ s _ S h) fun v s₁ H₁ S₁ k₁ h₁ => ep_then (ir E H₁ μ s₁ _ (S.step S₁ k₁) h₁) fun w s₂ H₂ S₂ k₂ h₂ => ?_)
  exact ep_from (k₁.trans k₂) (bin_ok C hA S₂ h₂)
theorem j_not {m : ME} {a : Expr} {p : Pos} (i : JE cx A n m fm a) : JE cx A n (.not m) fm (.UnaryOp .Not a p) := by
  intro E H μ s Q S h
  refine wpAny_UnaryOp (ep_then (i E H μ s _ S h) fun v s₁ H₁ S₁ k₁ h₁ => ?_)
  obtain ⟨b, rfl, h₁⟩ := truth_inv h₁
  exact PyProof.Rows.not_of (wpAny_truthy_bool ⟨H₁, S₁, k₁, h₁⟩)
theorem t_not {m : ME} {a : Expr} {p : Pos} (i : JT cx A n m fm a) : JT cx A n (.not m) fm (.UnaryOp .Not a p) := fun E H μ s Q S h =>
  wpAny_isTrue_Not (i E H μ s (fun b H => Q (!b) H) S h)
theorem j_cmp (C : cx.OK) {l r : ME} {a b : Expr} {op : CmpOp} {p : Pos} (kb : kindOK b = true) (il : JE cx A n l fm a) (ir : JE cx A n r fm b) : JE cx A n (.cmp l op r) fm (.Compare a [op] [b] p) := by
  intro E H μ s Q S h
  refine wpAny_Compare1 (ep_then (il E H μ s _ S h) fun v s₁ H₁ S₁ k₁ h₁ => ep_then (ir E H₁ μ s₁ _ (S.step S₁ k₁) h₁) fun w s₂ H₂ S₂ k₂ h₂ => ?_) (marks_of kb _)
  obtain ⟨c, hc, h₂⟩ := onO_inv h₂
  exact ep_from (k₁.trans k₂) (cmp_ok C S₂ hc h₂)
theorem t_cmp (C : cx.OK) {l r : ME} {a b : Expr} {op : CmpOp} {p : Pos} (kb : kindOK b = true) (il : JE cx A n l fm a) (ir : JE cx A n r fm b) : JT cx A n (.cmp l op r) fm (.Compare a [op] [b] p) := by
  intro E H μ s Q S h
  refine wpAny_isTrue_Compare1 (ep_then (il E H μ s _ S h) fun v s₁ H₁ S₁ k₁ h₁ => ep_then (ir E H₁ μ s₁ _ (S.step S₁ k₁) h₁) fun w s₂ H₂ S₂ k₂ h₂ => ?_) (marks_of kb _)
  obtain ⟨c, hc, h₂⟩ := onO_inv h₂
  refine ep_then (cmp_ok (Q := fun v H => TruthP v fun b => Q b H) C S₂ hc h₂) fun t s₃ H₃ S₃ k₃ h₃ => truth_ok ⟨H₃, S₃, k₁.trans (k₂.trans k₃), h₃⟩
theorem t_value {m : ME} {e : Expr} (i : JE cx A n m fm e) (he : ∀ env whole, isTrue e env whole = (do let v ← whole; standAt e.pos; holding [v] (truthy v))) : JT cx A n m fm e := fun E H μ s Q S h =>
  wpAny_isTrue_value (wpAny_mono (i E H μ s _ S h) (fun _ _ x => truth_ok x) fun _ _ e => e) (he _ _)

theorem jl_nil : JL cx A n .nil fm [] := fun E pos H μ s Q S h => Calls.spliced_nil ⟨H, S.toHS, Kept.refl _ s H, h⟩
theorem jl_cons {m : ME} {ms : MEs} {e : Expr} {r : List Expr} (ke : kindOK e = true) (i : JE cx A n m fm e) (ir : JL cx A n ms fm r) : JL cx A n (.cons m ms) fm (e :: r) := by
  intro E pos H μ s Q S h
  rw [starEach_of ke]
  refine Calls.spliced_cons (ep_then (i E H μ s _ S h) fun v s₁ H₁ S₁ k₁ h₁ => wpAny_mono (ir E pos H₁ μ s₁ _ (S.step S₁ k₁) h₁) (fun vs s₂ x => ?_) fun _ _ e => e)
  obtain ⟨H₂, S₂, k₂, h₂⟩ := x
  exact ⟨H₂, S₂, k₁.trans k₂, h₂⟩
theorem j_list (C : cx.OK) {ms : MEs} {es : List Expr} {p : Pos} (i : JL cx A n ms fm es) : JE cx A n (.list ms) fm (.List es p) := by
  intro E H μ s Q S h
  refine List_ (wpAny_mono (i E p H μ s _ S h) (fun vs s₁ x => ?_) fun _ _ e => e)
  obtain ⟨H₁, S₁, k₁, hlen, h₁⟩ := x
  exact ep_from k₁ (wpAny_newList (ep_push C S₁ h₁ (fun h e => rep_list e (by simp)) rfl _) (by rw [sizeLine_eq]; simpa using hlen))
theorem j_tup (C : cx.OK) {ms : MEs} {es : List Expr} {k : Nat} {p : Pos} (i : JL cx A n ms fm es) : JE cx A n (.tup ms) fm (.Tuple es k p) := by
  intro E H μ s Q S h
  refine Tuple_ (wpAny_mono (i E p H μ s _ S h) (fun vs s₁ x => ?_) fun _ _ e => e)
  obtain ⟨H₁, S₁, k₁, hlen, h₁⟩ := x
  exact ep_from k₁ (wpAny_newTuple (ep_push C S₁ h₁ (fun h e => rep_tup e (by simp)) rfl _) (by rw [sizeLine_eq]; simpa using hlen))

theorem jb_one {op : BoolOp} {m : ME} {e : Expr} (i : JE cx A n m fm e) : JB cx A n op (.cons m .nil) fm [e] := fun E pos H μ s Q S h => i E H μ s Q S h
theorem jb_more {op : BoolOp} {m m' : ME} {ms : MEs} {e e' : Expr} {r : List Expr} (i : JE cx A n m fm e) (ir : JB cx A n op (.cons m' ms) fm (e' :: r)) : JB cx A n op (.cons m (.cons m' ms)) fm (e :: e' :: r) := by
  intro E pos H μ s Q S h
  show wpAny _ A (do
    let v ← eval e fm.env
    standAt pos
    let t ← holding [v] (truthy v)
    match op, t with
    | .And, false | .Or, true => pure v
    | _, _ => boolOp pos op (evalEach (e' :: r) fm.env)) _ E s
  refine wpAny_bind (ep_then (i E H μ s _ S h) fun v s₁ H₁ S₁ k₁ h₁ => ?_)
  obtain ⟨b, rfl, h₁⟩ := truth_inv h₁
  refine wpAny_bind (wpAny_standAt (wpAny_bind (wpAny_holding (wpAny_truthy_bool ?_))))
  have rec' := fun h' => ep_from (E := E) k₁ (ir E pos H₁ μ s₁ Q (S.step S₁ k₁) h')
  cases op <;> cases b
  · exact wpAny_pure ⟨H₁, S₁, k₁, h₁.2 rfl⟩
  · exact rec' (h₁.1 rfl)
  · exact rec' (h₁.1 rfl)
  · exact wpAny_pure ⟨H₁, S₁, k₁, h₁.2 rfl⟩
theorem ju_one {op : BoolOp} {m : ME} {e : Expr} (i : JT cx A n m fm e) : JU cx A n op (.cons m .nil) fm [e] := by
  intro E H μ s Q S h
  have hx := i E H μ s Q S h
  cases op with
  | And =>
    refine wpAny_allTrue_And_cons (wpAny_mono hx (fun b s₁ x => ?_) fun _ _ e => e)
    cases b
    · exact x
    · exact wpAny_pure x
  | Or =>
    refine wpAny_allTrue_Or_cons (wpAny_mono hx (fun b s₁ x => ?_) fun _ _ e => e)
    cases b
    · exact wpAny_pure x
    · exact x
theorem ju_more {op : BoolOp} {m m' : ME} {ms : MEs} {e e' : Expr} {r : List Expr} (i : JT cx A n m fm e) (ir : JU cx A n op (.cons m' ms) fm (e' :: r)) : JU cx A n op (.cons m (.cons m' ms)) fm (e :: e' :: r) := by
  intro E H μ s Q S h
  have hx := i E H μ s (fun b H => (b = (op == .And) → mwpB cx n op (.cons m' ms) μ H (fun v H => TruthP v fun b => Q b H)) ∧ (b = (op == .Or) → Q b H)) S h
  have rec' := fun {s₁ H₁} (S₁ : HS cx H₁ s₁) (k₁ : KE s H s₁ H₁) h' => bp_from (E := E) k₁ (ir E H₁ μ s₁ Q (S.step S₁ k₁) h')
  cases op with
  | And =>
    refine wpAny_allTrue_And_cons (wpAny_mono hx (fun b s₁ x => ?_) fun _ _ e => e)
    obtain ⟨H₁, S₁, k₁, h₁⟩ := x
    cases b
    · exact ⟨H₁, S₁, k₁, h₁.2 rfl⟩
    · exact rec' S₁ k₁ (h₁.1 rfl)
  | Or =>
    refine wpAny_allTrue_Or_cons (wpAny_mono hx (fun b s₁ x => ?_) fun _ _ e => e)
    obtain ⟨H₁, S₁, k₁, h₁⟩ := x
    cases b
    · exact rec' S₁ k₁ (h₁.1 rfl)
    · exact ⟨H₁, S₁, k₁, h₁.2 rfl⟩

theorem callBF (C : cx.OK) (hA : AOK A n) {b : BF} {t : Sem Value} {ts : List (Bool × Sem Value)} {pos : Pos} (hns : ((false, t) :: ts).any (·.1) = false)
    (h : wpAny (model cx.prog cx.w) A (spliced ((false, t) :: ts)) (LP cx s H fun vs H => callbP cx b vs H Q) E s) :
    wpAny (model cx.prog cx.w) A (callWith pos b.val [] ((false, t) :: ts) []) (EP cx s H Q) E s := by
  have fin : ∀ v, b.val = v → wpAny (model cx.prog cx.w) A (evalArgs v true ((false, t) :: ts) []) (fun a s₁ => wpAny (model cx.prog cx.w) A (call v ([] ++ a.pos) a.kw) (EP cx s H Q) E s₁) E s := by
    intro v hv
    subst hv
    refine Calls.evalArgs_plain (wpAny_mono h (fun vs s₁ x => ?_) fun _ _ e => e)
    obtain ⟨H₁, S₁, k₁, h₁⟩ := x
    exact ep_from (E := E) k₁ (callb_ok (A := A) C hA S₁ h₁)
  cases b with
  | len => exact Calls.callWith_builtin (id := "len") hns (fin _ rfl)
  | list => exact PySem.callWith_type (T := "list") hns (fin _ rfl)
  | int => exact PySem.callWith_type (T := "int") hns (fin _ rfl)
  | sum => exact Calls.callWith_builtin (id := "sum") hns (fin _ rfl)
  | max => exact Calls.callWith_builtin (id := "max") hns (fin _ rfl)
  | sorted => exact Calls.callWith_builtin (id := "sorted") hns (fin _ rfl)
theorem j_callf (C : cx.OK) (TO : T.OK cx) (hA : AOK A n) (W : fm.OK cx) {f : Addr} {ms : MEs} {x : Str} {np p : Pos} {e : Expr} {r : List Expr} (hx : isGlob fm.env.scope x = true) (hf : T.fns.lookup x = some f) (ke : kindOK e = true)
    (i : JL cx A n ms fm (e :: r)) : JE cx A n (.callf f ms) fm (.Call (.Name x np) (e :: r) [] p) := by
  intro E H μ s Q S h
  obtain ⟨hg, o, fd, ho, hd⟩ := TO.fn x f hf
  refine wpAny_Call_ofName (glob_name C W S.toHS hx hg ?_)
  refine callWith_def hd (wpAny_mono (i E p H μ s _ S h) (fun vs s₁ x => ?_) fun _ _ e => e) (starEach_of ke _ _)
  obtain ⟨H₁, S₁, k₁, h₁⟩ := x
  exact ⟨S₁.ext _ _ ho, ep_from k₁ (callf_ok hA S₁ h₁)⟩
theorem j_callb (C : cx.OK) (TO : T.OK cx) (hA : AOK A n) (W : fm.OK cx) {b : BF} {ms : MEs} {x : Str} {np p : Pos} {e : Expr} {r : List Expr} (hx : isGlob fm.env.scope x = true) (hf : T.bfs.lookup x = some b) (ke : ∀ a ∈ e :: r, kindOK a = true)
    (i : JL cx A n ms fm (e :: r)) : JE cx A n (.callb b ms) fm (.Call (.Name x np) (e :: r) [] p) := by
  intro E H μ s Q S h
  have hs := i E p H μ s _ S h
  have hns := (noStar fm.env p ke).1
  refine wpAny_Call_ofName (glob_name C W S.toHS hx (TO.bf _ _ hf) ?_)
  rw [starEach_of (ke e List.mem_cons_self)] at hs hns ⊢
  exact callBF C hA hns hs
theorem j_isi (C : cx.OK) (TO : T.OK cx) (W : fm.OK cx) {m : ME} {t : String} {np tp p : Pos} {e : Expr} {y : Str} (hx : isGlob fm.env.scope "isinstance" = true) (hy : isGlob fm.env.scope y = true) (hf : T.tys.lookup y = some t) (ke : kindOK e = true)
    (i : JE cx A n m fm e) : JE cx A n (.isi m t) fm (.Call (.Name "isinstance" np) [e, .Name y tp] [] p) := by
  intro E H μ s Q S h
  refine wpAny_Call_ofName (glob_name C W S.toHS hx TO.isi ?_)
  rw [starEach_of ke]
  refine Calls.callWith_builtin (by rfl) (Calls.evalArgs_plain (Calls.spliced_cons (ep_then (i E H μ s _ S h) fun v s₁ H₁ S₁ k₁ h₁ => ?_)))
  refine Calls.spliced_cons (glob_name C W S₁ hy (TO.ty _ _ hf) (Calls.spliced_nil ?_))
  obtain ⟨b, hb, h₁⟩ := onO_inv h₁
  exact ep_from k₁ (isi_ok S₁ hb h₁)
theorem j_meth {o : ME} {m : Mth} {ms : MEs} {b : Expr} {ap p : Pos} {as : List Expr} (hp : (ap.endLine == p.line) = true) (hb : plainBase b = true) (hl : as.length < 2) (hc : chkEs T ms fm.env.scope fm.names as = true) (hk : ∀ a ∈ as, kindOK a = true) (io : JE cx A n o fm b)
    (ia : ∀ m' e, ms = .cons m' .nil → as = [e] → JE cx A n m' fm e) : JE cx A n (.meth o m ms) fm (.Call (.Attribute b m.nm ap) as [] p) := by
  intro E H μ s Q S h
  obtain ⟨slot, hty⟩ := mth_slot m
  have hns := (noStar fm.env p hk).2
  refine wpAny_Call_method (base_of hb _ _ _) (by rw [hns, show keywordEach [] fm.env = [] from rfl]; simp [backToKw]; first | lia | omega) hp PySem.F.plainAttrs_list slot hty (ep_then (io E H μ s _ S h) fun ov s₁ H₁ S₁ k₁ h₁ => ?_)
  obtain ⟨hl', h₁⟩ := h₁
  obtain ⟨ad, vs, e1, e2⟩ := listAt_inv hl'
  have := abs_ref e1; subst this
  obtain ⟨items, k, e3, _⟩ := S₁.hr _ _ e2
  refine ⟨⟨_, e3, rfl⟩, fun b hb => by cases hb; exact ⟨_, e3, rfl⟩, ?_⟩
  cases ms with
  | nil =>
    have := nil_of hc; subst this
    exact ep_from k₁ (meth0 S₁ h₁)
  | cons m' ms =>
    obtain ⟨e, r, rfl, h1, h2⟩ := chkEs_cons hc
    cases r with
    | cons e' r => rw [List.length_cons, List.length_cons] at hl; first | lia | omega
    | nil => cases ms with
      | nil =>
        rw [starEach_of (hk e List.mem_cons_self)]
        exact ep_from k₁ (meth1 (ia m' e rfl rfl E H₁ μ s₁ _ (S.step S₁ k₁) h₁))
      | cons => cases h2
theorem j_sub (C : cx.OK) {o i : ME} {a b : Expr} {p : Pos} (kb : kindOK b = true) (io : JE cx A n o fm a) (ii : JE cx A n i fm b) : JE cx A n (.sub o i) fm (.Subscript a b p) := by
  intro E H μ s Q S h
  refine Subscript_ (ep_then (io E H μ s _ S h) fun v s₁ H₁ S₁ k₁ h₁ => ep_then (ii E H₁ μ s₁ _ (S.step S₁ k₁) h₁) fun w s₂ H₂ S₂ k₂ h₂ => ?_)
  exact ep_from (k₁.trans k₂) (sub_ok C S₂ (notSlice_of kb) h₂)
theorem j_slice (C : cx.OK) {o lo hi : ME} {a b : Expr} {x : Option Expr} {p p' : Pos} (io : JE cx A n o fm a) (il : (x = none ∧ lo = .cnone) ∨ ∃ e, x = some e ∧ JE cx A n lo fm e) (ih : JE cx A n hi fm b) :
    JE cx A n (.slice o lo hi) fm (.Subscript a (.Slice x (some b) none p') p) := by
  intro E H μ s Q S h
  refine Subscript_ (ep_then (io E H μ s _ S h) fun v s₁ H₁ S₁ k₁ h₁ => ?_)
  have low : wpAny (model cx.prog cx.w) A (evalPart x fm.env) (EP cx s₁ H₁ fun l H => mwpE cx n hi μ H fun u H => sliceP cx (abs v) l u H Q) E s₁ := by
    rcases il with ⟨rfl, rfl⟩ | ⟨e, rfl, il⟩
    · exact wpAny_evalPart_none (ep_here S₁ h₁)
    · exact wpAny_evalPart_some (il E H₁ μ s₁ _ (S.step S₁ k₁) h₁)
  refine wpAny_Slice (ep_then low fun l s₂ H₂ S₂ k₂ h₂ => ?_)
  have k12 := k₁.trans k₂
  refine wpAny_evalPart_some (ep_then (ih E H₂ μ s₂ _ (S.step S₂ k12) h₂) fun u s₃ H₃ S₃ k₃ h₃ => wpAny_evalPart_none ?_)
  exact wpAny_mono (slice_ok C S₃ h₃) (fun _ _ x => x.from (k12.trans k₃)) fun _ _ e => e
end
end Mine
end

section
namespace Mine
open PySem PyProof.Rows PySem.SeqAt

structure Iter (cx : Cx) (A : Around) (E : Value → Shared → Prop) (it : Addr) (items : List V) (st : HP → Prop) (P : Nat → Heap → Prop) : Prop where
  next : ∀ (s : Shared) (H : HP) (i : Nat) (v : V) (Q : Option Value → Shared → Prop), HS cx H s → st H → P i s.heap → items[i]? = some v →
    (∀ h' tk x, Mine.abs x = v → P (i + 1) h' → Heap.SameBut it s.heap h' → Q (some x) { s with heap := h', toks := tk }) → wpAny (model cx.prog cx.w) A (pyNext (.ref it)) Q E s
  stop : ∀ (s : Shared) (H : HP) (Q : Option Value → Shared → Prop), HS cx H s → st H → P items.length s.heap →
    (∀ h', Heap.ExtBut it s.heap h' → Q none { s with heap := h' }) → wpAny (model cx.prog cx.w) A (pyNext (.ref it)) Q E s
  self : ∀ (s : Shared) (Q : Value → Shared → Prop), P 0 s.heap → Q (.ref it) s → wpAny (model cx.prog cx.w) A (pyIter (.ref it)) Q E s
  frame : ∀ i h h', P i h → (∀ o, h.get? it = some o → h'.get? it = some o) → P i h'
  live : ∀ i h, P i h → ∃ o, h.get? it = some o

section
variable {cx : Cx} {T : Tbl} {A : Around} {E : Value → Shared → Prop} {n : Nat}

theorem iter_list (C : cx.OK) (hh : A.handled = none) {H : HP} {s : Shared} (S : HS cx H s) {a : Addr} {vs : List V} (h : lk cx H a = some (.list vs)) {E' : Value → Shared → Prop} {Q : Value → Shared → Prop}
    (hQ : ∀ it P ob, s.heap.get? it = none → (∀ E, Iter cx A E it vs (fun H' => lk cx H' a = some (.list vs)) P) → P 0 (s.heap.push ob) → Q (.ref it) { s with heap := s.heap.push ob }) :
    wpAny (model cx.prog cx.w) A (pyIter (.ref a)) Q E' s := by
  obtain ⟨items, k, e, m⟩ := lk_rep C S h
  refine wpAny_pyIter_list (items := items) ⟨_, e, rfl, k, rfl⟩ ?_
  refine hQ _ (fun i h => h.IsListIter s.heap.objs.size a i) _ (get_size _) (fun E => ⟨?_, ?_, ?_, ?_, ?_⟩) ⟨_, Heap.get?_push_size _ rfl, rfl, rfl⟩
  · intro s' H' i v Q S' st hp hv hq
    obtain ⟨items', k', e', m'⟩ := lk_rep C S' st
    obtain ⟨x, hx, hxa⟩ := item_of m' hv
    exact wpAny_pyNext_list_item hp ⟨_, e', rfl, k', rfl⟩ hx fun h' hi sb => hq h' s'.toks x hxa hi sb
  · intro s' H' Q S' st hp hq
    obtain ⟨items', k', e', m'⟩ := lk_rep C S' st
    exact wpAny_pyNext_list_end hh hp ⟨_, e', rfl, k', rfl⟩ (by rw [← size_of m']; simp) hq
  · intro s' Q hp hq; exact wpAny_pyIter_listiter hp hq
  · rintro i h h' ⟨o, e, r⟩ hk; exact ⟨o, hk o e, r⟩
  · rintro i h ⟨o, e, r⟩; exact ⟨o, e⟩
theorem rangeL_length (x y : Int) : (rangeL x y).length = (y - x).toNat := by simp [rangeL]
theorem rangeL_get {x y : Int} {i : Nat} {v : V} (h : (intsV (rangeL x y))[i]? = some v) : v = .int (x + i) ∧ (i : Int) < y - x := by
  simp only [intsV, rangeL, List.getElem?_map, Option.map_eq_some_iff] at h
  obtain ⟨j, ⟨k, hk, rfl⟩, rfl⟩ := h
  obtain ⟨hlt, e⟩ := List.getElem?_eq_some_iff.mp hk
  simp at e hlt
  subst e
  exact ⟨rfl, by first | lia | omega⟩

theorem iter_range (hh : A.handled = none) {s : Shared} {r : Addr} {x y : Int} {t u v : Tok} (hr : IsRange s.heap r x y 1 t u v) (hx : -1152921504606846976 < x ∧ x < 1152921504606846976) (hy : -1152921504606846976 < y ∧ y < 1152921504606846976) {E' : Value → Shared → Prop} {Q : Value → Shared → Prop}
    (hQ : ∀ it P ob, s.heap.get? it = none → (∀ E, Iter cx A E it (intsV (rangeL x y)) (fun _ => True) P) → P 0 (s.heap.push ob) → Q (.ref it) { s with heap := s.heap.push ob }) :
    wpAny (model cx.prog cx.w) A (pyIter (.ref r)) Q E' s := by
  refine wpAny_pyIter_range hr ?_ ?_
  · have hs := rangeSize_one x y
    unfold Builtin.Range.small Builtin.Range.rangeFitsLong
    rw [hs]
    simp only [Bool.and_eq_true, Bool.or_eq_true, decide_eq_true_eq, beq_iff_eq, show (1 : Int) > 0 from by decide, if_true]
    split <;> omega
  · refine hQ _ (fun i h => IsRangeIter h s.heap.objs.size (x + i) (Builtin.Range.rangeSize x y 1 - i) 1) _ (get_size _) (fun E => ⟨?_, ?_, ?_, ?_, ?_⟩) ?_
    · intro s' H' i v Q S' st hp hv hq
      obtain ⟨rfl, hi⟩ := rangeL_get hv
      refine wpAny_pyNext_range_item hp ?_ fun h' hi' sb => hq h' _ _ rfl ?_ sb
      · rw [rangeSize_one]; split <;> omega
      · have e1 : x + (i : Int) + 1 = x + ((i + 1 : Nat) : Int) := by first | lia | omega
        have e2 : Builtin.Range.rangeSize x y 1 - (i : Int) - 1 = Builtin.Range.rangeSize x y 1 - ((i + 1 : Nat) : Int) := by first | lia | omega
        rw [e1, e2] at hi'; exact hi'
    · intro s' H' Q S' st hp hq
      refine wpAny_pyNext_range_end hh hp ?_ hq
      rw [rangeSize_one]
      simp only [intsV, List.length_map, rangeL_length]
      split <;> omega
    · intro s' Q hp hq; exact wpAny_pyIter_rangeiter hp hq
    · intro i h h' hp hk; exact hk _ hp
    · intro i h hp; exact ⟨_, hp⟩
    · have := Heap.get?_push_size s.heap (o := { cls := .type "range_iterator", data := .fields #[rawInt x, rawInt (Builtin.Range.rangeSize x y 1), rawInt 1] }) rfl
      simpa using this
end
end Mine
end

section
namespace Mine
open PySem PyProof.Rows PySem.SeqAt

section
variable {cx : Cx} {T : Tbl} {A : Around} {E : Value → Shared → Prop} {n : Nat}

theorem lookup_relabelS {outer : Scope} (y : Str) : ∀ (names : List (Str × NameKind)), (names.map fun (n, k) => if (k == NameKind.free && outer.kind == .function && outer.names.lookup n == some .cell) then (n, NameKind.cell) else (n, k)).lookup y =
    (names.lookup y).map fun k => if (k == NameKind.free && outer.kind == .function && outer.names.lookup y == some .cell) then NameKind.cell else k
  | [] => rfl
  | (n, k) :: r => by
    rw [List.map_cons, List.lookup_cons]
    have ih := lookup_relabelS (outer := outer) y r
    by_cases hy : y = n
    · subst hy
      by_cases hc : (k == NameKind.free && outer.kind == .function && outer.names.lookup y == some .cell) = true
      · simp only [if_pos hc, List.lookup_cons, beq_self_eq_true, Option.map_some]
      · simp only [if_neg hc, List.lookup_cons, beq_self_eq_true, Option.map_some]
    · have hb : (y == n) = false := beq_eq_false_iff_ne.mpr hy
      by_cases hc : (k == NameKind.free && outer.kind == .function && outer.names.lookup n == some .cell) = true
      · simp only [if_pos hc, List.lookup_cons, hb]; exact ih
      · simp only [if_neg hc, List.lookup_cons, hb]; exact ih

structure ScopeOk (scope outer : Scope) (x : Str) : Prop where
  kind : scope.kind = .function
  loc : scope.names.lookup x = some .local
  okind : outer.kind = .function
  noCell : ∀ y ∈ scope.names, y.2 ≠ .cell
  locs : ∀ y ∈ scope.names, y.2 = .local → scope.names.lookup y.1 = some .local
  free : ∀ y ∈ scope.names, y.2 = .free → outer.names.lookup y.1 = some .cell
  free' : ∀ y, scope.names.lookup y = some .free → outer.names.lookup y = some .cell

theorem scopeOk_of {scope outer : Scope} {x : Str} (h : compScopeOk scope outer x = true) : ScopeOk scope outer x := by
  simp only [compScopeOk, Bool.and_eq_true, beq_iff_eq, List.all_eq_true, bne_iff_ne, Bool.or_eq_true, decide_eq_true_eq] at h
  obtain ⟨⟨⟨h1, h2⟩, h3⟩, h4⟩ := h
  refine ⟨h1, h2, h3, fun y hy => (h4 y hy).1.1, fun y hy e => ?_, fun y hy e => ?_, fun y e => ?_⟩
  · exact ((h4 y hy).1.2).resolve_left (fun q => q e)
  · exact (((h4 y hy).2).resolve_left (fun q => q e)).1
  · exact (((h4 (y, .free) (lookup_mem e)).2).resolve_left (fun q => q rfl)).1

theorem closure_of {env : Env} : ∀ (names : List (Str × NameKind)) (acc : List (Str × Addr)), (∀ y ∈ names, y.2 = .free → ∃ c, env.cells.lookup y.1 = some c) → (∀ p ∈ acc, env.cells.lookup p.1 = some p.2) →
    ∃ cl : List (Str × Addr), (forIn names acc fun (p : Str × NameKind) (cs : List (Str × Addr)) => (if p.2 == NameKind.free then (do let c ← cellOf env p.1; pure (ForInStep.yield ((p.1, c) :: cs))) else pure (ForInStep.yield cs) : Sem (ForInStep (List (Str × Addr))))) = pure cl ∧
      (∀ p ∈ cl, env.cells.lookup p.1 = some p.2) ∧ (∀ y, ((y, NameKind.free) ∈ names ∨ ∃ c, (y, c) ∈ acc) → ∃ c, (y, c) ∈ cl)
  | [], acc, _, ha => ⟨acc, rfl, ha, fun y h => h.elim (fun q => nomatch q) id⟩
  | (nm, k) :: r, acc, h, ha => by
    by_cases hk : k = .free
    · subst hk
      obtain ⟨c, hc⟩ := h (nm, .free) List.mem_cons_self rfl
      obtain ⟨cl, e, h1, h2⟩ := closure_of r ((nm, c) :: acc) (fun y hy => h y (List.mem_cons_of_mem _ hy)) (fun p hp => by
        rcases List.mem_cons.mp hp with rfl | hp
        · exact hc
        · exact ha p hp)
      refine ⟨cl, ?_, h1, fun y hy => h2 y ?_⟩
      · rw [List.forIn_cons, ← e]
        simp only [beq_self_eq_true, if_true, cellOf, hc]
        rfl
      · rcases hy with hy | ⟨d, hd⟩
        · rcases List.mem_cons.mp hy with q | hy
          · cases q; exact .inr ⟨c, List.mem_cons_self⟩
          · exact .inl hy
        · exact .inr ⟨d, List.mem_cons_of_mem _ hd⟩
    · obtain ⟨cl, e, h1, h2⟩ := closure_of r acc (fun y hy => h y (List.mem_cons_of_mem _ hy)) ha
      refine ⟨cl, ?_, h1, fun y hy => h2 y ?_⟩
      · rw [List.forIn_cons, ← e]
        have : (k == NameKind.free) = false := beq_eq_false_iff_ne.mpr hk
        simp only [this, Bool.false_eq_true, if_false]
        rfl
      · rcases hy with hy | hd
        · rcases List.mem_cons.mp hy with q | hy
          · cases q; exact absurd rfl hk
          · exact .inl hy
        · exact .inr hd

theorem lookup_of_mem {α β : Type} [BEq α] [LawfulBEq α] {x : α} {c : β} : ∀ {l : List (α × β)}, (x, c) ∈ l → ∃ d, l.lookup x = some d
  | (y, d) :: l, h => by
    rw [List.lookup_cons]
    cases hb : x == y with
    | true => exact ⟨d, rfl⟩
    | false =>
      rcases List.mem_cons.mp h with q | h
      · cases q; simp at hb
      · exact lookup_of_mem h

theorem closureFor_ok {fm : Fm} (W : fm.OK cx) {scope : Scope} {x : Str} (O : ScopeOk scope fm.env.scope x) :
    ∃ cl, closureFor scope fm.env = pure cl ∧ (∀ y c, cl.lookup y = some c → fm.env.cells.lookup y = some c) ∧ (∀ y, scope.names.lookup y = some .free → ∃ c, cl.lookup y = some c) := by
  obtain ⟨cl, e, h1, h2⟩ := closure_of (env := fm.env) scope.names [] (fun y hy q => W.cellAt y.1 (O.free y hy q)) (fun _ hp => nomatch hp)
  refine ⟨cl, ?_, fun y c q => h1 _ (lookup_mem q), fun y q => ?_⟩
  · unfold closureFor
    have : (fun (x : Str × NameKind) (r : List (Str × Addr)) => (match x with | (name, kind) => if (kind == NameKind.free) = true then do let c ← cellOf fm.env name; pure (ForInStep.yield ((name, c) :: r)) else pure (ForInStep.yield r) : Sem (ForInStep (List (Str × Addr))))) =
      fun p cs => (if p.2 == NameKind.free then (do let c ← cellOf fm.env p.1; pure (ForInStep.yield ((p.1, c) :: cs))) else pure (ForInStep.yield cs)) := by
      funext p cs; rfl
    simp only [this, e]
    rfl
  · obtain ⟨c, hc⟩ := h2 y (.inl (lookup_mem q))
    exact lookup_of_mem hc

theorem getL_append (μ : List V) (v : V) : ∀ i, i < μ.length → getL (μ ++ [v]) i = getL μ i := by
  induction μ with
  | nil => intro i h; cases h
  | cons a l ih =>
    intro i h
    cases i with
    | zero => rfl
    | succ i => exact ih i (Nat.lt_of_succ_lt_succ h)
theorem getL_last (μ : List V) (v : V) : getL (μ ++ [v]) μ.length = v := by
  induction μ with
  | nil => rfl
  | cons a l ih => exact ih

noncomputable abbrev compFm (fm : Fm) (scope : Scope) (cl : List (Str × Addr)) (C : Addr) (x : Str) : Fm := ⟨compEnvC scope cl C fm.env, compNames scope fm.names x⟩

theorem compFm_names {fm : Fm} {scope : Scope} {x y : Str} {i : Nat} (h : (compNames scope fm.names x)[i]? = some (some y)) :
    (fm.names[i]? = some (some y) ∧ scope.names.lookup y = some .free) ∨ (i = fm.names.length ∧ y = x) := by
  unfold compNames at h
  by_cases hi : i < fm.names.length
  · rw [List.getElem?_append_left (by simpa using hi), List.getElem?_map, Option.map_eq_some_iff] at h
    obtain ⟨o, e, q⟩ := h
    obtain ⟨rfl, hf⟩ := Option.filter_eq_some_iff.mp q
    exact .inl ⟨e, by simpa using hf⟩
  · rw [List.getElem?_append_right (by simpa using Nat.le_of_not_lt hi)] at h
    simp only [List.length_map] at h
    have : i - fm.names.length = 0 := by
      obtain ⟨hlt, _⟩ := List.getElem?_eq_some_iff.mp h
      simpa using hlt
    rw [this] at h
    simp at h
    exact .inr ⟨by omega, h.symm⟩

theorem kindOf_comp {fm : Fm} {scope : Scope} {cl : List (Str × Addr)} {C : Addr} {x : Str} (O : ScopeOk scope fm.env.scope x) (y : Str) :
    (scope.names.lookup y = some .free → (compEnvC scope cl C fm.env).kindOf y = some .cell) ∧ (scope.names.lookup y = some .local → (compEnvC scope cl C fm.env).kindOf y = some .local) ∧
    ((compEnvC scope cl C fm.env).kindOf y = some .cell → scope.names.lookup y = some .free) := by
  have e : (compEnvC scope cl C fm.env).kindOf y = (scope.names.lookup y).map fun k => if (k == NameKind.free && fm.env.scope.kind == .function && fm.env.scope.names.lookup y == some .cell) then NameKind.cell else k :=
    lookup_relabelS (outer := fm.env.scope) y scope.names
  rw [e]
  refine ⟨fun h => ?_, fun h => ?_, fun h => ?_⟩
  · rw [h]; simp [O.okind, O.free' y h]
  · rw [h]; rfl
  · obtain ⟨k, h1, h2⟩ := Option.map_eq_some_iff.mp h
    split at h2
    · rename_i hc
      simp only [Bool.and_eq_true, beq_iff_eq] at hc
      rw [h1, hc.1.1]
    · subst h2
      exact absurd rfl (O.noCell (y, .cell) (lookup_mem h1))

theorem compFm_ok {fm : Fm} (W : fm.OK cx) {scope : Scope} {x : Str} (O : ScopeOk scope fm.env.scope x) {cl : List (Str × Addr)} {C : Addr}
    (h1 : ∀ y c, cl.lookup y = some c → fm.env.cells.lookup y = some c) (h2 : ∀ y, scope.names.lookup y = some .free → ∃ c, cl.lookup y = some c)
    (hC : ¬ fm.own C) (hb : cx.base.get? C = none) : (compFm fm scope cl C x).OK cx where
  kind := O.kind
  globals := W.globals
  builtins := W.builtins
  cellsNe := fun y c hm (e : c = C) => hC (.inr ⟨y, e ▸ h1 y c hm⟩)
  cellsInj := fun y z c e1 e2 => W.cellsInj y z c (h1 _ _ e1) (h1 _ _ e2)
  inj := fun i j y e1 e2 => by
    rcases compFm_names e1 with ⟨a1, a2⟩ | ⟨a1, a2⟩ <;> rcases compFm_names e2 with ⟨b1, b2⟩ | ⟨b1, b2⟩
    · exact W.inj i j y a1 b1
    · subst b2; rw [O.loc] at a2; cases a2
    · subst a2; rw [O.loc] at b2; cases b2
    · rw [a1, b1]
  above := fun a q => by
    rcases q with q | ⟨y, q⟩
    · rw [q]; exact hb
    · exact W.above a (.inr ⟨y, h1 y a q⟩)
  cellAt := fun y q => h2 y ((kindOf_comp (cl := cl) (C := C) O y).2.2 q)

theorem comp_frame {fm : Fm} {H : HP} {μ : List V} {s : Shared} (S : SR cx fm H μ s) {scope : Scope} {x : Str} (O : ScopeOk scope fm.env.scope x) {cl : List (Str × Addr)} {C : Addr}
    (h1 : ∀ y c, cl.lookup y = some c → fm.env.cells.lookup y = some c) (h2 : ∀ y, scope.names.lookup y = some .free → ∃ c, cl.lookup y = some c)
    {m : Str → Option Value} (hn : s.heap.Ns C m) {v : Value} (hv : m x = some v) (hH : H C = none) : SR cx (compFm fm scope cl C x) H (μ ++ [abs v]) s := by
  refine ⟨S.toHS, ⟨?_, ?_, ⟨m, hn⟩, ?_⟩, fun a o e q => ?_⟩
  · simp [compNames, S.fr.len]
  · rintro a (q | ⟨y, q⟩)
    · obtain ⟨o, es, ep, e, _⟩ := hn; exact ⟨o, by rw [q]; exact e⟩
    · exact S.fr.live a (.inr ⟨y, h1 y a q⟩)
  · intro i y hy
    rcases compFm_names hy with ⟨a1, a2⟩ | ⟨a1, a2⟩
    · obtain ⟨ov, w, q⟩ := S.fr.var i y a1
      have hil : i < μ.length := by rw [S.fr.len]; exact (List.getElem?_eq_some_iff.mp a1).1
      refine ⟨ov, ?_, by rw [getL_append _ _ _ hil]; exact q⟩
      have hk : fm.env.kindOf y = some .cell := O.free' y a2
      rcases w with ⟨k1, _⟩ | ⟨_, c, hc, hcell⟩
      · rw [hk] at k1; cases k1
      · obtain ⟨d, hd⟩ := h2 y a2
        have := h1 y d hd
        rw [hc] at this; cases this
        exact .inr ⟨(kindOf_comp O y).1 a2, c, hd, hcell⟩
    · subst a2
      refine ⟨some v, .inl ⟨(kindOf_comp O y).2.1 O.loc, m, hn, hv⟩, .inr ⟨v, rfl, ?_⟩⟩
      rw [a1, ← S.fr.len, getL_last]
  · rcases q with q | ⟨y, q⟩
    · have q' : a = C := q
      rw [q', hH] at e; cases e
    · exact S.own a o e (.inr ⟨y, h1 y a q⟩)
end
end Mine
end

section
namespace Mine
open PySem PyProof.Rows PySem.SeqAt

section
variable {cx : Cx} {T : Tbl} {A : Around} {E : Value → Shared → Prop} {n : Nat}

theorem Ns.keep {h h' : Heap} {a : Addr} {m : Str → Option Value} (x : h.Ns a m) (k : ∀ o, h.get? a = some o → h'.get? a = some o) : h'.Ns a m :=
  let ⟨o, es, ep, e, r⟩ := x; ⟨o, es, ep, k o e, r⟩

structure CI (cx : Cx) (fm : Fm) (μ : List V) (s₀ : Shared) (H₀ : HP) (it C D : Addr) (P : Nat → Heap → Prop) (H : HP) (i : Nat) (acc : List V) (s : Shared) : Prop where
  sr : SR cx fm H μ s
  ke : KE s₀ H₀ s H
  pos : P i s.heap
  itH : H it = none
  ns : ∃ m, s.heap.Ns C m
  cH : H C = none
  dl : ∃ ys, s.heap.PlainList D ys ∧ ys.toList.map abs = acc
  dH : H D = none

theorem comp_loop (C : cx.OK) {fm : Fm} {H₀ : HP} {μ : List V} {s₀ : Shared} {Q : V → HP → Prop} (W : fm.OK cx) {elt iter : Expr} {ifs : List Expr} {x : Str} {px pos : Pos} {scope : Scope}
    (O : ScopeOk scope fm.env.scope x) {cl : List (Str × Addr)} {Ca D it : Addr}
    (h1 : ∀ y c, cl.lookup y = some c → fm.env.cells.lookup y = some c) (h2 : ∀ y, scope.names.lookup y = some .free → ∃ c, cl.lookup y = some c)
    {items : List V} {st : HP → Prop} {P : Nat → Heap → Prop} (I : ∀ E, Iter cx A E it items st P)
    (turn : V → HP → (Option V → HP → Prop) → Prop)
    (hcond : ∀ (E : Value → Shared → Prop) (s : Shared) (H : HP) (v : V) (K : Option V → HP → Prop), SR cx (compFm fm scope cl Ca x) H (μ ++ [v]) s → turn v H K →
      wpAny (model cx.prog cx.w) A (forIn ifs true fun c r => if r = true then do let ok ← isTrue c (compEnvC scope cl Ca fm.env) (eval c (compEnvC scope cl Ca fm.env)); pure (ForInStep.yield ok) else pure (ForInStep.yield r))
        (fun ok s' => ∃ H', HS cx H' s' ∧ KE s H s' H' ∧ (ok = true → wpAny (model cx.prog cx.w) A (eval elt (compEnvC scope cl Ca fm.env)) (EP cx s' H' fun v H => K (some v) H) E s') ∧ (ok = false → K none H')) E s)
    (hfresh : s₀.heap.get? it = none ∧ s₀.heap.get? Ca = none ∧ s₀.heap.get? D = none ∧ Ca ≠ it ∧ D ≠ it ∧ D ≠ Ca)
    (hC : ¬ fm.own Ca ∧ cx.base.get? Ca = none) (hD : ¬ fm.own D ∧ cx.base.get? D = none ∧ cx.Z D = none) (hit : ¬ fm.own it ∧ cx.base.get? it = none)
    (hlen : items.length ≤ 16777216) (Inv : List V → List V → HP → Prop) (hst : ∀ done acc H₁, Inv done acc H₁ → st H₁)
    (hturn : ∀ done x rest acc H₁, items = done ++ x :: rest → Inv done acc H₁ → turn x H₁ fun ov H₂ => ∃ H₃, LE H₃ H₂ ∧ Inv (done ++ [x]) (acc ++ ov.toList) H₃)
    (hend : ∀ acc H₁, Inv items acc H₁ → new cx H₁ (.list acc) Q)
    {s : Shared} {H₁ : HP} (hI : Inv [] [] H₁) (hs : CI cx fm μ s₀ H₀ it Ca D P H₁ 0 [] s) {R : Result → Shared → Prop}
    (hR : ∀ s' H', HS cx H' s' → KE s₀ H₀ s' H' → Q (.ref D) H' → H' Ca = none → (∃ m, s'.heap.Ns Ca m) → R (.ok .next) s') :
    codeAny (model cx.prog cx.w) A (.compLoop (.ListComp elt [⟨.Name x px, iter, ifs, 0⟩] scope pos) 0 (.ref it) (.ref D) (compEnvC scope cl Ca fm.env)) R s := by
  refine codeAny_compLoop_tests (fun k s => ∃ done rest acc H, items = done ++ rest ∧ k = rest.length ∧ acc.length ≤ done.length ∧ Inv done acc H ∧ CI cx fm μ s₀ H₀ it Ca D P H done.length acc s) ?_ items.length
    ⟨[], items, [], H₁, rfl, rfl, Nat.le_refl _, hI, hs⟩
  rintro k s ⟨done, rest, acc, H, hitems, rfl, hacc, hInv, B⟩
  have hdl : done.length ≤ items.length := by rw [hitems, List.length_append]; first | lia | omega
  cases rest with
  | nil =>
    rw [List.append_nil] at hitems
    subst hitems
    refine (I _).stop s H _ B.sr.toHS (hst _ _ _ hInv) B.pos fun h' eb => ?_
    have S' := B.sr.aside B.itH hit.1 hit.2 eb s.toks
    obtain ⟨m, hm⟩ := B.ns
    obtain ⟨ys, hys, hya⟩ := B.dl
    obtain ⟨kk, hkk⟩ := hys
    have hD' : h'.get? D = some { cls := .type "list", data := .seq ys kk } := eb D _ hfresh.2.2.2.2.1 hkk
    refine hR _ (upd H D (.list acc)) ⟨fun a o e => ?_, S'.ext, fun a o e => ?_⟩ ⟨fun b o e hb _ => ?_, fun a o e ha _ => ?_, B.ke.os, B.ke.gens⟩ (hend acc H hInv D ⟨B.dH, hD.2.1, hD.2.2⟩) (by rw [upd_ne _ (Ne.symm hfresh.2.2.2.2.2)]; exact B.cH) ⟨m, Ns.keep hm fun o e => eb Ca o hfresh.2.2.2.1 e⟩
    · by_cases h : a = D
      · subst h; rw [upd_same] at e; cases e; exact rep_list hD' hya
      · rw [upd_ne _ h] at e; exact S'.hr a o e
    · by_cases h : a = D
      · subst h; exact hD.2.1
      · rw [upd_ne _ h] at e; exact S'.low a o e
    · exact eb b o (fun q => by subst q; rw [hfresh.1] at e; cases e) (B.ke.keep b o e hb id)
    · rw [upd_ne _ (fun q => by subst q; rw [hfresh.2.2.1] at e; cases e)]
      exact B.ke.dom a o e ha id
  | cons v rest =>
    have hv : items[done.length]? = some v := by rw [hitems]; simp
    refine (I _).next s H done.length v _ B.sr.toHS (hst _ _ _ hInv) B.pos hv fun h₁ tk xv hxa hp₁ sb₁ => ?_
    -- the iterator has gone on
    have S₁ := B.sr.aside B.itH hit.1 hit.2 sb₁.extBut tk
    obtain ⟨m, hm⟩ := B.ns
    have hm₁ : h₁.Ns Ca m := Ns.keep hm fun o e => sb₁.extBut Ca o hfresh.2.2.2.1 e
    refine wpAny_assign_Name (wpAny_storeName_local (m := m) ((kindOf_comp O x).2.1 O.loc) hm₁ (fun h₂ hm₂ sb₂ => ?_) (by show (scope.kind == .class || (scope.kind == .module && _)) = false; rw [O.kind]; rfl))
    have S₂ := S₁.aside B.cH hC.1 hC.2 sb₂.extBut (tk + 1)
    have F₂ := comp_frame S₂ O h1 h2 hm₂ (v := xv) (by simp) B.cH
    rw [hxa] at F₂
    -- all that stood before the turn, but the iterator and the block's names
    have keep₂ : ∀ b o, b ≠ it → b ≠ Ca → s.heap.get? b = some o → h₂.get? b = some o := fun b o n1 n2 e => sb₂.extBut b o n2 (sb₁.extBut b o n1 e)
    have ke₂ : KE s₀ H₀ { s with heap := h₂, toks := tk + 1 } H := ⟨fun b o e hb _ => keep₂ b o (fun q => by subst q; rw [hfresh.1] at e; cases e) (fun q => by subst q; rw [hfresh.2.1] at e; cases e) (B.ke.keep b o e hb id), fun a o e ha _ => B.ke.dom a o e ha id, B.ke.os, B.ke.gens⟩
    have pos₂ : P (done.length + 1) h₂ := (I fun _ _ => False).frame _ _ _ hp₁ fun o e => sb₂.extBut it o (Ne.symm hfresh.2.2.2.1) e
    obtain ⟨oit, hoit⟩ := (I fun _ _ => False).live _ _ pos₂
    obtain ⟨ys, hys, hya⟩ := B.dl
    have hys₂ : h₂.PlainList D ys := by obtain ⟨kk, e⟩ := hys; exact ⟨kk, keep₂ D _ hfresh.2.2.2.2.1 hfresh.2.2.2.2.2 e⟩
    refine wpAny_mono (hcond _ _ _ _ _ F₂ (hturn done v rest acc H hitems hInv)) (fun ok s₃ x₃ => ?_) fun _ _ e => e
    obtain ⟨H₃, S₃, k₃, ht, hf⟩ := x₃
    -- an end of a turn, at any later heap
    have fin : ∀ (s₄ : Shared) (H₄ : HP) (acc' : List V) (ys' : Array Value), HS cx H₄ s₄ → KE { s with heap := h₂, toks := tk + 1 } H s₄ H₄ → (∃ H₅, LE H₅ H₄ ∧ Inv (done ++ [v]) acc' H₅) → acc'.length ≤ done.length + 1 →
        ys'.toList.map abs = acc' → ∀ s₅ : Shared, s₅.heap.PlainList D ys' → (∀ b o, b ≠ D → s₄.heap.get? b = some o → s₅.heap.get? b = some o) → s₅.os = s₄.os → s₅.gens = s₄.gens →
        ∃ m, m < (v :: rest).length ∧ ∃ done rest acc H, items = done ++ rest ∧ m = rest.length ∧ acc.length ≤ done.length ∧ Inv done acc H ∧ CI cx fm μ s₀ H₀ it Ca D P H done.length acc s₅ := by
      intro s₄ H₄ acc' ys' S₄ k₄ ⟨H₅, le, hI5⟩ hl hy s₅ hp5 hk5 ho5 hg5
      have S₅ := (S₂.step S₄ k₄).le le
      have dH : H₅ D = none := by
        cases e : H₅ D with
        | none => rfl
        | some o =>
          obtain ⟨kk, e2⟩ := hys₂
          have := k₄.dom D _ e2 B.dH id
          rw [le D o e] at this; cases this
      have itH : H₅ it = none := by
        cases e : H₅ it with
        | none => rfl
        | some o =>
          have := k₄.dom it _ hoit B.itH id
          rw [le it o e] at this; cases this
      have cH : H₅ Ca = none := by
        cases e : H₅ Ca with
        | none => rfl
        | some o =>
          obtain ⟨oc, _, _, e2, _⟩ := hm₂
          have := k₄.dom Ca _ e2 B.cH id
          rw [le Ca o e] at this; cases this
      have S₆ : SR cx fm H₅ μ { s₄ with heap := s₅.heap } := S₅.aside dH hD.1 hD.2.1 hk5 s₄.toks
      refine ⟨rest.length, Nat.lt_succ_self _, done ++ [v], rest, acc', H₅, by rw [hitems]; simp, rfl, by simpa using hl, hI5, ?_⟩
      have S₇ : SR cx fm H₅ μ s₅ := ⟨⟨S₆.hr, S₆.ext, S₆.low⟩, S₆.fr, S₆.own⟩
      have k5 := (ke₂.trans k₄).le le
      refine ⟨S₇, ⟨fun b o e hb q => hk5 b o (fun q => by subst q; rw [hfresh.2.2.1] at e; cases e) (k5.keep b o e hb q), k5.dom, ho5.trans k5.os, hg5.trans k5.gens⟩, ?_, itH, ?_, cH, ⟨ys', hp5, hy⟩, dH⟩
      · rw [List.length_append]
        exact (I fun _ _ => False).frame _ _ _ pos₂ fun o e => hk5 it o (Ne.symm hfresh.2.2.2.2.1) (k₄.keep it o e B.itH id)
      · obtain ⟨oc, es, ep, e, r⟩ := hm₂
        exact ⟨_, oc, es, ep, hk5 Ca oc (Ne.symm hfresh.2.2.2.2.2) (k₄.keep Ca oc e B.cH id), r⟩
    cases ok with
    | true =>
      simp only [if_true]
      refine wpAny_mono (ht rfl) (fun y s₄ x₄ => ?_) fun _ _ e => e
      obtain ⟨H₄, S₄, k₄, h₄⟩ := x₄
      have hysn : s₄.heap.PlainList D ys := by
        obtain ⟨kk, e⟩ := hys₂
        have dn := k₃.dom D _ e B.dH id
        exact ⟨kk, k₄.keep D _ (k₃.keep D _ e B.dH id) dn id⟩
      have hsz : ys.size ≤ sizeLine := by rw [size_of hya, sizeLine_eq]; first | lia | omega
      refine wpAny_list_append_plain hysn (fun h' hp sb => ?_) hsz
      exact fin s₄ H₄ _ (ys.push y) S₄ (k₃.trans k₄) h₄ (by simp; omega) (by rw [Array.toList_push, List.map_append, hya]; rfl) _ hp (fun b o hb e => sb.extBut b o hb e) rfl rfl
    | false =>
      simp only [Bool.false_eq_true, if_false]
      have hysn : s₃.heap.PlainList D ys := by
        obtain ⟨kk, e⟩ := hys₂
        exact ⟨kk, k₃.keep D _ e B.dH id⟩
      have := hf rfl
      simp only [Option.toList_none, List.append_nil] at this
      exact fin s₃ H₃ acc ys S₃ k₃ this (by first | lia | omega) hya s₃ hysn (fun _ _ _ e => e) rfl rfl
end
end Mine
end

section
namespace Mine
open PySem PyProof.Rows PySem.SeqAt

section
variable {cx : Cx} {T : Tbl} {A : Around} {E : Value → Shared → Prop} {n : Nat}

theorem comp_block (C : cx.OK) {fm : Fm} {H : HP} {μ : List V} {s : Shared} {Q : V → HP → Prop} (W : fm.OK cx) (S : SR cx fm H μ s) {elt iter : Expr} {ifs : List Expr} {x : Str} {px pos : Pos} {scope : Scope}
    (O : ScopeOk scope fm.env.scope x) {cl : List (Str × Addr)}
    (h1 : ∀ y c, cl.lookup y = some c → fm.env.cells.lookup y = some c) (h2 : ∀ y, scope.names.lookup y = some .free → ∃ c, cl.lookup y = some c)
    {items : List V} {st : HP → Prop} {P : Nat → Heap → Prop} {it : Addr} {ob : Obj} (I : ∀ E, Iter cx A E it items st P) (hit : s.heap.get? it = none) (hP : P 0 (s.heap.push ob)) 
    (turn : V → HP → (Option V → HP → Prop) → Prop)
    (hcond : ∀ (Ca : Addr) (E : Value → Shared → Prop) (s : Shared) (H : HP) (v : V) (K : Option V → HP → Prop), (compFm fm scope cl Ca x).OK cx → SR cx (compFm fm scope cl Ca x) H (μ ++ [v]) s → turn v H K →
      wpAny (model cx.prog cx.w) A (forIn ifs true fun c r => if r = true then do let ok ← isTrue c (compEnvC scope cl Ca fm.env) (eval c (compEnvC scope cl Ca fm.env)); pure (ForInStep.yield ok) else pure (ForInStep.yield r))
        (fun ok s' => ∃ H', HS cx H' s' ∧ KE s H s' H' ∧ (ok = true → wpAny (model cx.prog cx.w) A (eval elt (compEnvC scope cl Ca fm.env)) (EP cx s' H' fun v H => K (some v) H) E s') ∧ (ok = false → K none H')) E s)
    (hC : CompP cx items st H turn Q) {RR : Value → Addr → Result → Shared → Prop}
    (hRR : ∀ D Ca s' H', HS cx H' s' → KE s H s' H' → Q (.ref D) H' → H' Ca = none → s.heap.get? Ca = none → (∃ m, s'.heap.Ns Ca m) → RR (.ref D) Ca (.ok .next) s') :
    wpAny (model cx.prog cx.w) A (newList []) (fun acc s₃ => wpAny (model cx.prog cx.w) A (newFunctionEnv scope fm.env.globals cl [] fm.env.qual none .none (some fm.env)) (fun cenv s₄ =>
      codeAny (model cx.prog cx.w) A (.compStart (.ListComp elt [⟨.Name x px, iter, ifs, 0⟩] scope pos) 0 (.ref it) acc { cenv with scope := relabel scope fm.env }) (RR acc cenv.locals) s₄) E s₃) E
      { s with heap := s.heap.push ob } := by
  obtain ⟨hlen, Inv, hI0, hst, hturn, hend⟩ := hC
  refine wpAny_newList ?_ (by simp)
  refine wpAny_newFunctionEnv O.noCell (by intro y hy; cases hy) (fun h₁ hns₁ hsb₁ => ?_) O.kind
  dsimp only at hns₁ hsb₁ ⊢
  obtain ⟨oit, hoit⟩ := (I fun _ _ => False).live _ _ hP
  have hitlt : @LT.lt Nat _ it (s.heap.objs.size + 1) := by have := Heap.lt_size hoit; rwa [Heap.size_push] at this
  -- names for the two new places
  have hD1 : (s.heap.push ob).objs.size = s.heap.objs.size + 1 := Heap.size_push ..
  generalize hDe : (s.heap.push ob).objs.size = D at hns₁ hsb₁ ⊢
  generalize hH2 : (s.heap.push ob).push { cls := .type "list", data := .seq ([] : List Value).toArray } = h2' at hns₁ hsb₁ ⊢
  generalize hCe : h2'.objs.size = Ca at hns₁ hsb₁ ⊢
  have hCa : Ca = D + 1 := by rw [← hCe, ← hH2, Heap.size_push, hDe]
  have hDv : D = s.heap.objs.size + 1 := by rw [← hDe, hD1]
  have hns0 : ∀ b, s.heap.objs.size ≤ b → s.heap.get? b = none := fun b hb => by
    cases e : s.heap.get? b with
    | none => rfl
    | some o => exact absurd (Heap.lt_size e) (Nat.not_lt.mpr hb)
  have hsD : s.heap.get? D = none := hns0 D (by first | lia | omega)
  have hsC : s.heap.get? Ca = none := hns0 Ca (by first | lia | omega)
  have hown : ∀ b, s.heap.get? b = none → ¬ fm.own b := fun b hb q => by
    obtain ⟨o, e⟩ := S.fr.live b q
    rw [hb] at e; cases e
  have nCit : Ca ≠ it := Nat.ne_of_gt (by first | lia | omega)
  have nDit : D ≠ it := Nat.ne_of_gt (by first | lia | omega)
  have nDC : D ≠ Ca := by first | lia | omega
  -- what stood stands
  have k₁ : ∀ b o, s.heap.get? b = some o → h₁.get? b = some o := fun b o e => by
    have hb : @LT.lt Nat _ b _ := Heap.lt_size e
    refine hsb₁.extBut b o (Nat.ne_of_lt (by first | lia | omega)) (Heap.get?_push_of_some _ ?_)
    rw [← hH2]
    exact Heap.get?_push_of_some _ (Heap.get?_push_of_some _ e)
  have kit : ∀ o, (s.heap.push ob).get? it = some o → h₁.get? it = some o := fun o e => by
    refine hsb₁.extBut it o (Ne.symm nCit) (Heap.get?_push_of_some _ ?_)
    rw [← hH2]
    exact Heap.get?_push_of_some _ e
  have hDl : h₁.PlainList D #[] := ⟨0, hsb₁.extBut D _ nDC (Heap.get?_push_of_some _ (by
    rw [← hH2, ← hDe]; exact Heap.get?_push_size _ rfl))⟩
  have S' := S.toHS.grow k₁ (s.toks + ([] : List (Str × Value)).length)
  have K' : KE s H { s with heap := h₁, toks := s.toks + ([] : List (Str × Value)).length } H := KE.grow k₁ _
  have hfr := S.toHS.fresh C hsD
  have loop : codeAny (model cx.prog cx.w) A (.compLoop (.ListComp elt [⟨.Name x px, iter, ifs, 0⟩] scope pos) 0 (.ref it) (.ref D) (compEnvC scope cl Ca fm.env)) (RR (.ref D) Ca)
      { s with heap := h₁, toks := s.toks + ([] : List (Str × Value)).length } := by
    have cok : (compFm fm scope cl Ca x).OK cx := compFm_ok W O h1 h2 (hown _ hsC) (S.toHS.base_none hsC)
    refine comp_loop (s₀ := s) (H₀ := H) C W O h1 h2 I turn (fun E s H v K F ht => hcond Ca E s H v K cok F ht) ⟨hit, hsC, hsD, nCit, nDit, nDC⟩ ⟨hown _ hsC, S.toHS.base_none hsC⟩ ⟨hown _ hsD, hfr.2.1, hfr.2.2⟩ ⟨hown _ hit, S.toHS.base_none hit⟩ hlen
      Inv hst hturn hend hI0 ⟨S.step S' K', K', (I fun _ _ => False).frame _ _ _ hP kit, S.toHS.none_of hit, ⟨_, hns₁⟩, S.toHS.none_of hsC, ⟨#[], hDl, rfl⟩, S.toHS.none_of hsD⟩ ?_
    intro s' H' S₂ k₂ hQ hCn hns
    exact hRR D Ca s' H' S₂ k₂ hQ hCn hsC hns
  exact codeAny_compStart_list loop ((I _).self _ _ ((I fun _ _ => False).frame _ _ _ hP kit) loop)
end
end Mine
end

section
namespace Mine
open PySem PyProof.Rows PySem.SeqAt

section
variable {cx : Cx} {T : Tbl} {A : Around} {E : Value → Shared → Prop} {n : Nat}

noncomputable def ItPost (cx : Cx) (A : Around) (s : Shared) (H : HP) (K : List V → (HP → Prop) → HP → Prop) : Value → Shared → Prop := fun v s₂ =>
  ∃ it P ob s₁ H₁ items st, v = .ref it ∧ HS cx H₁ s₁ ∧ KE s H s₁ H₁ ∧ s₂ = { s₁ with heap := s₁.heap.push ob } ∧ s₁.heap.get? it = none ∧ (∀ E, Iter cx A E it items st P) ∧ P 0 (s₁.heap.push ob) ∧ K items st H₁

theorem iterP_ok (C : cx.OK) (hh : A.handled = none) {H : HP} {s : Shared} (S : HS cx H s) {v : Value} {K : List V → (HP → Prop) → HP → Prop} (h : IterP cx (abs v) H K) :
    wpAny (model cx.prog cx.w) A (pyIter v) (ItPost cx A s H K) E s := by
  obtain ⟨a, ha, h⟩ := onR_inv h
  have := abs_ref ha; subst this
  obtain ⟨vs, hl, h⟩ := onHL_inv h
  exact iter_list C hh S hl fun it P ob h1 h2 h3 => ⟨it, P, ob, s, H, vs, _, rfl, S, Kept.refl _ s H, rfl, h1, h2, h3, h.2⟩

theorem rng_end (hA : AOK A n) {H : HP} {s : Shared} {K : List V → (HP → Prop) → HP → Prop} {s₁ : Shared} {H₁ : HP} {x y : Int} {t u v : Tok} {tk : Nat} (S₁ : HS cx H₁ s₁) (k₁ : KE s H s₁ H₁) (hr : RngP (.int x) (.int y) fun items => K items (fun _ => True) H₁) :
    wpAny (model cx.prog cx.w) A (pyIter (.ref s₁.heap.objs.size)) (ItPost cx A s H K) E { s₁ with heap := s₁.heap.push { cls := .type "range", data := .fields #[.int x t, .int y u, .int 1 v] }, toks := tk } := by
  have kg : ∀ b o, s₁.heap.get? b = some o → (s₁.heap.push { cls := .type "range", data := .fields #[.int x t, .int y u, .int 1 v] }).get? b = some o := fun b o e => Heap.get?_push_of_some _ e
  refine iter_range (s := { s₁ with heap := s₁.heap.push { cls := .type "range", data := .fields #[.int x t, .int y u, .int 1 v] }, toks := tk }) hA.handled (IsRange.new _ _ _ _ _ _ _) hr.1 hr.2.1 fun it P ob h1 h2 h3 => ?_
  exact ⟨it, P, ob, _, H₁, _, _, rfl, S₁.grow kg tk, k₁.trans (KE.grow kg tk), rfl, h1, h2, h3, hr.2.2⟩
theorem rng_inv {v w : Value} {P : List V → Prop} (h : RngP (abs v) (abs w) P) : ∃ x y t u, v = .int x t ∧ w = .int y u ∧ RngP (.int x) (.int y) P := by
  obtain ⟨x, e1, h⟩ := onI_inv h
  obtain ⟨y, e2, h⟩ := onI_inv h
  obtain ⟨t, e1⟩ := abs_int e1
  obtain ⟨u, e2⟩ := abs_int e2
  exact ⟨x, y, t, u, e1, e2, h⟩
noncomputable def RngArgs (cx : Cx) (A : Around) (n : Nat) (fm : Fm) (a b : ME) (as : List Expr) : Prop :=
  (∃ e, as = [e] ∧ a = .cint 0 ∧ kindOK e = true ∧ JE cx A n b fm e) ∨ ∃ e e', as = [e, e'] ∧ kindOK e = true ∧ kindOK e' = true ∧ JE cx A n a fm e ∧ JE cx A n b fm e'
theorem it_rng (C : cx.OK) (TO : T.OK cx) (hA : AOK A n) {fm : Fm} {H : HP} {μ : List V} {s : Shared} (W : fm.OK cx) (S : SR cx fm H μ s) {np p : Pos} {as : List Expr} {a b : ME}
    (hx : isGlob fm.env.scope "range" = true) (ha : RngArgs cx A n fm a b as)
    {K : List V → (HP → Prop) → HP → Prop} (h : mwpE cx n a μ H fun x H => mwpE cx n b μ H fun y H => RngP x y fun items => K items (fun _ => True) H) :
    wpAny (model cx.prog cx.w) A (eval (.Call (.Name "range" np) as [] p) fm.env) (fun xv s₁ => wpAny (model cx.prog cx.w) A (pyIter xv) (ItPost cx A s H K) E s₁) E s := by
  refine wpAny_Call_ofName (glob_name C W S.toHS hx TO.rng ?_)
  rcases ha with ⟨e, rfl, rfl, ke, i⟩ | ⟨e, e', rfl, ke, ke', i, i'⟩
  · rw [starEach_of ke]
    refine PySem.callWith_type rfl (Calls.evalArgs_plain (Calls.spliced_cons (ep_then (i E H μ s _ S h) fun v s₁ H₁ S₁ k₁ h₁ => Calls.spliced_nil ?_)))
    obtain ⟨y, e2, h2⟩ := onI_inv (v := abs v) h₁
    obtain ⟨t, rfl⟩ := abs_int e2
    exact call_range_1 (rng_end hA S₁ k₁ h2)
  · rw [starEach_of ke, starEach_of ke']
    refine PySem.callWith_type rfl (Calls.evalArgs_plain (Calls.spliced_cons (ep_then (i E H μ s _ S h) fun v s₁ H₁ S₁ k₁ h₁ => ?_)))
    refine Calls.spliced_cons (ep_then (i' E H₁ μ s₁ _ (S.step S₁ k₁) h₁) fun w s₂ H₂ S₂ k₂ h₂ => Calls.spliced_nil ?_)
    obtain ⟨x, y, t, u, rfl, rfl, h₂⟩ := rng_inv h₂
    exact call_range_2 (rng_end hA S₂ (k₁.trans k₂) h₂)

theorem it_val (C : cx.OK) (hA : AOK A n) {fm : Fm} {H : HP} {μ : List V} {s : Shared} (S : SR cx fm H μ s) {e : Expr} {m : ME} (i : JE cx A n m fm e)
    {K : List V → (HP → Prop) → HP → Prop} (h : mwpE cx n m μ H fun v H => IterP cx v H K) :
    wpAny (model cx.prog cx.w) A (eval e fm.env) (fun xv s₁ => wpAny (model cx.prog cx.w) A (pyIter xv) (ItPost cx A s H K) E s₁) E s := by
  refine ep_then (i E H μ s _ S h) fun v s₁ H₁ S₁ k₁ h₁ => wpAny_mono (iterP_ok C hA.handled S₁ h₁) (fun v s₂ x => ?_) fun _ _ e => e
  obtain ⟨it, P, ob, s₃, H₃, items, st, a1, a2, a3, a4⟩ := x
  exact ⟨it, P, ob, s₃, H₃, items, st, a1, a2, k₁.trans a3, a4⟩
end
end Mine
end

section
namespace Mine
open PySem PyProof.Rows PySem.SeqAt

section
variable {cx : Cx} {T : Tbl} {A : Around} {E : Value → Shared → Prop} {n : Nat}

noncomputable def CTests (cx : Cx) (A : Around) (n : Nat) (c : ME) (fm : Fm) (ifs : List Expr) : Prop := (ifs = [] ∧ isTrueM c = true) ∨ ∃ e, ifs = [e] ∧ JT cx A n c fm e
theorem comp_turn {fm : Fm} {μ : List V} {scope : Scope} {x : Str} {cl : List (Str × Addr)} {Ca : Addr} {elt : Expr} {ifs : List Expr} {el cond : ME}
    (ie : JE cx A n el (compFm fm scope cl Ca x) elt) (ic : CTests cx A n cond (compFm fm scope cl Ca x) ifs) (E : Value → Shared → Prop) (s : Shared) (H : HP) (v : V) (K : Option V → HP → Prop) (S : SR cx (compFm fm scope cl Ca x) H (μ ++ [v]) s)
    (h : mwpE cx n cond (μ ++ [v]) H fun c H₂ => TruthP c fun b => (b = true → mwpE cx n el (μ ++ [v]) H₂ fun v H₃ => K (some v) H₃) ∧ (b = false → K none H₂)) :
    wpAny (model cx.prog cx.w) A (forIn ifs true fun c r => if r = true then do let ok ← isTrue c (compEnvC scope cl Ca fm.env) (eval c (compEnvC scope cl Ca fm.env)); pure (ForInStep.yield ok) else pure (ForInStep.yield r))
      (fun ok s' => ∃ H', HS cx H' s' ∧ KE s H s' H' ∧ (ok = true → wpAny (model cx.prog cx.w) A (eval elt (compEnvC scope cl Ca fm.env)) (EP cx s' H' fun v H => K (some v) H) E s') ∧ (ok = false → K none H')) E s := by
  rcases ic with ⟨rfl, hc⟩ | ⟨c, rfl, ic⟩
  · refine wpAny_tests_nil ⟨H, S.toHS, Kept.refl _ s H, fun _ => ?_, fun e => by cases e⟩
    cases cond <;> first | (have := hc; subst this; exact ie E H (μ ++ [v]) s _ S (h.1 rfl)) | exact (Bool.false_ne_true hc).elim
  · refine wpAny_tests_one (wpAny_mono (ic E H (μ ++ [v]) s (fun b H₂ => (b = true → mwpE cx n el (μ ++ [v]) H₂ fun v H₃ => K (some v) H₃) ∧ (b = false → K none H₂)) S h) (fun b s₁ x => ?_) fun _ _ e => e)
    obtain ⟨H₁, S₁, k₁, h₁⟩ := x
    exact ⟨H₁, S₁, k₁, fun hb => ie E H₁ (μ ++ [v]) s₁ _ (S.step S₁ k₁) (h₁.1 hb), h₁.2⟩

noncomputable def CUse (cx : Cx) (A : Around) (E : Value → Shared → Prop) (s : Shared) (H : HP) (Q : V → HP → Prop) (use : Option (Value → Sem Unit)) (Q' : Value → Shared → Prop) : Prop :=
  ∀ (D Ca : Addr) (s' : Shared) (H' : HP), HS cx H' s' → KE s H s' H' → Q (.ref D) H' → H' Ca = none → cx.base.get? Ca = none → (∀ o, s.heap.get? Ca = some o → H Ca = none → False) → (∃ m, s'.heap.Ns Ca m) → compPost (model cx.prog cx.w) A E use Q' (.ref D) Ca (.ok .next) s'
theorem comp_any (C : cx.OK) {fm : Fm} {H : HP} {μ : List V} {s : Shared} {Q : V → HP → Prop} (W : fm.OK cx) (S : SR cx fm H μ s) {elt iter : Expr} {ifs : List Expr} {x : Str} {px pos p0 : Pos} {scope : Scope} {el cond : ME}
    (O : ScopeOk scope fm.env.scope x) (ki : kindOK iter = true) (ie : ∀ fm' : Fm, fm'.OK cx → fm'.env.scope = relabelS scope fm.env.scope → fm'.names = compNames scope fm.names x → JE cx A n el fm' elt ∧ CTests cx A n cond fm' ifs)
    {K : List V → (HP → Prop) → HP → Prop} (hK : ∀ items st H₁, K items st H₁ → CompP cx items st H₁ (fun x H₁ K => mwpE cx n cond (μ ++ [x]) H₁ fun c H₂ => TruthP c fun b => (b = true → mwpE cx n el (μ ++ [x]) H₂ fun v H₃ => K (some v) H₃) ∧ (b = false → K none H₂)) Q)
    (hw : wpAny (model cx.prog cx.w) A (eval iter fm.env) (fun xv s₁ => wpAny (model cx.prog cx.w) A (pyIter xv) (ItPost cx A s H K) E s₁) E s)
    {use : Option (Value → Sem Unit)} {Q' : Value → Shared → Prop} (huse : CUse cx A E s H Q use Q') :
    wpAny (model cx.prog cx.w) A (comprehension (.ListComp elt [⟨.Name x px, iter, ifs, 0⟩] scope pos) scope fm.env p0 (newList []) false (eval iter fm.env) use) Q' E s := by
  obtain ⟨cl, hcl, h1, h2⟩ := closureFor_ok W O
  refine wpAny_comprehension_free rfl (folded_of ki fm.env) hcl O.kind O.locs (wpAny_mono hw (fun xv s₁ hx => wpAny_mono hx (fun itv s₂ hy => ?_) fun _ _ e => e) fun _ _ e => e)
  obtain ⟨ita, P, ob, s₃, H₁, items, st, rfl, S₁, k₁, rfl, hf, I, hP, hk⟩ := hy
  refine comp_block (RR := compPost (model cx.prog cx.w) A E use Q') C W (S.step S₁ k₁) O h1 h2 I hf hP _ (fun Ca E s H v K cok F ht => comp_turn (ie _ cok rfl rfl).1 (ie _ cok rfl rfl).2 E s H v K F ht) (hK _ _ _ hk) ?_
  intro D Ca s' H' S' k' hQ hCa hCf hns
  exact huse D Ca s' H' S' (k₁.trans k') hQ hCa (S₁.base_none hCf) (fun o e e2 => by rw [k₁.keep Ca o e e2 id] at hCf; cases hCf) hns

theorem post_same {H H' : HP} {s s' : Shared} {Ca : Addr} {h' : Heap} (S' : HS cx H' s') (k : KE s H s' H') (hCa : H' Ca = none) (hb : cx.base.get? Ca = none) (hf : ∀ o, s.heap.get? Ca = some o → H Ca = none → False)
    (sb : Heap.SameBut Ca s'.heap h') : HS cx H' { s' with heap := h' } ∧ KE s H { s' with heap := h' } H' :=
  ⟨⟨fun a o e => (S'.hr a o e).of_eq (sb.2 a (fun q => by subst q; rw [hCa] at e; cases e)), fun b o e => (sb.2 b (fun q => by subst q; rw [hb] at e; cases e)).trans (S'.ext b o e), S'.low⟩,
    ⟨fun b o e hn q => (sb.2 b (fun q => by subst q; exact hf o e hn)).trans (k.keep b o e hn q), k.dom, k.os, k.gens⟩⟩

noncomputable def JC (cx : Cx) (A : Around) (n : Nat) (m : ME) (fm : Fm) (e : Expr) : Prop := ∀ (E : Value → Shared → Prop) (H : HP) (μ : List V) (s : Shared) (Q : V → HP → Prop) (p0 : Pos) (use : Option (Value → Sem Unit)) (Q' : Value → Shared → Prop) (elt : Expr) (gens : List Comprehension) (scope : Scope) (pos : Pos),
  e = .ListComp elt gens scope pos → SR cx fm H μ s → mwpE cx n m μ H Q → CUse cx A E s H Q use Q' → wpAny (model cx.prog cx.w) A (comprehension (.ListComp elt gens scope pos) scope fm.env p0 (newList []) (firstAsync gens) (firstIter gens fm.env) use) Q' E s
theorem jc_value {m : ME} {fm : Fm} {elt : Expr} {gens : List Comprehension} {scope : Scope} {pos : Pos} (i : JC cx A n m fm (.ListComp elt gens scope pos)) : JE cx A n m fm (.ListComp elt gens scope pos) := by
  intro E H μ s Q S h
  rw [eval_ListComp]
  refine i E H μ s Q _ _ _ elt gens scope pos rfl S h ?_
  intro D Ca s' H' S' k hQ hCa hb hf hns
  obtain ⟨m, hm⟩ := hns
  exact ⟨m, hm, fun h' sb => (let ⟨a, b⟩ := post_same S' k hCa hb hf sb; ⟨H', a, b, hQ⟩)⟩
theorem jc_comp (C : cx.OK) (hA : AOK A n) {fm : Fm} (W : fm.OK cx) {elt iter : Expr} {ifs : List Expr} {x : Str} {px pos : Pos} {scope : Scope} {el it cond : ME}
    (O : ScopeOk scope fm.env.scope x) (ki : kindOK iter = true) (ie : ∀ fm' : Fm, fm'.OK cx → fm'.env.scope = relabelS scope fm.env.scope → fm'.names = compNames scope fm.names x → JE cx A n el fm' elt ∧ CTests cx A n cond fm' ifs)
    (ii : JE cx A n it fm iter) : JC cx A n (.comp el it cond) fm (.ListComp elt [⟨.Name x px, iter, ifs, 0⟩] scope pos) := by
  intro E H μ s Q p0 use Q' _ _ _ _ e S h hu
  cases e
  exact comp_any C W S O ki ie (fun _ _ _ h => h) (it_val C hA S ii h) hu
theorem jc_compR (C : cx.OK) (TO : T.OK cx) (hA : AOK A n) {fm : Fm} (W : fm.OK cx) {elt : Expr} {as ifs : List Expr} {x : Str} {px np ip pos : Pos} {scope : Scope} {el a b cond : ME}
    (O : ScopeOk scope fm.env.scope x) (hx : isGlob fm.env.scope "range" = true) (ie : ∀ fm' : Fm, fm'.OK cx → fm'.env.scope = relabelS scope fm.env.scope → fm'.names = compNames scope fm.names x → JE cx A n el fm' elt ∧ CTests cx A n cond fm' ifs)
    (ha : RngArgs cx A n fm a b as) : JC cx A n (.compR el a b cond) fm (.ListComp elt [⟨.Name x px, .Call (.Name "range" np) as [] ip, ifs, 0⟩] scope pos) := by
  intro E H μ s Q p0 use Q' _ _ _ _ e S h hu
  cases e
  exact comp_any C W S O rfl ie (fun _ _ _ h => h) (it_rng C TO hA W S hx ha h) hu

noncomputable def isComp : Expr → Bool
  | .ListComp .. => true
  | _ => false
structure JJ (cx : Cx) (A : Around) (n : Nat) (m : ME) (fm : Fm) (e : Expr) : Prop where
  v : JE cx A n m fm e
  t : JT cx A n m fm e
  c : isComp e = true → JC cx A n m fm e
  k : kindOK e = true
theorem jj {m : ME} {fm : Fm} {e : Expr} (v : JE cx A n m fm e) (t : JT cx A n m fm e) (hc : isComp e = false) (hk : kindOK e = true) : JJ cx A n m fm e := ⟨v, t, fun q => (Bool.false_ne_true (hc.symm.trans q)).elim, hk⟩
theorem jj1 {m : ME} {fm : Fm} {e : Expr} (hc : isComp e = false) (hk : kindOK e = true) (he : ∀ env whole, isTrue e env whole = (do let v ← whole; standAt e.pos; holding [v] (truthy v))) (v : JE cx A n m fm e) : JJ cx A n m fm e := jj v (t_value v he) hc hk
theorem jjc {m : ME} {fm : Fm} {elt : Expr} {gens : List Comprehension} {scope : Scope} {pos : Pos} (i : JC cx A n m fm (.ListComp elt gens scope pos)) : JJ cx A n m fm (.ListComp elt gens scope pos) := ⟨jc_value i, t_value (jc_value i) fun _ _ => rfl, fun _ => i, rfl⟩
structure JR (cx : Cx) (A : Around) (n : Nat) (ms : MEs) (fm : Fm) (es : List Expr) : Prop where
  l : JL cx A n ms fm es
  b : ∀ op, JB cx A n op ms fm es
  u : ∀ op, JU cx A n op ms fm es
  one : ∀ m e, ms = .cons m .nil → es = [e] → JE cx A n m fm e
  ks : ∀ e ∈ es, kindOK e = true

theorem tests_of {fm : Fm} {c : ME} {ifs : List Expr} (h : (ifs.isEmpty && isTrueM c || l1 ifs fun i => chkE T c fm.env.scope fm.names i) = true) (i : ∀ e, chkE T c fm.env.scope fm.names e = true → JJ cx A n c fm e) : CTests cx A n c fm ifs := by
  rcases or2 h with h | h
  · obtain ⟨h1, h2⟩ := and2 h; exact .inl ⟨nil_of h1, h2⟩
  · obtain ⟨e, h1, h2⟩ := l1_inv h; exact .inr ⟨e, h1, (i e h2).t⟩
theorem zero_of {m : ME} (h : isZeroM m = true) : m = .cint 0 := by
  cases m <;> first | (rw [eq_of_beq (show (_ == (0 : Int)) = true from h)]) | exact (Bool.false_ne_true h).elim
theorem none_of {m : ME} (h : isNoneM m = true) : m = .cnone := by
  cases m <;> first | rfl | exact (Bool.false_ne_true h).elim
theorem rng_of {fm : Fm} {a b : ME} {as : List Expr} (h : ((l1 as fun q => isZeroM a && chkE T b fm.env.scope fm.names q) || l2 as fun p q => chkE T a fm.env.scope fm.names p && chkE T b fm.env.scope fm.names q) = true)
    (ia : ∀ e, chkE T a fm.env.scope fm.names e = true → JJ cx A n a fm e) (ib : ∀ e, chkE T b fm.env.scope fm.names e = true → JJ cx A n b fm e) : RngArgs cx A n fm a b as := by
  rcases or2 h with h | h
  · obtain ⟨e, h1, h2⟩ := l1_inv h
    obtain ⟨h2, h3⟩ := and2 h2
    exact .inl ⟨e, h1, zero_of h2, (ib e h3).k, (ib e h3).v⟩
  · obtain ⟨e, e', h1, h2⟩ := l2_inv h
    obtain ⟨h2, h3⟩ := and2 h2
    exact .inr ⟨e, e', h1, (ia e h2).k, (ib e' h3).k, (ia e h2).v, (ib e' h3).v⟩

mutual
theorem sE (C : cx.OK) (TO : T.OK cx) (hA : AOK A n) : ∀ (m : ME) (fm : Fm) (e : Expr), fm.OK cx → chkE T m fm.env.scope fm.names e = true → JJ cx A n m fm e
  | .cint i, fm, e, W, h => by
    obtain ⟨c, k, p, rfl, h1⟩ := vConst_inv h; exact jj1 rfl rfl (fun _ _ => rfl) (j_int h1)
  | .cbool b, fm, e, W, h => by
    obtain ⟨c, k, p, rfl, h1⟩ := vConst_inv h; exact jj1 rfl rfl (fun _ _ => rfl) (j_bool h1)
  | .cnone, fm, e, W, h => (Bool.false_ne_true h).elim
  | .cstr x, fm, e, W, h => by
    obtain ⟨c, k, p, rfl, h1⟩ := vConst_inv h; exact jj1 rfl rfl (fun _ _ => rfl) (j_str h1)
  | .loc i, fm, e, W, h => by
    obtain ⟨x, p, rfl, h1⟩ := vName_inv h
    obtain ⟨h2, h3⟩ := and2 h1
    exact jj1 rfl rfl (fun _ _ => rfl) (j_loc W h2 (eq_of_beq h3))
  | .bin op l r, fm, e, W, h => by
    obtain ⟨a, o, b, p, rfl, h1⟩ := vBin_inv h
    obtain ⟨h2, h3⟩ := and2 h1
    obtain ⟨h3, h4⟩ := and2 h3
    rw [eq_of_beq h2]
    exact jj1 rfl rfl (fun _ _ => rfl) (j_bin C hA (sE C TO hA l fm a W h3).v (sE C TO hA r fm b W h4).v)
  | .not m, fm, e, W, h => by
    obtain ⟨o, a, p, rfl, h1⟩ := vUn_inv h
    obtain ⟨h2, h3⟩ := and2 h1
    rw [eq_of_beq h2]
    exact jj (j_not (sE C TO hA m fm a W h3).v) (t_not (sE C TO hA m fm a W h3).t) rfl rfl
  | .cmp l op r, fm, e, W, h => by
    obtain ⟨a, ops, cs, p, rfl, h1⟩ := vCmp_inv h
    obtain ⟨o, rfl, h2⟩ := l1_inv h1
    obtain ⟨b, rfl, h3⟩ := l1_inv h2
    obtain ⟨h4, h5⟩ := and2 h3
    obtain ⟨h5, h6⟩ := and2 h5
    rw [eq_of_beq h4]
    have il := sE C TO hA l fm a W h5
    have ir := sE C TO hA r fm b W h6
    exact jj (j_cmp C ir.k il.v ir.v) (t_cmp C ir.k il.v ir.v) rfl rfl
  | .bop op ms, fm, e, W, h => by
    obtain ⟨o, es, p, rfl, h1⟩ := vBool_inv h
    obtain ⟨h2, h3⟩ := and2 h1
    rw [eq_of_beq h2]
    have i := sEs C TO hA ms fm es W h3
    exact jj (fun E H μ s Q S h => i.b op E p H μ s Q S h) (fun E H μ s Q S h => wpAny_isTrue_BoolOp (i.u op E H μ s Q S h)) rfl rfl
  | .callf f ms, fm, e, W, h => by
    obtain ⟨x, np, as, p, rfl, h1⟩ := nameCall_inv h
    obtain ⟨h2, h3⟩ := and2 h1
    obtain ⟨h4, h5⟩ := and2 h3
    obtain ⟨h6, h7⟩ := and2 h5
    cases as with
    | nil => cases h6
    | cons a r => cases ms with
      | nil => cases h7
      | cons m ms =>
        have i := sEs C TO hA (.cons m ms) fm (a :: r) W h7
        exact jj1 rfl rfl (fun _ _ => rfl) (j_callf C TO hA W h2 (eq_of_beq h4) (i.ks a List.mem_cons_self) i.l)
  | .callb b ms, fm, e, W, h => by
    obtain ⟨x, np, as, p, rfl, h1⟩ := nameCall_inv h
    obtain ⟨h2, h3⟩ := and2 h1
    obtain ⟨h4, h5⟩ := and2 h3
    obtain ⟨h6, h7⟩ := and2 h5
    cases as with
    | nil => cases h6
    | cons a r => cases ms with
      | nil => cases h7
      | cons m ms =>
        have i := sEs C TO hA (.cons m ms) fm (a :: r) W h7
        exact jj1 rfl rfl (fun _ _ => rfl) (j_callb C TO hA W h2 (eq_of_beq h4) i.ks i.l)
  | .isi m t, fm, e, W, h => by
    obtain ⟨x, np, as, p, rfl, h1⟩ := nameCall_inv h
    obtain ⟨h2, h3⟩ := and2 h1
    obtain ⟨h4, h5⟩ := and2 h3
    obtain ⟨a, b, rfl, h6⟩ := l2_inv h5
    obtain ⟨h7, h8⟩ := and2 h6
    obtain ⟨y, tp, rfl, h9⟩ := vName_inv h8
    obtain ⟨h10, h11⟩ := and2 h9
    have := eq_of_beq h4; subst this
    exact jj1 rfl rfl (fun _ _ => rfl) (j_isi C TO W h2 h10 (eq_of_beq h11) (sE C TO hA m fm a W h7).k (sE C TO hA m fm a W h7).v)
  | .meth o m ms, fm, e, W, h => by
    obtain ⟨f, as, ks, p, rfl, h1⟩ := vCall_inv h
    obtain ⟨h2, h3⟩ := and2 h1
    obtain ⟨b, x, ap, rfl, h4⟩ := vAttr_inv h3
    obtain ⟨h4, h5⟩ := and2 h4
    obtain ⟨h5, h6⟩ := and2 h5
    obtain ⟨h6, h7⟩ := and2 h6
    obtain ⟨h7, h8⟩ := and2 h7
    obtain ⟨h9, h10⟩ := and2 h4
    rw [nil_of h2, eq_of_beq h5]
    exact jj1 rfl rfl (fun _ _ => rfl) (j_meth h9 h10 (of_decide_eq_true h7) h8 (sEs C TO hA ms fm as W h8).ks (sE C TO hA o fm b W h6).v (sEs C TO hA ms fm as W h8).one)
  | .sub o i, fm, e, W, h => by
    obtain ⟨a, b, p, rfl, h1⟩ := vSub_inv h
    obtain ⟨h2, h3⟩ := and2 h1
    exact jj1 rfl rfl (fun _ _ => rfl) (j_sub C (sE C TO hA i fm b W h3).k (sE C TO hA o fm a W h2).v (sE C TO hA i fm b W h3).v)
  | .slice o lo hi, fm, e, W, h => by
    obtain ⟨a, b, p, rfl, h1⟩ := vSub_inv h
    obtain ⟨h2, h3⟩ := and2 h1
    obtain ⟨x, y, z, p', rfl, h4⟩ := vSlice_inv h3
    obtain ⟨h5, h6⟩ := and2 h4
    obtain ⟨h7, h8⟩ := and2 h6
    cases y with
    | none => cases h8
    | some y => cases z with
      | some z => cases h5
      | none =>
        refine jj1 rfl rfl (fun _ _ => rfl) (j_slice C (sE C TO hA o fm a W h2).v ?_ (sE C TO hA hi fm y W h8).v)
        cases x with
        | none => exact .inl ⟨rfl, none_of h7⟩
        | some x => exact .inr ⟨x, rfl, (sE C TO hA lo fm x W h7).v⟩
  | .list ms, fm, e, W, h => by
    obtain ⟨es, p, rfl, h1⟩ := vList_inv h
    exact jj1 rfl rfl (fun _ _ => rfl) (j_list C (sEs C TO hA ms fm es W h1).l)
  | .tup ms, fm, e, W, h => by
    obtain ⟨es, k, p, rfl, h1⟩ := vTup_inv h
    exact jj1 rfl rfl (fun _ _ => rfl) (j_tup C (sEs C TO hA ms fm es W h1).l)
  | .comp el it c, fm, e, W, h => by
    obtain ⟨elt, x, px, iter, ifs, scope, p, rfl, hs, h1⟩ := oneComp_inv h
    obtain ⟨h1, h2⟩ := and2 h1
    obtain ⟨h2, h3⟩ := and2 h2
    refine jjc (jc_comp C hA W (scopeOk_of hs) (sE C TO hA it fm iter W h2).k (fun fm' W' e1 e2 => ?_) (sE C TO hA it fm iter W h2).v)
    rw [← e1, ← e2] at h1 h3
    exact ⟨(sE C TO hA el fm' elt W' h1).v, tests_of h3 fun e he => sE C TO hA c fm' e W' he⟩
  | .compR el a b c, fm, e, W, h => by
    obtain ⟨elt, x, px, iter, ifs, scope, p, rfl, hs, h1⟩ := oneComp_inv h
    obtain ⟨a1, a2⟩ := and2 h1
    obtain ⟨a3, a4⟩ := and2 a2
    obtain ⟨y, np, as, ip, rfl, a5⟩ := nameCall_inv a3
    obtain ⟨a6, a7⟩ := and2 a5
    obtain ⟨a8, a9⟩ := and2 a7
    have := eq_of_beq a8; subst this
    refine jjc (jc_compR C TO hA W (scopeOk_of hs) a6 (fun fm' W' e1 e2 => ?_) (rng_of a9 (fun e he => sE C TO hA a fm e W he) fun e he => sE C TO hA b fm e W he))
    rw [← e1, ← e2] at a1 a4
    exact ⟨(sE C TO hA el fm' elt W' a1).v, tests_of a4 fun e he => sE C TO hA c fm' e W' he⟩
theorem sEs (C : cx.OK) (TO : T.OK cx) (hA : AOK A n) : ∀ (ms : MEs) (fm : Fm) (es : List Expr), fm.OK cx → chkEs T ms fm.env.scope fm.names es = true → JR cx A n ms fm es
  | .nil, fm, es, W, h => by
    have := nil_of h; subst this
    exact ⟨jl_nil, fun _ _ _ _ _ _ _ _ h => False.elim h, fun _ _ _ _ _ _ _ h => False.elim h, fun _ _ q => (by cases q), fun e he => by cases he⟩
  | .cons m .nil, fm, es, W, h => by
    obtain ⟨e, r, rfl, h1, h2⟩ := chkEs_cons h
    have := nil_of h2; subst this
    have i := sE C TO hA m fm e W h1
    exact ⟨jl_cons i.k i.v jl_nil, fun _ => jb_one i.v, fun _ => ju_one i.t, fun _ _ q q' => (by cases q; cases q'; exact i.v), fun e he => by rw [List.mem_singleton.mp he]; exact i.k⟩
  | .cons m (.cons m' ms), fm, es, W, h => by
    obtain ⟨e, r, rfl, h1, h2⟩ := chkEs_cons h
    have i := sE C TO hA m fm e W h1
    have ir := sEs C TO hA (.cons m' ms) fm r W h2
    obtain ⟨e', r', rfl, _, _⟩ := chkEs_cons h2
    refine ⟨jl_cons i.k i.v ir.l, fun op => jb_more i.v (ir.b op), fun op => ju_more i.t (ir.u op), fun _ _ q => (by cases q), fun x hx => ?_⟩
    rcases List.mem_cons.mp hx with rfl | hx
    · exact i.k
    · exact ir.ks x hx
end
end
end Mine
end

section
namespace Mine
open PySem PyProof.Rows PySem.SeqAt

noncomputable def wAsg (st : Stmt) (k : List Expr → Expr → Bool) : Bool := match st with
  | .Assign ts v _ => k ts v
  | _ => false
theorem wAsg_inv {st : Stmt} {k : List Expr → Expr → Bool} (h : wAsg st k = true) : ∃ ts v p, st = .Assign ts v p ∧ k ts v = true := by cases st <;> first | exact ⟨_, _, _, rfl, h⟩ | exact (Bool.false_ne_true h).elim
noncomputable def wExpr (st : Stmt) (k : Expr → Bool) : Bool := match st with
  | .Expr v _ => k v
  | _ => false
theorem wExpr_inv {st : Stmt} {k : Expr → Bool} (h : wExpr st k = true) : ∃ v p, st = .Expr v p ∧ k v = true := by cases st <;> first | exact ⟨_, _, rfl, h⟩ | exact (Bool.false_ne_true h).elim
noncomputable def wIf (st : Stmt) (k : Expr → List Stmt → List Stmt → Bool) : Bool := match st with
  | .If c t e _ => k c t e
  | _ => false
theorem wIf_inv {st : Stmt} {k : Expr → List Stmt → List Stmt → Bool} (h : wIf st k = true) : ∃ c t e p, st = .If c t e p ∧ k c t e = true := by cases st <;> first | exact ⟨_, _, _, _, rfl, h⟩ | exact (Bool.false_ne_true h).elim
noncomputable def wFor (st : Stmt) (k : Expr → Expr → List Stmt → List Stmt → Bool) : Bool := match st with
  | .For tg it b o _ => k tg it b o
  | _ => false
theorem wFor_inv {st : Stmt} {k : Expr → Expr → List Stmt → List Stmt → Bool} (h : wFor st k = true) : ∃ tg it b o p, st = .For tg it b o p ∧ k tg it b o = true := by cases st <;> first | exact ⟨_, _, _, _, _, rfl, h⟩ | exact (Bool.false_ne_true h).elim
noncomputable def wWhile (st : Stmt) (k : Expr → List Stmt → List Stmt → Bool) : Bool := match st with
  | .While c b o _ => k c b o
  | _ => false
theorem wWhile_inv {st : Stmt} {k : Expr → List Stmt → List Stmt → Bool} (h : wWhile st k = true) : ∃ c b o p, st = .While c b o p ∧ k c b o = true := by cases st <;> first | exact ⟨_, _, _, _, rfl, h⟩ | exact (Bool.false_ne_true h).elim
noncomputable def wRet (st : Stmt) (k : Option Expr → Bool) : Bool := match st with
  | .Return v _ => k v
  | _ => false
theorem wRet_inv {st : Stmt} {k : Option Expr → Bool} (h : wRet st k = true) : ∃ v p, st = .Return v p ∧ k v = true := by cases st <;> first | exact ⟨_, _, rfl, h⟩ | exact (Bool.false_ne_true h).elim

mutual
noncomputable def chkS (T : Tbl) : MS → Scope → List (Option Str) → Stmt → Bool
  | .assign i m, sc, nm, st => wAsg st fun ts v => l1 ts fun t => vName t fun x => nm[i]? == some (some x) && chkE T m sc nm v
  | .setSub o i m, sc, nm, st => wAsg st fun ts v => l1 ts fun t => vSub t fun a b => !isComp v && (chkE T m sc nm v && (chkE T o sc nm a && chkE T i sc nm b))
  | .expr m, sc, nm, st => wExpr st fun v => !isComp v && chkE T m sc nm v
  | .ite c t e, sc, nm, st => wIf st fun d a b => chkE T c sc nm d && (chkSs T t sc nm a && chkSs T e sc nm b)
  | .for_ i m b, sc, nm, st => wFor st fun tg it bd o => o.isEmpty && (chkSs T b sc nm bd && (chkE T m sc nm it && vName tg fun x => nm[i]? == some (some x)))
  | .forR i a c b, sc, nm, st => wFor st fun tg it bd o => o.isEmpty && (chkSs T b sc nm bd && ((vName tg fun x => nm[i]? == some (some x)) && nameCall it fun y as => isGlob sc y && (y == ("range" : Str) &&
      ((l1 as fun q => isZeroM a && chkE T c sc nm q) || l2 as fun p q => chkE T a sc nm p && chkE T c sc nm q))))
  | .while_ c b, sc, nm, st => wWhile st fun d bd o => o.isEmpty && (chkE T c sc nm d && chkSs T b sc nm bd)
  | .ret m, sc, nm, st => wRet st fun v => so v (fun e => chkE T m sc nm e) false
noncomputable def chkSs (T : Tbl) : MSs → Scope → List (Option Str) → List Stmt → Bool
  | .nil, _, _, ss => ss.isEmpty
  | .cons m ms, sc, nm, ss => match ss with
    | s :: r => chkS T m sc nm s && chkSs T ms sc nm r
    | [] => false
end

noncomputable def SP (cx : Cx) (fm : Fm) (s : Shared) (H : HP) (N : List V → HP → Prop) (R : V → HP → Prop) : Flow → Shared → Prop := fun f s' =>
  ∃ H' μ', SR cx fm H' μ' s' ∧ Kept fm.own s H s' H' ∧ (match f with | .next => N μ' H' | .ret v => R (abs v) H' | _ => False)
noncomputable def JS (cx : Cx) (A : Around) (n : Nat) (m : MS) (fm : Fm) (st : Stmt) : Prop := ∀ (E : Value → Shared → Prop) (H : HP) (μ : List V) (s : Shared) (N : List V → HP → Prop) (R : V → HP → Prop),
  SR cx fm H μ s → mwpS cx n m μ H N R → wpAny (model cx.prog cx.w) A (exec st fm.env) (SP cx fm s H N R) E s
noncomputable def JSs (cx : Cx) (A : Around) (n : Nat) (m : MSs) (fm : Fm) (ss : List Stmt) : Prop := ∀ (E : Value → Shared → Prop) (H : HP) (μ : List V) (s : Shared) (N : List V → HP → Prop) (R : V → HP → Prop),
  SR cx fm H μ s → mwpSs cx n m μ H N R → wpAny (model cx.prog cx.w) A (execs ss fm.env) (SP cx fm s H N R) E s

section
variable {cx : Cx} {T : Tbl} {A : Around} {E : Value → Shared → Prop} {n : Nat} {fm : Fm}

theorem sp_from {s s₁ : Shared} {H H₁ : HP} {N : List V → HP → Prop} {R : V → HP → Prop} {M : Model} {t : Sem Flow} (k : Kept fm.own s H s₁ H₁) (h : wpAny M A t (SP cx fm s₁ H₁ N R) E s₁) : wpAny M A t (SP cx fm s H N R) E s₁ :=
  wpAny_mono h (fun _ _ ⟨H', μ', a, b, c⟩ => ⟨H', μ', a, k.trans b, c⟩) fun _ _ e => e
theorem swaps_of {v : Expr} (h : isComp v = false) (hk : kindOK v = true) (t : Option Expr) (l : Nat) (env : Env) : swapsWith v t l env = pure false := by
  cases v <;> first | rfl | exact (Bool.false_ne_true hk).elim | exact (Bool.false_ne_true h.symm).elim
theorem swaps_comp (elt : Expr) (gens : List Comprehension) (scope : Scope) (p : Pos) (x : Str) (px : Pos) (l : Nat) (env : Env) : ∃ b, swapsWith (.ListComp elt gens scope p) (some (.Name x px)) l env = pure b := ⟨_, rfl⟩

theorem s_plain (W : fm.OK cx) {m : ME} {v : Expr} {x : Str} {i : Nat} {px p : Pos} (hi : fm.names[i]? = some (some x)) (iv : JE cx A n m fm v) (hs : swapsWith v (some (.Name x px)) p.line fm.env = pure false) : JS cx A n (.assign i m) fm (.Assign [.Name x px] v p) := by
  intro E H μ s N R S h
  refine wpAny_Assign_Name (ep_then (iv E H μ s _ S h) fun y s₁ H₁ S₁ k₁ h₁ => store_loc W (S.step S₁ k₁) hi fun s₂ S₂ k₂ => ?_) hs
  exact ⟨H₁, _, S₂, (k₁.any _).trans k₂, h₁⟩
theorem s_swap (W : fm.OK cx) {m : ME} {elt : Expr} {gens : List Comprehension} {scope : Scope} {vp : Pos} {x : Str} {i : Nat} {px p : Pos} (hi : fm.names[i]? = some (some x)) (ic : JC cx A n m fm (.ListComp elt gens scope vp))
    (hs : swapsWith (.ListComp elt gens scope vp) (some (.Name x px)) p.line fm.env = pure true) : JS cx A n (.assign i m) fm (.Assign [.Name x px] (.ListComp elt gens scope vp) p) := by
  intro E H μ s N R S h
  rw [exec_Assign_Name_used _ _ _ _ hs]
  refine wpAny_bind (wpAny_standAt (wpAny_bind ?_))
  show wpAny _ A (do let _ ← comprehension (.ListComp elt gens scope vp) scope fm.env _ (newList []) (firstAsync gens) (firstIter gens fm.env) (some (assign (.Name x px) fm.env))) _ _ s
  refine wpAny_bind (wpAny_mono (ic _ H μ s _ _ _ (fun _ s' => SP cx fm s H N R .next s') elt gens scope vp rfl S h ?_) (fun _ s' hq => wpAny_pure (wpAny_pure hq)) fun _ _ e => e)
  intro D Ca s' H' S' k hQ hCa hbase hf hns
  show wpAny _ A (assign (.Name x px) fm.env (.ref D)) _ _ _
  refine wpAny_assign_Name (store_loc W (S.step S' k) hi fun s₂ S₂ k₂ => ?_)
  have hown : ¬ fm.own Ca := fun q => by rw [W.above Ca q] at hbase; exact absurd (S.fr.live Ca q) (by
    rintro ⟨o, e⟩
    cases e2 : H Ca with
    | none => exact hf o e e2
    | some oo => exact S.own Ca oo e2 q)
  obtain ⟨m, hm⟩ := hns
  have hm₂ : s₂.heap.Ns Ca m := Ns.keep hm fun o e => k₂.keep Ca o e hCa hown
  refine ⟨m, hm₂, fun h' sb => ?_⟩
  have S₃ : SR cx fm H' (setL μ i (.ref D)) { s₂ with heap := h' } := S₂.aside hCa hown hbase sb.extBut s₂.toks
  have k₃ := (k.any fm.own).trans k₂
  exact ⟨H', _, S₃, ⟨fun b o e hn hw => sb.extBut b o (fun q => by subst q; exact hf o e hn) (k₃.keep b o e hn hw), k₃.dom, k₃.os, k₃.gens⟩, hQ⟩
theorem s_asg (W : fm.OK cx) {m : ME} {v : Expr} {x : Str} {i : Nat} {px p : Pos} (hi : fm.names[i]? = some (some x)) (kv : kindOK v = true) (iv : JJ cx A n m fm v) : JS cx A n (.assign i m) fm (.Assign [.Name x px] v p) := by
  cases hv : isComp v with
  | false => exact s_plain W hi iv.v (swaps_of hv kv _ _ _)
  | true =>
    have ic := iv.c hv
    cases v <;> first | exact (Bool.false_ne_true hv).elim | skip
    rename_i elt gens scope vp
    obtain ⟨b, hb⟩ := swaps_comp elt gens scope vp x px p.line fm.env
    cases b with
    | false => exact s_plain W hi iv.v hb
    | true => exact s_swap W hi ic hb
theorem s_sub {o i m : ME} {a b v : Expr} {sp p : Pos} (hc : isComp v = false) (kv : kindOK v = true) (iv : JE cx A n m fm v) (io : JE cx A n o fm a) (ii : JE cx A n i fm b) : JS cx A n (.setSub o i m) fm (.Assign [.Subscript a b sp] v p) := by
  intro E H μ s N R S h
  refine wpAny_Assign_Subscript (ep_then (iv E H μ s _ S h) fun vv s₁ H₁ S₁ k₁ h₁ => ep_then (io E H₁ μ s₁ _ (S.step S₁ k₁) h₁) fun ov s₂ H₂ S₂ k₂ h₂ => ?_) (swaps_of hc kv _ _ _)
  have k12 := k₁.trans k₂
  refine ep_then (ii E H₂ μ s₂ _ (S.step S₂ k12) h₂) fun iv s₃ H₃ S₃ k₃ h₃ => wpAny_mono (setSub_ok S₃ h₃) (fun _ s₄ q => ?_) fun _ _ e => e
  obtain ⟨H₄, S₄, k₄, h₄⟩ := q
  have k := k12.trans (k₃.trans k₄)
  exact ⟨H₄, μ, S.step S₄ k, KE.any k _, h₄⟩
theorem s_exp (W : fm.OK cx) {m : ME} {v : Expr} {p : Pos} (hc : isComp v = false) (kv : kindOK v = true) (iv : JE cx A n m fm v) : JS cx A n (.expr m) fm (.Expr v p) := by
  intro E H μ s N R S h
  refine wpAny_Expr_any (ep_then (iv E H μ s _ S h) fun vv s₁ H₁ S₁ k₁ h₁ => ?_) (by unfold interactive; rw [W.kind]; rfl) (swaps_of hc kv _ _ _)
  exact ⟨H₁, μ, S.step S₁ k₁, k₁.any _, h₁⟩
theorem s_retE {m : ME} {v : Expr} {p : Pos} (iv : JE cx A n m fm v) : JS cx A n (.ret m) fm (.Return (some v) p) := by
  intro E H μ s N R S h
  refine wpAny_Return_some (ep_then (iv E H μ s _ S h) fun vv s₁ H₁ S₁ k₁ h₁ => ?_)
  exact ⟨H₁, μ, S.step S₁ k₁, k₁.any _, h₁⟩
theorem ss_nilJ : JSs cx A n .nil fm [] := fun E H μ s N R S h => wpAny_execs_nil ⟨H, μ, S, Kept.refl _ _ _, h⟩
theorem ss_consJ {m : MS} {ms : MSs} {st : Stmt} {r : List Stmt} (i : JS cx A n m fm st) (ir : JSs cx A n ms fm r) : JSs cx A n (.cons m ms) fm (st :: r) := by
  intro E H μ s N R S h
  refine wpAny_execs_cons (wpAny_mono (i E H μ s _ R S h) (fun f s₁ q => ?_) fun _ _ e => e)
  obtain ⟨H₁, μ₁, S₁, k₁, h₁⟩ := q
  cases f with
  | next => exact sp_from k₁ (ir _ H₁ μ₁ s₁ N R S₁ h₁)
  | ret v => exact ⟨H₁, μ₁, S₁, k₁, h₁⟩
  | brk => exact h₁.elim
  | cont => exact h₁.elim
theorem s_if {c : ME} {t e : MSs} {d : Expr} {a b : List Stmt} {p : Pos} (ic : JT cx A n c fm d) (it : JSs cx A n t fm a) (ie : JSs cx A n e fm b) : JS cx A n (.ite c t e) fm (.If d a b p) := by
  intro E H μ s N R S h
  refine wpAny_If (wpAny_mono (ic E H μ s (fun b' H => (b' = true → mwpSs cx n t μ H N R) ∧ (b' = false → mwpSs cx n e μ H N R)) S h) (fun v s₁ q => ?_) fun _ _ e => e)
  obtain ⟨H₁, S₁, k₁, h₁⟩ := q
  cases v with
  | true => exact sp_from (k₁.any _) (it E H₁ μ s₁ N R (S.step S₁ k₁) (h₁.1 rfl))
  | false => exact sp_from (k₁.any _) (ie E H₁ μ s₁ N R (S.step S₁ k₁) (h₁.2 rfl))
theorem s_whileJ {c : ME} {b : MSs} {d : Expr} {bd : List Stmt} {p : Pos} (ic : JT cx A n c fm d) (ib : JSs cx A n b fm bd) : JS cx A n (.while_ c b) fm (.While d bd [] p) := by
  intro E H μ s N R S h
  obtain ⟨I, ⟨k0, hI⟩, hstep⟩ := h
  refine wpAny_While (codeAny_whileLoop (fun k s' => ∃ μ' H', I k μ' H' ∧ SR cx fm H' μ' s' ∧ Kept fm.own s H s' H') ?_ k0 ⟨μ, H, hI, S, Kept.refl _ _ _⟩)
  rintro k s' ⟨μ', H', hI', S', k'⟩
  refine wpAny_mono (ic _ H' μ' s' (fun b' H₁ => (b' = true → mwpSs cx n b μ' H₁ (fun μ' H' => ∃ H₃, LE H₃ H' ∧ ∃ m, m < k ∧ I m μ' H₃) R) ∧ (b' = false → N μ' H₁)) S' (hstep k μ' H' hI')) (fun v s₁ q => ?_) fun _ _ e => e
  obtain ⟨H₁, S₁, k₁, h₁⟩ := q
  have kk := k'.trans (k₁.any fm.own)
  cases v with
  | true =>
    refine wpAny_mono (ib _ H₁ μ' s₁ _ R (S'.step S₁ k₁) (h₁.1 rfl)) (fun f s₂ q => ?_) fun _ _ e => e
    obtain ⟨H₂, μ₂, S₂, k₂, h₂⟩ := q
    cases f with
    | next =>
      obtain ⟨H₃, le, m, hm, hI3⟩ := h₂
      exact ⟨m, hm, μ₂, H₃, hI3, S₂.le le, (kk.trans k₂).le le⟩
    | ret v => exact ⟨H₂, μ₂, S₂, kk.trans k₂, h₂⟩
    | brk => exact h₂.elim
    | cont => exact h₂.elim
  | false => exact wpAny_execs_nil ⟨H₁, μ', S'.step S₁ k₁, kk, h₁.2 rfl⟩

theorem for_loop (hA : AOK A n) {fm : Fm} {H : HP} {μ : List V} {s : Shared} {N : List V → HP → Prop} {R : V → HP → Prop} (W : fm.OK cx) {x : Str} {px : Pos} {i : Nat} (hi : fm.names[i]? = some (some x)) {body : List Stmt} {b : MSs} (ib : JSs cx A n b fm body)
    {s₁ : Shared} {H₁ : HP} (S₁ : SR cx fm H₁ μ s₁) (k₁ : KE s H s₁ H₁) {it : Addr} {P : Nat → Heap → Prop} {ob : Obj} {items : List V} {st : HP → Prop} (I : ∀ E, Iter cx A E it items st P) (hf : s₁.heap.get? it = none) (hP : P 0 (s₁.heap.push ob))
    (hF : ForP items st μ H₁ (fun x μ H K => mwpSs cx n b (setL μ i x) H K R) N) :
    codeAny (model cx.prog cx.w) A (.forLoop (.Name x px) (.ref it) body [] fm.env) (fun r s' => match r with | .ok f => SP cx fm s H N R f s' | .error e => cameBackBy (model cx.prog cx.w) A fm.env E e s') { s₁ with heap := s₁.heap.push ob } := by
  obtain ⟨Inv, hI0, hst, hturn, hend⟩ := hF
  have kg : ∀ b o, s₁.heap.get? b = some o → (s₁.heap.push ob).get? b = some o := fun b o e => Heap.get?_push_of_some _ e
  have hown : ¬ fm.own it := fun q => by obtain ⟨o, e⟩ := S₁.fr.live it q; rw [hf] at e; cases e
  have hbase : cx.base.get? it = none := S₁.toHS.base_none hf
  refine codeAny_forLoop (fun k s' => ∃ done rest μ' H', items = done ++ rest ∧ k = rest.length ∧ Inv done μ' H' ∧ SR cx fm H' μ' s' ∧ Kept fm.own s H s' H' ∧ P done.length s'.heap ∧ H' it = none) ?_ items.length
    ⟨[], items, μ, H₁, rfl, rfl, hI0, S₁.step (S₁.toHS.grow kg _) (KE.grow kg _), KE.any (k₁.trans (KE.grow kg _)) _, hP, S₁.toHS.none_of hf⟩
  rintro k s' ⟨done, rest, μ', H', hitems, rfl, hInv, S', k', hp, hit⟩
  -- an object that lives at s and is not the abstract heap's is not the iterator
  have nit : ∀ b o, s.heap.get? b = some o → H b = none → b ≠ it := fun b o e hn q => by
    subst q; rw [k₁.keep _ o e hn id] at hf; cases hf
  cases rest with
  | nil =>
    rw [List.append_nil] at hitems
    subst hitems
    refine (I _).stop s' H' _ S'.toHS (hst _ _ _ hInv) hp fun h' eb => ?_
    exact wpAny_execs_nil ⟨H', μ', S'.aside hit hown hbase eb s'.toks, ⟨fun b o e hn hw => eb b o (nit b o e hn) (k'.keep b o e hn hw), k'.dom, k'.os, k'.gens⟩, hend μ' H' hInv⟩
  | cons v rest =>
    have hv : items[done.length]? = some v := by rw [hitems]; simp
    refine (I _).next s' H' done.length v _ S'.toHS (hst _ _ _ hInv) hp hv fun h₂ tk xv hxa hp₂ sb₂ => ?_
    have S₂ := S'.aside hit hown hbase sb₂.extBut tk
    have k₂ : Kept fm.own s H { s' with heap := h₂, toks := tk } H' := ⟨fun b o e hn hw => sb₂.extBut b o (nit b o e hn) (k'.keep b o e hn hw), k'.dom, k'.os, k'.gens⟩
    refine wpAny_assign_Name (store_loc W S₂ hi fun s₃ S₃ k₃ => ?_)
    rw [hxa] at S₃
    obtain ⟨oi, hoi⟩ := (I fun _ _ => False).live _ _ hp₂
    have hp₃ : P (done.length + 1) s₃.heap := (I fun _ _ => False).frame _ _ _ hp₂ fun o e => k₃.keep it o e hit hown
    refine wpAny_mono (ib _ H' (setL μ' i v) s₃ _ R S₃ (hturn done v rest μ' H' hitems hInv)) (fun f s₄ q => ?_) fun _ _ e => e
    obtain ⟨H₄, μ₄, S₄, k₄, h₄⟩ := q
    have kk := (k₂.trans k₃).trans k₄
    cases f with
    | next =>
      obtain ⟨H₅, le, hI5⟩ := h₄
      have hoi₃ := k₃.keep it oi hoi hit hown
      refine ⟨rest.length, Nat.lt_succ_self _, done ++ [v], rest, μ₄, H₅, by rw [hitems]; simp, rfl, hI5, S₄.le le, kk.le le, ?_, ?_⟩
      · rw [List.length_append]
        exact (I fun _ _ => False).frame _ _ _ hp₃ fun o e => k₄.keep it o e hit hown
      · cases e : H₅ it with
        | none => rfl
        | some o =>
          have := k₄.dom it oi hoi₃ hit hown
          rw [le it o e] at this; cases this
    | ret v => exact ⟨H₄, μ₄, S₄, kk, h₄⟩
    | brk => exact h₄.elim
    | cont => exact h₄.elim

theorem s_forJ (C : cx.OK) (hA : AOK A n) (W : fm.OK cx) {i : Nat} {m : ME} {b : MSs} {x : Str} {px p : Pos} {it : Expr} {bd : List Stmt} (hi : fm.names[i]? = some (some x)) (ki : kindOK it = true) (ii : JE cx A n m fm it) (ib : JSs cx A n b fm bd) :
    JS cx A n (.for_ i m b) fm (.For (.Name x px) it bd [] p) := by
  intro E H μ s N R S h
  refine wpAny_For (wpAny_mono (it_val (K := fun items st H₁ => ForP items st μ H₁ (fun x μ H K => mwpSs cx n b (setL μ i x) H K R) N) C hA S ii h) (fun xv s₁ hx => wpAny_mono hx (fun itv s₂ hy => ?_) fun _ _ e => e) fun _ _ e => e) (folded_of ki fm.env)
  obtain ⟨ita, P, ob, s₃, H₁, items, st, rfl, S₁, k₁, rfl, hf, I, hP, hk⟩ := hy
  exact for_loop hA W hi ib (S.step S₁ k₁) k₁ I hf hP hk
theorem s_forRJ (C : cx.OK) (TO : T.OK cx) (hA : AOK A n) (W : fm.OK cx) {i : Nat} {a c : ME} {b : MSs} {x : Str} {px np ip p : Pos} {as : List Expr} {bd : List Stmt} (hi : fm.names[i]? = some (some x)) (hg : isGlob fm.env.scope "range" = true) (ha : RngArgs cx A n fm a c as) (ib : JSs cx A n b fm bd) :
    JS cx A n (.forR i a c b) fm (.For (.Name x px) (.Call (.Name "range" np) as [] ip) bd [] p) := by
  intro E H μ s N R S h
  refine wpAny_For (wpAny_mono (it_rng (K := fun items st H₁ => ForP items st μ H₁ (fun x μ H K => mwpSs cx n b (setL μ i x) H K R) N) C TO hA W S hg ha h) (fun xv s₁ hx => wpAny_mono hx (fun itv s₂ hy => ?_) fun _ _ e => e) fun _ _ e => e) (folded_of rfl fm.env)
  obtain ⟨ita, P, ob, s₃, H₁, items, st, rfl, S₁, k₁, rfl, hf, I, hP, hk⟩ := hy
  exact for_loop hA W hi ib (S.step S₁ k₁) k₁ I hf hP hk

theorem notB {b : Bool} (h : (!b) = true) : b = false := by cases b; rfl; cases h
mutual
theorem sS (C : cx.OK) (TO : T.OK cx) (hA : AOK A n) (W : fm.OK cx) : ∀ (m : MS) (st : Stmt), chkS T m fm.env.scope fm.names st = true → JS cx A n m fm st
  | .assign i m, st, h => by
    obtain ⟨ts, v, p, rfl, h1⟩ := wAsg_inv h
    obtain ⟨t, rfl, h2⟩ := l1_inv h1
    obtain ⟨x, px, rfl, h3⟩ := vName_inv h2
    obtain ⟨h4, h5⟩ := and2 h3
    exact s_asg W (eq_of_beq h4) (sE C TO hA m fm v W h5).k (sE C TO hA m fm v W h5)
  | .setSub o i m, st, h => by
    obtain ⟨ts, v, p, rfl, h1⟩ := wAsg_inv h
    obtain ⟨t, rfl, h2⟩ := l1_inv h1
    obtain ⟨a, b, sp, rfl, h3⟩ := vSub_inv h2
    obtain ⟨h4, h5⟩ := and2 h3
    obtain ⟨h6, h7⟩ := and2 h5
    obtain ⟨h8, h9⟩ := and2 h7
    exact s_sub (notB h4) (sE C TO hA m fm v W h6).k (sE C TO hA m fm v W h6).v (sE C TO hA o fm a W h8).v (sE C TO hA i fm b W h9).v
  | .expr m, st, h => by
    obtain ⟨v, p, rfl, h1⟩ := wExpr_inv h
    obtain ⟨h2, h3⟩ := and2 h1
    exact s_exp W (notB h2) (sE C TO hA m fm v W h3).k (sE C TO hA m fm v W h3).v
  | .ite c t e, st, h => by
    obtain ⟨d, a, b, p, rfl, h1⟩ := wIf_inv h
    obtain ⟨h2, h3⟩ := and2 h1
    obtain ⟨h4, h5⟩ := and2 h3
    exact s_if (sE C TO hA c fm d W h2).t (sSs C TO hA W t a h4) (sSs C TO hA W e b h5)
  | .for_ i m b, st, h => by
    obtain ⟨tg, it, bd, o, p, rfl, h1⟩ := wFor_inv h
    obtain ⟨h2, h3⟩ := and2 h1
    obtain ⟨h4, h5⟩ := and2 h3
    obtain ⟨h6, h7⟩ := and2 h5
    obtain ⟨x, px, rfl, h8⟩ := vName_inv h7
    rw [nil_of h2]
    exact s_forJ C hA W (eq_of_beq h8) (sE C TO hA m fm it W h6).k (sE C TO hA m fm it W h6).v (sSs C TO hA W b bd h4)
  | .forR i a c b, st, h => by
    obtain ⟨tg, it, bd, o, p, rfl, h1⟩ := wFor_inv h
    obtain ⟨h2, h3⟩ := and2 h1
    obtain ⟨h4, h5⟩ := and2 h3
    obtain ⟨h6, h7⟩ := and2 h5
    obtain ⟨x, px, rfl, h8⟩ := vName_inv h6
    obtain ⟨y, np, as, ip, rfl, h9⟩ := nameCall_inv h7
    obtain ⟨h10, h11⟩ := and2 h9
    obtain ⟨h12, h13⟩ := and2 h11
    have := eq_of_beq h12; subst this
    rw [nil_of h2]
    exact s_forRJ C TO hA W (eq_of_beq h8) h10 (rng_of h13 (fun e he => sE C TO hA a fm e W he) fun e he => sE C TO hA c fm e W he) (sSs C TO hA W b bd h4)
  | .while_ c b, st, h => by
    obtain ⟨d, bd, o, p, rfl, h1⟩ := wWhile_inv h
    obtain ⟨h2, h3⟩ := and2 h1
    obtain ⟨h4, h5⟩ := and2 h3
    rw [nil_of h2]
    exact s_whileJ (sE C TO hA c fm d W h4).t (sSs C TO hA W b bd h5)
  | .ret m, st, h => by
    obtain ⟨v, p, rfl, h1⟩ := wRet_inv h
    cases v with
    | none => cases h1
    | some v => exact s_retE (sE C TO hA m fm v W h1).v
theorem sSs (C : cx.OK) (TO : T.OK cx) (hA : AOK A n) (W : fm.OK cx) : ∀ (ms : MSs) (ss : List Stmt), chkSs T ms fm.env.scope fm.names ss = true → JSs cx A n ms fm ss
  | .nil, ss, h => by
    have := nil_of h; subst this; exact ss_nilJ
  | .cons m ms, [], h => (Bool.false_ne_true h).elim
  | .cons m ms, st :: r, h => by
    obtain ⟨h1, h2⟩ := and2 h
    exact ss_consJ (sS C TO hA W m st h1) (sSs C TO hA W ms r h2)
end
end
end Mine
end

section
namespace Mine
open PySem PyProof.Rows PySem.SeqAt

section
variable {cx : Cx} {T : Tbl} {A : Around} {E : Value → Shared → Prop} {n : Nat}

theorem cells_mem {x : Str} : ∀ (names : List (Str × NameKind)) (k : Nat) (acc : List (Str × Addr)), ((x, NameKind.cell) ∈ names ∨ ∃ c, (x, c) ∈ acc) → ∃ c, (x, c) ∈ cellsFrom k names acc
  | [], _, _, h => h.elim (fun q => nomatch q) id
  | (y, kd) :: r, k, acc, h => by
    unfold cellsFrom
    split
    · rename_i hk
      refine cells_mem r _ _ ?_
      rcases h with h | ⟨c, h⟩
      · rcases List.mem_cons.mp h with q | h
        · cases q; exact .inr ⟨k, List.mem_cons_self⟩
        · exact .inl h
      · exact .inr ⟨c, List.mem_cons_of_mem _ h⟩
    · rename_i hk
      refine cells_mem r _ _ ?_
      rcases h with h | h
      · rcases List.mem_cons.mp h with q | h
        · cases q; simp at hk
        · exact .inl h
      · exact .inr h

theorem pairwise_inj {l : List (Str × Addr)} (h : l.Pairwise fun x y => x.2 ≠ y.2) {x y : Str} {c : Addr} (hx : (x, c) ∈ l) (hy : (y, c) ∈ l) : x = y := by
  induction l with
  | nil => cases hx
  | cons p l ih =>
    rw [List.pairwise_cons] at h
    rcases List.mem_cons.mp hx with e | hx'
    · rcases List.mem_cons.mp hy with e' | hy'
      · rw [← e] at e'; cases e'; rfl
      · exact absurd (show p.2 = c from by rw [← e]) (h.1 (y, c) hy')
    · rcases List.mem_cons.mp hy with e' | hy'
      · exact absurd (show p.2 = c from by rw [← e']) (h.1 (x, c) hx')
      · exact ih h.2 hx' hy'

theorem bindL_other (kd : Str → Option NameKind) {x : Str} : ∀ (b : List (Str × Value)) (m : Str → Option Value), (∀ p ∈ b, p.1 ≠ x) → bindL kd b m x = m x
  | [], _, _ => rfl
  | (y, v) :: r, m, h => by
    unfold bindL
    rw [bindL_other kd r _ (fun p hp => h p (List.mem_cons_of_mem _ hp))]
    have hy : x ≠ y := fun e => h (y, v) List.mem_cons_self e.symm
    split
    · simp [hy]
    · rfl
theorem bindC_other (kd : Str → Option NameKind) {x : Str} : ∀ (b : List (Str × Value)) (m : Str → Option Value), (∀ p ∈ b, p.1 ≠ x) → bindC kd b m x = m x
  | [], _, _ => rfl
  | (y, v) :: r, m, h => by
    unfold bindC
    rw [bindC_other kd r _ (fun p hp => h p (List.mem_cons_of_mem _ hp))]
    have hy : x ≠ y := fun e => h (y, v) List.mem_cons_self e.symm
    split
    · rfl
    · simp [hy]

theorem bind_at (kd : Str → Option NameKind) : ∀ (ps : List Str) (vs : List Value) (m : Str → Option Value) (i : Nat) (x : Str) (v : Value), ps.Nodup → ps[i]? = some x → vs[i]? = some v →
    (kd x = some .local → bindL kd (ps.zip vs) m x = some v) ∧ (kd x ≠ some .local → bindC kd (ps.zip vs) m x = some v)
  | [], _, _, i, x, v, _, h, _ => by simp at h
  | _ :: _, [], _, i, x, v, _, _, h => by simp at h
  | p :: ps, w :: vs, m, 0, x, v, hn, h1, h2 => by
    simp at h1 h2
    subst h1; subst h2
    rw [List.nodup_cons] at hn
    have ho : ∀ q ∈ ps.zip vs, q.1 ≠ p := fun q hq e => hn.1 (e ▸ (List.of_mem_zip hq).1)
    refine ⟨fun hk => ?_, fun hk => ?_⟩
    · show bindL kd ((p, w) :: ps.zip vs) m p = some w
      unfold bindL; rw [if_pos hk, bindL_other kd _ _ ho]; simp
    · show bindC kd ((p, w) :: ps.zip vs) m p = some w
      unfold bindC; rw [if_neg hk, bindC_other kd _ _ ho]; simp
  | p :: ps, w :: vs, m, i + 1, x, v, hn, h1, h2 => by
    rw [List.nodup_cons] at hn
    rw [List.getElem?_cons_succ] at h1 h2
    have hL := fun m => (bind_at kd ps vs m i x v hn.2 h1 h2).1
    have hC := fun m => (bind_at kd ps vs m i x v hn.2 h1 h2).2
    refine ⟨fun hk => ?_, fun hk => ?_⟩
    · show bindL kd ((p, w) :: ps.zip vs) m x = some v
      unfold bindL; exact hL _ hk
    · show bindC kd ((p, w) :: ps.zip vs) m x = some v
      unfold bindC; exact hC _ hk

theorem getL_args {args : List V} : ∀ {i : Nat} {a : V} (r : List V), args[i]? = some a → getL (args ++ r) i = a := by
  induction args with
  | nil => intro i a r h; simp at h
  | cons x l ih =>
    intro i a r h
    cases i with
    | zero => simpa [getL] using h
    | succ i => exact ih r (by simpa using h)
theorem getL_unb {args : List V} (k : Nat) : ∀ {i : Nat}, args.length ≤ i → getL (args ++ List.replicate k .unb) i = .unb := by
  induction args with
  | nil =>
    intro i _
    simp only [List.nil_append]
    induction k generalizing i with
    | zero => cases i <;> rfl
    | succ k ih => cases i with
      | zero => rfl
      | succ i => exact ih (Nat.zero_le _)
  | cons x l ih =>
    intro i h
    cases i with
    | zero => simp at h
    | succ i => exact ih (by simpa using h)

structure Def (cx : Cx) (f : Addr) (ps : List Str) (body : List Stmt) (scope : Scope) : Prop where
  fd : ∃ o fd, cx.base.get? f = some o ∧ o.data = .func fd ∧ fd.body = .stmts body ∧ fd.scope = scope ∧ fd.globals = mainGlobals ∧ fd.builtins = builtinsNs ∧ fd.closure = [] ∧ cx.base.CodeRec fd.code fd.qualname ∧
    ∀ vs : List Value, vs.length = ps.length → bindArgs fd ⟨vs, []⟩ = pure (ps.zip vs)
  kind : scope.kind = .function
  co : scope.isCoroutine = false
  gen : scope.isGenerator = false

noncomputable def namesFit (scope : Scope) (nm : List Str) : Bool := nm.all fun x => scope.names.lookup x == some .local || scope.names.lookup x == some .cell

theorem call_intro (C : cx.OK) (TO : T.OK cx) {f : Addr} {ps rest : List Str} {body : List Stmt} {scope : Scope} (D : Def cx f ps body scope) {ms : MSs} (hnd : (ps ++ rest).Nodup) (hfit : namesFit scope (ps ++ rest) = true)
    (hcomp : chkSs T ms scope ((ps ++ rest).map some) body = true) {args : List V} (hlen : args.length = ps.length) {H : HP} {Q : V → HP → Prop}
    (h : mwpSs cx n ms (args ++ List.replicate rest.length .unb) H (fun _ H' => ∃ H₂, LE H₂ H' ∧ Q .none H₂) (fun v H' => ∃ H₂, LE H₂ H' ∧ Q v H₂)) : CallP cx (n + 1) f args H Q := by
  intro A s vs hA S hvs
  obtain ⟨o, fd, ho, hd, hb, hsc, hgl, hbi, hcl, hcode, hbind⟩ := D.fd
  have hlv : vs.length = ps.length := by rw [← hlen, ← hvs]; simp
  have hd1 := hA.depth
  have hu1 := hA.units
  refine codeAny_call_function (by unfold recursionLimit; omega) (S.ext _ _ ho) hd (by rw [hsc]; exact D.co) (by rw [hsc]; exact D.gen) hb (hcode.keeps S.ext) ?_
  rw [hbind vs hlv]
  refine wpAny_pure ?_
  rw [hcl, hsc]
  have hkinds : ∀ x ∈ ps ++ rest, scope.names.lookup x = some .local ∨ scope.names.lookup x = some .cell := fun x hx => by
    have := List.all_eq_true.mp hfit x hx
    simpa using this
  have hcells : ∀ x, scope.names.lookup x = some .cell → ∃ c, (cellsFrom (s.heap.objs.size + 1) scope.names []).lookup x = some c := fun x hx => by
    obtain ⟨c, hc⟩ := cells_mem scope.names (s.heap.objs.size + 1) [] (.inl (lookup_mem hx))
    exact lookup_of_mem hc
  refine wpAny_newFunctionEnv_cells D.kind (fun p hp => ?_) fun env he s' B => ?_
  · have hx := hkinds p.1 (List.mem_append_left _ (List.of_mem_zip hp).1)
    rcases hx with hx | hx
    · exact .inl hx
    · obtain ⟨c, hc⟩ := hcells p.1 hx
      exact .inr ⟨hx, by rw [hc]; rfl⟩
  · obtain ⟨hh, tk, hs'⟩ := B.toInCall.same
    have keep := B.toInCall.keep
    refine ⟨(C.nolimit.keeps S.ext).keeps keep, codeAny_func ?_⟩
    subst he
    generalize henv : newEnv scope s.heap.objs.size fd.globals (cellsFrom (s.heap.objs.size + 1) scope.names []) (fd.qualname ++ ".<locals>.") (some f) fd.code none fd.builtins = env at B ⊢
    have e1 : env.scope = scope := by rw [← henv]; rfl
    have e2 : env.locals = s.heap.objs.size := by rw [← henv]; rfl
    have e3 : env.cells = cellsFrom (s.heap.objs.size + 1) scope.names [] := by rw [← henv]; rfl
    have e4 : env.globals = mainGlobals := by rw [← henv]; exact hgl
    have e5 : env.builtins = builtinsNs := by rw [← henv]; exact hbi
    have hnew : ∀ a : Nat, s.heap.objs.size ≤ a → s.heap.get? a = none := fun a ha => by
      cases e : s.heap.get? a with
      | none => rfl
      | some o => exact absurd (Heap.lt_size e) (Nat.not_lt.mpr ha)
    have hownnew : ∀ a, (⟨env, (ps ++ rest).map some⟩ : Fm).own a → s.heap.get? a = none := fun a q => by
      rcases q with q | ⟨x, q⟩
      · rw [q]; show s.heap.get? env.locals = none; rw [e2]; exact hnew _ (Nat.le_refl _)
      · have := B.above x a (lookup_mem q)
        rw [e2] at this
        exact hnew a (Nat.le_of_lt this)
    have W : Fm.OK cx ⟨env, (ps ++ rest).map some⟩ := by
      refine ⟨by rw [e1]; exact D.kind, e4, e5, fun x c hm e => ?_, fun x y c h1 h2 => ?_, fun i j x h1 h2 => ?_, fun a q => S.base_none (hownnew a q), fun x hx => ?_⟩
      · exact absurd (B.above x c (lookup_mem hm)) (by rw [e]; exact Nat.lt_irrefl _)
      · exact pairwise_inj B.apart (lookup_mem h1) (lookup_mem h2)
      · rw [List.getElem?_map, Option.map_eq_some_iff] at h1 h2
        obtain ⟨y, a1, a2⟩ := h1
        obtain ⟨z, b1, b2⟩ := h2
        cases a2; cases b2
        exact (List.getElem?_inj (List.getElem?_eq_some_iff.mp a1).1 hnd).mp (a1.trans b1.symm)
      · show ∃ c, env.cells.lookup x = some c
        rw [e3]; refine hcells x ?_
        have hx' : env.scope.names.lookup x = some .cell := hx
        rw [e1] at hx'; exact hx'
    have S' : SR cx ⟨env, (ps ++ rest).map some⟩ H (args ++ List.replicate rest.length .unb) s' := by
      have hs0 : HS cx H s' := ⟨fun a o e => (S.hr a o e).keep (keep a), fun b o e => keep b o (S.ext b o e), S.low⟩
      refine ⟨hs0, ⟨by simp [hlen], fun a q => ?_, ⟨_, B.toInCall.ns⟩, fun i x hi => ?_⟩, fun a o e q => ?_⟩
      · rcases q with q | ⟨x, q⟩
        · obtain ⟨o, _, _, e, _⟩ := B.toInCall.ns
          exact ⟨o, by rw [q]; exact e⟩
        · obtain ⟨o, e, _⟩ := B.cell x a q
          exact ⟨o, e⟩
      · rw [List.getElem?_map, Option.map_eq_some_iff] at hi
        obtain ⟨y, a1, a2⟩ := hi
        cases a2
        have hx := hkinds x (List.mem_of_getElem? a1)
        have hk : env.kindOf x = scope.names.lookup x := by show env.scope.names.lookup x = _; rw [e1]
        by_cases hip : i < ps.length
        · rw [List.getElem?_append_left hip] at a1
          have hiv : i < vs.length := by rw [hlv]; exact hip
          have hv : vs[i]? = some vs[i] := List.getElem?_eq_getElem hiv
          have hg : getL (args ++ List.replicate rest.length .unb) i = abs vs[i] := getL_args _ (by rw [← hvs, List.getElem?_map, hv]; rfl)
          obtain ⟨b1, b2⟩ := bind_at env.kindOf ps vs (fun _ => none) i x vs[i] (List.nodup_append.mp hnd).1 a1 hv
          rcases hx with hx | hx
          · exact ⟨some vs[i], .inl ⟨by rw [hk]; exact hx, _, B.toInCall.ns, b1 (by rw [hk]; exact hx)⟩, .inr ⟨_, rfl, hg.symm⟩⟩
          · obtain ⟨c, hc⟩ := hcells x hx
            have hc' : env.cells.lookup x = some c := by rw [e3]; exact hc
            exact ⟨some vs[i], .inr ⟨by rw [hk]; exact hx, c, hc', b2 (by rw [hk, hx]; simp) ▸ B.cell x c hc'⟩, .inr ⟨_, rfl, hg.symm⟩⟩
        · have hg : getL (args ++ List.replicate rest.length .unb) i = .unb := getL_unb _ (by rw [hlen]; exact Nat.le_of_not_lt hip)
          rcases hx with hx | hx
          · exact ⟨_, .inl ⟨by rw [hk]; exact hx, _, B.toInCall.ns, rfl⟩, .inl hg⟩
          · obtain ⟨c, hc⟩ := hcells x hx
            have hc' : env.cells.lookup x = some c := by rw [e3]; exact hc
            exact ⟨_, .inr ⟨by rw [hk]; exact hx, c, hc', B.cell x c hc'⟩, .inl hg⟩
      · obtain ⟨ob, e'⟩ := (S.hr a o e).get
        rw [hownnew a q] at e'; cases e'
    have hA' : AOK (A.deeper env) n := by
      obtain ⟨l, hl⟩ := hA.frames
      refine ⟨⟨hA.handled, by show A.depth + 1 + n < 850; omega, by show A.units + 3 + 16 * n < 9000; omega, ⟨env :: l, by show A.frames.map (env :: ·) = _; rw [hl]; rfl⟩⟩, env, l, by show A.frames.map (env :: ·) = _; rw [hl]; rfl, by rw [e1]; exact D.gen, by rw [e1]; exact D.co, e5, e4⟩
    refine wpAny_mono (sSs (fm := ⟨env, (ps ++ rest).map some⟩) C TO hA' W ms body (by show chkSs T ms env.scope _ body = _; rw [e1]; exact hcomp) _ H _ s' _ _ S' h) (fun fl s₁ q => ?_) fun _ _ e => e
    obtain ⟨H₁, μ₁, S₁, k₁, h₁⟩ := q
    have kk : ∀ H₂, LE H₂ H₁ → KE s H s₁ H₂ := fun H₂ le => by
      have k2 := k₁.le le
      have hno : ∀ b o, s.heap.get? b = some o → ¬ (⟨env, (ps ++ rest).map some⟩ : Fm).own b := fun b o e q => by rw [hownnew b q] at e; cases e
      refine ⟨fun b o e hn _ => k2.keep b o (keep b o e) hn (hno b o e), fun a o e hn _ => k2.dom a o (keep a o e) hn (hno a o e), ?_, ?_⟩
      · rw [k2.os, hs']
      · rw [k2.gens, hs']
    cases fl with
    | next =>
      obtain ⟨H₂, le, hq⟩ := h₁
      exact ⟨.none, H₂, rfl, S₁.toHS.le le, kk H₂ le, hq⟩
    | ret v =>
      obtain ⟨H₂, le, hq⟩ := h₁
      exact ⟨v, H₂, rfl, S₁.toHS.le le, kk H₂ le, hq⟩
    | brk => exact h₁.elim
    | cont => exact h₁.elim
end
end Mine
end

section
namespace Mine
open PySem PyProof.Rows

section
variable {cx : Cx} {n : Nat}

theorem CallP.mono {f : Addr} {args : List V} {H : HP} {Q Q' : V → HP → Prop} (h : CallP cx n f args H Q) (q : ∀ v H, Q v H → Q' v H) : CallP cx n f args H Q' :=
  fun A s vs hA S e => codeAny_mono (h A s vs hA S e) fun _ _ ⟨v, H', a, b, c, d⟩ => ⟨v, H', a, b, c, q _ _ d⟩
theorem new_mono {H : HP} {o : O} {Q Q' : V → HP → Prop} (h : new cx H o Q) (q : ∀ v H, Q v H → Q' v H) : new cx H o Q' := fun r hr => q _ _ (h r hr)
theorem TruthP_mono {v : V} {Q Q' : Bool → Prop} (h : TruthP v Q) (q : ∀ b, Q b → Q' b) : TruthP v Q' := by
  cases v <;> first | exact q _ h | exact False.elim h
theorem binP_mono {op : Operator} {a b : V} {H : HP} {Q Q' : V → HP → Prop} (h : binP cx op a b H Q) (q : ∀ v H, Q v H → Q' v H) : binP cx op a b H Q' := by
  cases op with
  | Add => cases a with
    | int => exact onI_mono h fun _ h => q _ _ h
    | ref => exact onR_mono h fun _ h => onO_mono h fun _ h => onO_mono h fun _ h => ⟨h.1, new_mono h.2 q⟩
    | _ => exact False.elim h
  | Mult => cases a with
    | int => exact onI_mono h fun _ h => ⟨h.1, q _ _ h.2⟩
    | ref => exact onI_mono h fun _ h => onO_mono h fun _ h => ⟨h.1, h.2.1, h.2.2.1, new_mono h.2.2.2 q⟩
    | _ => exact False.elim h
  | Sub => exact onI_mono h fun _ h => onI_mono h fun _ h => q _ _ h
  | FloorDiv => exact onI_mono h fun _ h => onI_mono h fun _ h => ⟨h.1, q _ _ h.2⟩
  | Mod => exact onI_mono h fun _ h => onI_mono h fun _ h => ⟨h.1, q _ _ h.2⟩
  | Pow => exact onI_mono h fun _ h => onI_mono h fun _ h => ⟨h.1, h.2.1, q _ _ h.2.2⟩
  | _ => exact False.elim h
theorem callbP_mono {b : BF} {as : List V} {H : HP} {Q Q' : V → HP → Prop} (h : callbP cx b as H Q) (q : ∀ v H, Q v H → Q' v H) : callbP cx b as H Q' := by
  cases b with
  | len => exact on1_mono h fun _ h => onR_mono h fun _ h => onO_mono h fun _ h => ⟨h.1, q _ _ h.2⟩
  | list => exact on1_mono h fun _ h => onR_mono h fun _ h => onO_mono h fun _ h => ⟨h.1, new_mono h.2 q⟩
  | int => exact on1_mono h fun _ h => TruthP_mono h fun _ h => q _ _ h
  | sum => exact on1_mono h fun _ h => onR_mono h fun _ h => onO_mono h fun _ h => onO_mono h fun _ h => ⟨h.1, q _ _ h.2⟩
  | sorted => exact on1_mono h fun _ h => onR_mono h fun _ h => onO_mono h fun _ h => onO_mono h fun _ h => ⟨h.1, fun l' hp hs => new_mono (h.2 l' hp hs) q⟩
  | max => exact on2_mono h fun _ _ h => onI_mono h fun _ h => onI_mono h fun _ h => q _ _ h
theorem methP_mono {o : V} {m : Mth} {as : List V} {H : HP} {Q Q' : V → HP → Prop} (h : methP o m as H Q) (q : ∀ v H, Q v H → Q' v H) : methP o m as H Q' := by
  cases m with
  | append => exact onR_mono h fun _ h => onHL_mono h fun _ h => on1_mono h fun _ h => ⟨h.1, q _ _ h.2⟩
  | pop => cases as with
    | nil => exact onR_mono h fun _ h => onHL_mono h fun _ h => onO_mono h fun _ h => ⟨h.1, q _ _ h.2⟩
    | cons => exact onR_mono h fun _ h => onHL_mono h fun _ h => False.elim h
theorem CompP_mono {items : List V} {st : HP → Prop} {H : HP} {turn : V → HP → (Option V → HP → Prop) → Prop} {Q Q' : V → HP → Prop} (h : CompP cx items st H turn Q) (q : ∀ v H, Q v H → Q' v H) : CompP cx items st H turn Q' := by
  obtain ⟨a, I, b, c, d, e⟩ := h
  exact ⟨a, I, b, c, d, fun acc H₁ hi => new_mono (e acc H₁ hi) q⟩

mutual
theorem mwpE_mono : ∀ (e : ME) {μ : List V} {H : HP} {Q Q' : V → HP → Prop}, mwpE cx n e μ H Q → (∀ v H, Q v H → Q' v H) → mwpE cx n e μ H Q'
  | .cint _, _, _, _, _, h, q => q _ _ h
  | .cbool _, _, _, _, _, h, q => q _ _ h
  | .cnone, _, _, _, _, h, q => q _ _ h
  | .cstr _, _, _, _, _, h, q => q _ _ h
  | .loc _, _, _, _, _, h, q => ⟨h.1, q _ _ h.2⟩
  | .bin _ l r, _, _, _, _, h, q => mwpE_mono l h fun _ _ h => mwpE_mono r h fun _ _ h => binP_mono h q
  | .not e, _, _, _, _, h, q => mwpE_mono e h fun _ _ h => TruthP_mono h fun _ h => q _ _ h
  | .cmp l _ r, _, _, _, _, h, q => mwpE_mono l h fun _ _ h => mwpE_mono r h fun _ _ h => onO_mono h fun _ h => q _ _ h
  | .bop _ es, _, _, _, _, h, q => mwpB_mono es h q
  | .callf _ as, _, _, _, _, h, q => mwpEs_mono as h fun _ _ h => h.mono q
  | .callb _ as, _, _, _, _, h, q => mwpEs_mono as h fun _ _ h => callbP_mono h q
  | .isi e _, _, _, _, _, h, q => mwpE_mono e h fun _ _ h => onO_mono h fun _ h => q _ _ h
  | .meth o _ as, _, _, _, _, h, q => mwpE_mono o h fun _ _ h => ⟨h.1, mwpEs_mono as h.2 fun _ _ h => methP_mono h q⟩
  | .sub o i, _, _, _, _, h, q => mwpE_mono o h fun _ _ h => mwpE_mono i h fun _ _ h => onR_mono h fun _ h => onI_mono h fun _ h => onO_mono h fun _ h => ⟨h.1, h.2.1, onO_mono h.2.2 fun _ h => q _ _ h⟩
  | .slice o l u, _, _, _, _, h, q => mwpE_mono o h fun _ _ h => mwpE_mono l h fun _ _ h => mwpE_mono u h fun _ _ h => onR_mono h fun _ h => onO_mono h fun _ h => onO_mono h fun _ h => onO_mono h fun _ h => ⟨h.1, new_mono h.2 q⟩
  | .list es, _, _, _, _, h, q => mwpEs_mono es h fun _ _ h => ⟨h.1, new_mono h.2 q⟩
  | .tup es, _, _, _, _, h, q => mwpEs_mono es h fun _ _ h => ⟨h.1, new_mono h.2 q⟩
  | .comp _ it _, _, _, _, _, h, q => mwpE_mono it h fun _ _ h => onR_mono h fun _ h => onHL_mono h fun _ h => ⟨h.1, CompP_mono h.2 q⟩
  | .compR _ a b _, _, _, _, _, h, q => mwpE_mono a h fun _ _ h => mwpE_mono b h fun _ _ h => onI_mono h fun _ h => onI_mono h fun _ h => ⟨h.1, h.2.1, CompP_mono h.2.2 q⟩
theorem mwpEs_mono : ∀ (es : MEs) {μ : List V} {H : HP} {Q Q' : List V → HP → Prop}, mwpEs cx n es μ H Q → (∀ v H, Q v H → Q' v H) → mwpEs cx n es μ H Q'
  | .nil, _, _, _, _, h, q => q _ _ h
  | .cons e es, _, _, _, _, h, q => mwpE_mono e h fun _ _ h => mwpEs_mono es h fun _ _ h => q _ _ h
theorem mwpB_mono {op : BoolOp} : ∀ (es : MEs) {μ : List V} {H : HP} {Q Q' : V → HP → Prop}, mwpB cx n op es μ H Q → (∀ v H, Q v H → Q' v H) → mwpB cx n op es μ H Q'
  | .nil, _, _, _, _, h, _ => False.elim h
  | .cons e .nil, _, _, _, _, h, q => mwpE_mono e h q
  | .cons e (.cons e' es), _, _, _, _, h, q => mwpE_mono e h fun _ _ h => TruthP_mono h fun _ h => ⟨fun b => mwpB_mono (.cons e' es) (h.1 b) q, fun b => q _ _ (h.2 b)⟩
end
theorem ForP_mono {items : List V} {st : HP → Prop} {μ : List V} {H : HP} {turn turn' : V → List V → HP → (List V → HP → Prop) → Prop} {N N' : List V → HP → Prop} (h : ForP items st μ H turn N)
    (ht : ∀ x μ H K, turn x μ H K → turn' x μ H K) (q : ∀ v H, N v H → N' v H) : ForP items st μ H turn' N' := by
  obtain ⟨I, b, c, d, e⟩ := h
  exact ⟨I, b, c, fun done x rest μ H hi hI => ht _ _ _ _ (d done x rest μ H hi hI), fun μ H hI => q _ _ (e μ H hI)⟩

mutual
theorem mwpS_mono : ∀ (s : MS) {μ : List V} {H : HP} {N N' : List V → HP → Prop} {R R' : V → HP → Prop}, mwpS cx n s μ H N R → (∀ v H, N v H → N' v H) → (∀ v H, R v H → R' v H) → mwpS cx n s μ H N' R'
  | .assign _ e, _, _, _, _, _, _, h, q, _ => mwpE_mono e h fun _ _ h => q _ _ h
  | .setSub o i v, _, _, _, _, _, _, h, q, _ => mwpE_mono v h fun _ _ h => mwpE_mono o h fun _ _ h => mwpE_mono i h fun _ _ h => onR_mono h fun _ h => onI_mono h fun _ h => onHL_mono h fun _ h => ⟨h.1, h.2.1, h.2.2.1, q _ _ h.2.2.2⟩
  | .expr e, _, _, _, _, _, _, h, q, _ => mwpE_mono e h fun _ _ h => q _ _ h
  | .ite c t e, _, _, _, _, _, _, h, q, r => mwpE_mono c h fun _ _ h => TruthP_mono h fun _ h => ⟨fun b => mwpSs_mono t (h.1 b) q r, fun b => mwpSs_mono e (h.2 b) q r⟩
  | .for_ _ it body, _, _, _, _, _, _, h, q, r => mwpE_mono it h fun _ _ h => onR_mono h fun _ h => onHL_mono h fun _ h => ⟨h.1, ForP_mono h.2 (fun _ _ _ _ h => mwpSs_mono body h (fun _ _ h => h) r) q⟩
  | .forR _ a b body, _, _, _, _, _, _, h, q, r => mwpE_mono a h fun _ _ h => mwpE_mono b h fun _ _ h => onI_mono h fun _ h => onI_mono h fun _ h => ⟨h.1, h.2.1, ForP_mono h.2.2 (fun _ _ _ _ h => mwpSs_mono body h (fun _ _ h => h) r) q⟩
  | .while_ c body, _, _, _, _, _, _, h, q, r =>
    let ⟨I, h0, h1⟩ := h
    ⟨I, h0, fun k μ H hI => mwpE_mono c (h1 k μ H hI) fun _ _ h => TruthP_mono h fun _ h => ⟨fun b => mwpSs_mono body (h.1 b) (fun _ _ h => h) r, fun b => q _ _ (h.2 b)⟩⟩
  | .ret e, _, _, _, _, _, _, h, _, r => mwpE_mono e h r
theorem mwpSs_mono : ∀ (s : MSs) {μ : List V} {H : HP} {N N' : List V → HP → Prop} {R R' : V → HP → Prop}, mwpSs cx n s μ H N R → (∀ v H, N v H → N' v H) → (∀ v H, R v H → R' v H) → mwpSs cx n s μ H N' R'
  | .nil, _, _, _, _, _, _, h, q, _ => q _ _ h
  | .cons s r, _, _, _, _, _, _, h, q, rr => mwpS_mono s h (fun _ _ h => mwpSs_mono r h q rr) rr
end

theorem S_cons {s : MS} {r : MSs} {μ : List V} {H : HP} {N : List V → HP → Prop} {R : V → HP → Prop} (h : mwpS cx n s μ H (fun μ H => mwpSs cx n r μ H N R) R) : mwpSs cx n (.cons s r) μ H N R := h
theorem S_nil {μ : List V} {H : HP} {N : List V → HP → Prop} {R : V → HP → Prop} (h : N μ H) : mwpSs cx n .nil μ H N R := h
theorem S_cut {s : MS} {r : MSs} {μ : List V} {H : HP} {N : List V → HP → Prop} {R : V → HP → Prop} (P : List V → HP → Prop) (h : mwpS cx n s μ H P R) (h2 : ∀ μ' H', P μ' H' → mwpSs cx n r μ' H' N R) : mwpSs cx n (.cons s r) μ H N R :=
  mwpS_mono s h h2 fun _ _ h => h
end
end Mine
end

namespace Mine
open PySem PyProof.Rows

section
variable {cx : Cx} {H H' : HP} {n : Nat} {a r : Addr} {o : O} {Q : V → HP → Prop}

theorem lk_same : lk cx (upd H r o) r = some o := by simp [lk, upd_same]
theorem lk_ne (h : a ≠ r) : lk cx (upd H r o) a = lk cx H a := by simp [lk, upd_ne _ h]
theorem Fresh.lk_none (hr : Fresh cx H r) : lk cx H r = none := by simp [lk, hr.1, hr.2.2]
theorem Fresh.ne (hr : Fresh cx H r) {o : O} (h : lk cx H a = some o) : a ≠ r := fun e => by subst e; rw [hr.lk_none] at h; cases h
theorem Fresh.ne' (hr : Fresh cx H r) {o : O} (h : H a = some o) : a ≠ r := fun e => by subst e; rw [hr.1] at h; cases h
theorem lk_fresh (hr : Fresh cx H r) {o' : O} (h : lk cx H a = some o') : lk cx (upd H r o) a = some o' := by rw [lk_ne (hr.ne h)]; exact h
theorem lk_of (h : H a = some o) : lk cx H a = some o := by simp [lk, h]

noncomputable def RQ (Q : V → HP → Prop) : V → HP → Prop := fun v H' => ∃ H₂, LE H₂ H' ∧ Q v H₂
noncomputable def NQ (Q : V → HP → Prop) : List V → HP → Prop := fun _ H' => ∃ H₂, LE H₂ H' ∧ Q .none H₂
theorem RQ.here {v : V} (h : Q v H) : RQ Q v H := ⟨H, LE.refl H, h⟩

noncomputable def m_told_by : MSs :=
  (.cons (.ret (.bin .FloorDiv (.loc 0) (.cint (2))))
  .nil)
noncomputable def m_law_at : MSs :=
  (.cons (.ret (.sub (.bin .Add (.slice (.loc 0) (.loc 1) (.bin .Add (.loc 1) (.cint (1)))) (.list (.cons (.cint (0)) .nil))) (.cint (0))))
  .nil)

noncomputable def m_law_is_int : MSs :=
  (.cons (.ret (.bop .And (.cons (.isi (.loc 0) "int") (.cons (.cmp (.loc 0) .IsNot (.cbool true)) (.cons (.cmp (.loc 0) .IsNot (.cbool false)) .nil)))))
  .nil)

noncomputable def m_law_words_are : MSs :=
  (.cons (.ite (.bop .Or (.cons (.not (.isi (.loc 0) "list")) (.cons (.cmp (.callb .len (.cons (.loc 0) .nil)) .NotEq (.callb .len (.cons (.loc 1) .nil))) .nil))) (.cons (.ret (.cbool false))
    .nil) .nil)
  (.cons (.ret (.cmp (.callb .len (.cons (.compR (.loc 2) (.cint (0)) (.callb .len (.cons (.loc 1) .nil)) (.bop .Or (.cons (.not (.callf 84 (.cons (.sub (.loc 0) (.loc 2)) .nil))) (.cons (.cmp (.sub (.loc 0) (.loc 2)) .NotEq (.sub (.loc 1) (.loc 2))) .nil)))) .nil)) .Eq (.cint (0))))
  .nil))

noncomputable def m_law_number : MSs :=
  (.cons (.ite (.cmp (.bin .Mod (.loc 0) (.cint (5))) .Lt (.cint (3))) (.cons (.ret (.bin .Sub (.bin .Mod (.bin .FloorDiv (.loc 0) (.cint (5))) (.cint (41))) (.cint (20))))
    .nil) .nil)
  (.cons (.ite (.cmp (.bin .Mod (.loc 0) (.cint (5))) .Eq (.cint (3))) (.cons (.ret (.sub (.list (.cons (.bin .Sub (.bin .Pow (.cint (10)) (.cint (60))) (.cint (1))) (.cons (.bin .Sub (.cint (1)) (.bin .Pow (.cint (10)) (.cint (60)))) (.cons (.bin .Pow (.cint (10)) (.cint (30))) (.cons (.cint (0)) .nil))))) (.bin .Mod (.bin .FloorDiv (.loc 0) (.cint (5))) (.cint (4)))))
    .nil) .nil)
  (.cons (.ret (.bin .Sub (.bin .Mod (.bin .Mult (.bin .FloorDiv (.loc 0) (.cint (5))) (.bin .Pow (.cint (48271)) (.cint (12)))) (.bin .Sub (.bin .Mult (.cint (2)) (.bin .Pow (.cint (10)) (.cint (60)))) (.cint (1)))) (.bin .Sub (.bin .Pow (.cint (10)) (.cint (60))) (.cint (1)))))
  .nil)))


theorem bopAA : (BoolOp.And == BoolOp.And) = true := rfl
theorem bopAO : (BoolOp.And == BoolOp.Or) = false := rfl
theorem bopOA : (BoolOp.Or == BoolOp.And) = false := rfl
theorem bopOO : (BoolOp.Or == BoolOp.Or) = true := rfl
section
variable (a b : Int) (x y : Addr) (u v : Bool) (s t : Str) (w l h : V)

theorem bin_add : binP cx .Add (.int a) (.int b) H Q = Q (.int (a + b)) H := rfl
theorem bin_sub : binP cx .Sub (.int a) (.int b) H Q = Q (.int (a - b)) H := rfl
theorem bin_mul : binP cx .Mult (.int a) (.int b) H Q = (IntMulOk a b ∧ Q (.int (a * b)) H) := rfl
theorem bin_div : binP cx .FloorDiv (.int a) (.int b) H Q = (b ≠ 0 ∧ Q (.int (a.fdiv b)) H) := rfl
theorem bin_mod : binP cx .Mod (.int a) (.int b) H Q = (b ≠ 0 ∧ Q (.int (a.fmod b)) H) := rfl
theorem bin_pow : binP cx .Pow (.int a) (.int b) H Q = (0 ≤ b ∧ (Builtin.Int.intBits a : Int) * b ≤ 2 ^ 27 ∧ Q (.int (a ^ b.toNat)) H) := rfl
theorem bin_cat : binP cx .Add (.ref x) (.ref y) H Q = onO (lst cx H x) fun xs => onO (lst cx H y) fun ys => xs.length + ys.length ≤ 16777216 ∧ new cx H (.list (xs ++ ys)) Q := rfl
theorem bin_rep : binP cx .Mult (.ref x) (.int a) H Q = onO (lst cx H x) fun xs => -16777216 < a ∧ a < 16777216 ∧ xs.length * a.toNat ≤ 16777216 ∧ new cx H (.list (List.replicate a.toNat xs).flatten) Q := rfl
theorem cm_lt : cmpP cx .Lt (.int a) (.int b) H = some (decide (a < b)) := rfl
theorem cm_gt : cmpP cx .Gt (.int a) (.int b) H = some (decide (b < a)) := rfl
theorem cm_eq : cmpP cx .Eq (.int a) (.int b) H = some (a == b) := rfl
theorem cm_ne : cmpP cx .NotEq (.int a) (.int b) H = some (a != b) := rfl
theorem cm_eqs : cmpP cx .Eq (.str s) (.str t) H = some (s == t) := rfl
theorem cm_is2 : cmpP cx .IsNot (.int a) (.bool v) H = some true := rfl
theorem cm_ni : cmpP cx .NotIn (.int a) (.ref x) H = (sq cx H x).bind fun vs => (asInts vs).map fun l => !l.contains a := rfl
theorem is_ii : isiP H (.int a) "int" = some true := rfl
theorem is_rl : isiP H (.ref x) "list" = (match H x with | some (.list _) => some true | some (.tup _) => none | _ => none) := rfl
theorem is_rt : isiP H (.ref x) "tuple" = (match H x with | some (.list _) => none | some (.tup _) => some true | _ => none) := rfl
theorem tr_b (P : Bool → Prop) : TruthP (.bool u) P = P u := rfl
theorem rn_i (P : List V → Prop) : RngP (.int a) (.int b) P = ((-1152921504606846976 < a ∧ a < 1152921504606846976) ∧ (-1152921504606846976 < b ∧ b < 1152921504606846976) ∧ P (intsV (rangeL a b))) := rfl
theorem cb_len : callbP cx .len [.ref x] H Q = onO (sq cx H x) fun vs => vs.length ≤ 16777216 ∧ Q (.int vs.length) H := rfl
theorem cb_list : callbP cx .list [.ref x] H Q = onO (sq cx H x) fun vs => vs.length ≤ 16777216 ∧ new cx H (.list vs) Q := rfl
theorem cb_int : callbP cx .int [.bool u] H Q = Q (.int (if u then 1 else 0)) H := rfl
theorem cb_sum : callbP cx .sum [.ref x] H Q = onO (lst cx H x) fun vs => onO (asInts vs) fun l => PySem.SumFits l ∧ Q (.int l.sum) H := rfl
theorem cb_sorted : callbP cx .sorted [.ref x] H Q = onO (lst cx H x) fun vs => onO (asInts vs) fun l => (l.length < 64 ∨ ∃ m, 64 ≤ m ∧ m < 128 ∧ l = shapeL m) ∧ ∀ l' : List Int, l'.Perm l → l'.Pairwise (· ≤ ·) → new cx H (.list (intsV l')) Q := rfl
theorem cb_max : callbP cx .max [.int a, .int b] H Q = Q (.int (if b > a then b else a)) H := rfl
theorem mt_app : methP (.ref x) .append [w] H Q = onHL (H x) fun vs => vs.length ≤ 16777216 ∧ Q .none (upd H x (.list (vs ++ [w]))) := rfl
theorem mt_pop : methP (.ref x) .pop [] H Q = onHL (H x) fun vs => onO vs.getLast? fun v => vs.length ≤ 16777216 ∧ Q v (upd H x (.list vs.dropLast)) := rfl
theorem la_r : listAt (.ref x) H = onHL (H x) fun _ => True := rfl
theorem su_i : subP cx (.ref x) (.int a) H Q = onO (sq cx H x) fun vs => 0 ≤ a ∧ vs.length ≤ 16777216 ∧ onO vs[a.toNat]? fun v => Q v H := rfl
theorem sl_i : sliceP cx (.ref x) l h H Q = onO (lst cx H x) fun vs => onO (cutLo vs.length l) fun l => onO (cutHi vs.length h) fun h => vs.length ≤ 16777216 ∧ new cx H (.list (cut vs l h)) Q := rfl
theorem sb_i (P : HP → Prop) : setSubP (.ref x) (.int a) w H P = onHL (H x) fun vs => 0 ≤ a ∧ vs.length ≤ 16777216 ∧ a.toNat < vs.length ∧ P (upd H x (.list (vs.set a.toNat w))) := rfl
theorem it_r (P : List V → (HP → Prop) → HP → Prop) : IterP cx (.ref x) H P = onHL (lk cx H x) fun vs => vs.length ≤ 16777216 ∧ P vs (fun H' => lk cx H' x = some (.list vs)) H := rfl
end


end
end Mine
local macro_rules | `(tactic| walk_at "st") => `(tactic| ((try dsimp only [Mine.e_cint, Mine.e_cbool, Mine.e_cnone, Mine.e_cstr, Mine.e_loc, Mine.e_bin, Mine.e_not, Mine.e_cmp, Mine.e_bop, Mine.e_callf, Mine.e_callb, Mine.e_isi, Mine.e_meth, Mine.e_sub, Mine.e_slice, Mine.e_list, Mine.e_tup, Mine.e_comp, Mine.e_compR, Mine.es_nil, Mine.es_cons, Mine.b_one, Mine.b_more, Mine.s_assign, Mine.s_setSub, Mine.s_expr, Mine.s_ite, Mine.s_for, Mine.s_forR, Mine.s_ret, Mine.getL, Mine.setL, Mine.bin_add, Mine.bin_sub, Mine.bin_mul, Mine.bin_div, Mine.bin_mod, Mine.bin_pow, Mine.bin_cat, Mine.bin_rep, Mine.cm_lt, Mine.cm_gt, Mine.cm_eq, Mine.cm_ne, Mine.cm_eqs, Mine.cm_is2, Mine.cm_ni, Mine.is_ii, Mine.is_rl, Mine.is_rt, Mine.tr_b, Mine.rn_i, Mine.cb_len, Mine.cb_list, Mine.cb_int, Mine.cb_sum, Mine.cb_sorted, Mine.cb_max, Mine.mt_app, Mine.mt_pop, Mine.la_r, Mine.su_i, Mine.sl_i, Mine.sb_i, Mine.it_r, Mine.onO, Mine.onHL, Mine.sq, Mine.lst, Mine.new, List.cons_append, List.nil_append, Mine.bopAA, Mine.bopAO, Mine.bopOA, Mine.bopOO, Bool.not_true, Bool.not_false]); (try simp only [ne_eq, reduceCtorEq, not_false_eq_true, true_and, and_true, Bool.false_eq_true, Bool.true_eq_false, false_implies, true_implies, forall_const, implies_true, bne_self_eq_false, beq_self_eq_true, Bool.not_true, Bool.not_false])))
namespace Mine
open PySem PyProof.Rows
section
variable (a b : Int) (x y : Addr) (u v : Bool) (s t : Str) (w l h : V)

theorem told_ms {w : Int} (h : Q (.int (w.fdiv 2)) H) : mwpSs cx n m_told_by [.int w] H (NQ Q) (RQ Q) := by
  refine S_cons ?_
  walk_at "st"
  exact ⟨by decide, RQ.here h⟩
theorem mulOk_l {a b : Int} (h : Builtin.Int.intBits a ≤ 64) : IntMulOk a b := by
  unfold IntMulOk
  have : decide (Builtin.Int.intBits a > shortFactorBits) = false := decide_eq_false (by unfold shortFactorBits; omega)
  rw [this]; simp
theorem mulOk_r {a b : Int} (h : Builtin.Int.intBits b ≤ 64) : IntMulOk a b := by
  unfold IntMulOk
  have : decide (Builtin.Int.intBits b > shortFactorBits) = false := decide_eq_false (by unfold shortFactorBits; omega)
  rw [this]; simp
theorem ints_length (xs : List Int) : (intsV xs).length = xs.length := by simp [intsV]
theorem ints_get? (xs : List Int) (i : Nat) : (intsV xs)[i]? = xs[i]?.map V.int := by simp [intsV]
theorem ints_set (xs : List Int) (i : Nat) (v : Int) : (intsV xs).set i (.int v) = intsV (xs.set i v) := by simp [intsV, List.map_set]

theorem cutLo_nn {m : Nat} {i : Int} (h : 0 ≤ i) : cutLo m (.int i) = some (min i.toNat m) := if_pos h
theorem cutHi_nn {m : Nat} {i : Int} (h : 0 ≤ i) : cutHi m (.int i) = some (min i.toNat m) := if_pos h
theorem cut_length_le (vs : List V) (l h : Nat) : (cut vs l h).length ≤ vs.length := by simp [cut]; first | lia | omega
theorem cut_ints (xs : List Int) (l h : Nat) : cut (intsV xs) l h = intsV ((xs.take h).drop l) := by simp [cut, intsV]
theorem ints_append (xs ys : List Int) : intsV xs ++ intsV ys = intsV (xs ++ ys) := by simp [intsV]

theorem at_ms {sa : Addr} {ns : List Int} {p : Int} (hs : lk cx H sa = some (.list (intsV ns))) (hlen : ns.length ≤ 1000) (hp : 0 ≤ p)
    (hQ : ∀ v, (v ∈ ns ∨ v = 0) → Q (.int v) H) : mwpSs cx n m_law_at [.ref sa, .int p] H (NQ Q) (RQ Q) := by
  refine S_cons ?_
  walk_at "st"
  simp only [hs, ints_length, cutLo_nn hp, cutHi_nn (show 0 ≤ p + 1 from by first | with_reducible exact Int.natCast_nonneg _ | with_reducible assumption | lia | omega)]
  have hcl := cut_length_le (intsV ns) (min p.toNat ns.length) (min (p + 1).toNat ns.length)
  rw [ints_length] at hcl
  refine ⟨by first | with_reducible exact Int.natCast_nonneg _ | with_reducible assumption | lia | omega, fun r hr => ⟨by simp, fun r2 hr2 => ?_⟩⟩
  have hne : r ≠ r2 := hr2.ne lk_same
  simp only [lk_same, lk_ne hne]
  refine ⟨by simp; omega, fun r3 hr3 => ?_⟩
  refine ⟨by decide, by simp; omega, ?_⟩
  have key : ∃ v, (v ∈ ns ∨ v = 0) ∧ (cut (intsV ns) (min p.toNat ns.length) (min (p + 1).toNat ns.length) ++ [V.int 0])[(0 : Int).toNat]? = some (.int v) := by
    rw [cut_ints, show [V.int 0] = intsV [0] from rfl, ints_append]
    generalize hl : ((ns.take (min (p + 1).toNat ns.length)).drop (min p.toNat ns.length)) = l
    cases l with
    | nil => exact ⟨0, .inr rfl, rfl⟩
    | cons v l =>
      refine ⟨v, .inl ?_, rfl⟩
      have : v ∈ (ns.take (min (p + 1).toNat ns.length)).drop (min p.toNat ns.length) := by rw [hl]; exact List.mem_cons_self
      exact List.mem_of_mem_take (List.mem_of_mem_drop this)
  obtain ⟨v, hv, e⟩ := key
  rw [e]
  exact ⟨H, (LE.fresh hr.1 _).trans ((LE.fresh hr2.1 _).trans (LE.fresh hr3.1 _)), hQ v hv⟩

theorem isint_ms {v : Int} (h : Q (.bool true) H) : mwpSs cx n m_law_is_int [.int v] H (NQ Q) (RQ Q) := by
  refine S_cons ?_
  walk_at "st"
  exact RQ.here h

theorem words_ms {fa da : Addr} {xs : List Int} (hi : ∀ v H Q, Q (.bool true) H → CallP cx n 84 [.int v] H Q) (hf : H fa = some (.list (intsV xs))) (hd : lk cx H da = some (.list (intsV xs))) (hlen : xs.length ≤ 1000)
    (hQ : Q (.bool true) H) : mwpSs cx n m_law_words_are [.ref fa, .ref da] H (NQ Q) (RQ Q) := by
  have hf' : lk cx H fa = some (.list (intsV xs)) := lk_of hf
  refine S_cons ?_
  walk_at "st"
  simp only [hf, hf', hd, ints_length]
  walk_at "st"
  refine ⟨by first | with_reducible exact Int.natCast_nonneg _ | with_reducible assumption | lia | omega, by first | with_reducible exact Int.natCast_nonneg _ | with_reducible assumption | lia | omega, S_nil (S_cons ?_)⟩
  walk_at "st"
  simp only [hd, ints_length]
  refine ⟨by first | with_reducible exact Int.natCast_nonneg _ | with_reducible assumption | lia | omega, by first | with_reducible exact Int.natCast_nonneg _ | with_reducible assumption | lia | omega, by first | with_reducible exact Int.natCast_nonneg _ | with_reducible assumption | lia | omega, ?_⟩
  refine ⟨by simp [intsV, rangeL]; omega, fun _ acc H₁ => acc = [] ∧ H₁ = H, ⟨rfl, rfl⟩, fun _ _ _ _ => trivial, ?_, ?_⟩
  · rintro done x rest acc H₁ hitems ⟨rfl, rfl⟩
    obtain ⟨i, rfl, hi2⟩ : ∃ i : Nat, x = .int i ∧ i < xs.length := by
      have hx : (intsV (rangeL 0 xs.length))[done.length]? = some x := by rw [hitems]; simp
      obtain ⟨rfl, h⟩ := rangeL_get hx
      exact ⟨done.length, by simp, by first | with_reducible exact Int.natCast_nonneg _ | with_reducible assumption | lia | omega⟩
    walk_at "st"
    simp only [hf', hd, ints_length, ints_get?, Int.toNat_natCast, List.getElem?_eq_getElem hi2, Option.map_some]
    refine ⟨by first | with_reducible exact Int.natCast_nonneg _ | with_reducible assumption | lia | omega, by first | with_reducible exact Int.natCast_nonneg _ | with_reducible assumption | lia | omega, hi _ _ _ ?_⟩
    walk_at "st"
    simp only [hf', hd, ints_length, ints_get?, Int.toNat_natCast, List.getElem?_eq_getElem hi2, Option.map_some]
    walk_at "st"
    exact ⟨by first | with_reducible exact Int.natCast_nonneg _ | with_reducible assumption | lia | omega, by first | with_reducible exact Int.natCast_nonneg _ | with_reducible assumption | lia | omega, by first | with_reducible exact Int.natCast_nonneg _ | with_reducible assumption | lia | omega, by first | with_reducible exact Int.natCast_nonneg _ | with_reducible assumption | lia | omega, H₁, LE.refl _, by simp⟩
  · rintro acc H₁ ⟨rfl, rfl⟩ r hr
    walk_at "st"
    simp only [lk_same]
    exact ⟨by simp, H₁, LE.fresh hr.1 _, hQ⟩

theorem bits_of {v : Int} {m k : Nat} (h : v.natAbs < 2 ^ k) (hk : k ≤ m) : Builtin.Int.intBits v ≤ m := Nat.le_trans (intBits_le_iff.mpr h) hk
theorem fmod_pos_bounds (a : Int) {b : Int} (hb : 0 < b) : 0 ≤ a.fmod b ∧ a.fmod b < b := ⟨Int.fmod_nonneg_of_pos a hb, Int.fmod_lt_of_pos a hb⟩

theorem number_ms {seed : Int} (hb : Builtin.Int.intBits seed ≤ 3000000) (hQ : ∀ v, Builtin.Int.intBits v ≤ 300 → Q (.int v) H) : mwpSs cx n m_law_number [.int seed] H (NQ Q) (RQ Q) := by
  refine S_cons ?_
  walk_at "st"
  refine ⟨by decide, fun h1 => S_cons ?_, fun h1 => S_nil (S_cons ?_)⟩
  · walk_at "st"
    refine ⟨by decide, by decide, RQ.here (hQ _ ?_)⟩
    have := fmod_pos_bounds (seed.fdiv 5) (b := 41) (by decide)
    exact bits_of (k := 7) (by omega) (by decide)
  · walk_at "st"
    refine ⟨by decide, fun h2 => S_cons ?_, fun h2 => S_nil (S_cons ?_)⟩
    · walk_at "st"
      refine ⟨by decide, by decide, by decide, by decide, by decide, by decide, by simp, fun r hr => ⟨by decide, by decide, ?_⟩⟩
      simp only [lk_same]
      obtain ⟨b1, b2⟩ := fmod_pos_bounds (seed.fdiv 5) (b := 4) (by decide)
      generalize (seed.fdiv 5).fmod 4 = i at b1 b2 ⊢
      refine ⟨b1, by simp, ?_⟩
      have fin : ∀ v, Builtin.Int.intBits v ≤ 300 → RQ Q (.int v) (upd H r (.list [V.int (10 ^ Int.toNat 60 - 1), V.int (1 - 10 ^ Int.toNat 60), V.int (10 ^ Int.toNat 30), V.int 0])) := fun v hv => ⟨H, LE.fresh hr.1 _, hQ v hv⟩
      obtain rfl | rfl | rfl | rfl : i = 0 ∨ i = 1 ∨ i = 2 ∨ i = 3 := by first | with_reducible exact Int.natCast_nonneg _ | with_reducible assumption | lia | omega
      · exact fin _ (by decide +kernel)
      · exact fin _ (by decide +kernel)
      · exact fin _ (by decide +kernel)
      · exact fin _ (by decide +kernel)
    · walk_at "st"
      refine ⟨by decide, by decide, by decide, ?_, by decide, by decide, ?_, ?_, by decide, by decide, RQ.here (hQ _ ?_)⟩
      · exact IntMulOk.of_le (intBits_fdiv_le hb) (show Builtin.Int.intBits (48271 ^ Int.toNat 12) ≤ 300 by decide +kernel) (by decide)
      · exact mulOk_l (by decide)
      · decide +kernel
      · have hm : (0 : Int) < 2 * 10 ^ Int.toNat 60 - 1 := by decide +kernel
        have := fmod_pos_bounds (seed.fdiv 5 * 48271 ^ Int.toNat 12) hm
        generalize (seed.fdiv 5 * 48271 ^ Int.toNat 12).fmod (2 * 10 ^ Int.toNat 60 - 1) = w at this
        have e : (10 : Int) ^ Int.toNat 60 = 1000000000000000000000000000000000000000000000000000000000000 := by decide +kernel
        rw [e] at this ⊢
        exact bits_of (k := 201) (by omega) (by decide)
end
end Mine

section
namespace Mine
open PySem PyProof.Rows

section
variable {cx : Cx} {H H' : HP} {n : Nat} {a r : Addr} {o : O} {Q : V → HP → Prop}
noncomputable def m_number_word : MSs :=
  (.cons (.ret (.bin .Mult (.cint (2)) (.loc 0)))
  .nil)
noncomputable def m_head_word : MSs :=
  (.cons (.ite (.loc 1) (.cons (.ret (.bin .Add (.bin .Mult (.cint (4)) (.loc 0)) (.cint (2))))
    .nil) .nil)
  (.cons (.ret (.bin .Mult (.cint (4)) (.loc 0)))
  .nil))
noncomputable def m_is_link : MSs :=
  (.cons (.ret (.cmp (.bin .Mod (.loc 0) (.cint (2))) .Eq (.cint (1))))
  .nil)
noncomputable def m_fields_of : MSs :=
  (.cons (.ret (.bin .FloorDiv (.loc 0) (.cint (4))))
  .nil)
noncomputable def m_is_marked : MSs :=
  (.cons (.ret (.cmp (.bin .Mod (.bin .FloorDiv (.loc 0) (.cint (2))) (.cint (2))) .Eq (.cint (1))))
  .nil)
theorem numw_ms {p : Int} (h : Q (.int (2 * p)) H) : mwpSs cx n m_number_word [.int p] H (NQ Q) (RQ Q) := by
  refine S_cons ?_
  walk_at "st"
  exact ⟨mulOk_l (by decide), RQ.here h⟩
theorem headw_ms {p : Int} {b : Bool} (h : Q (.int (4 * p + 2 * (if b then 1 else 0))) H) : mwpSs cx n m_head_word [.int p, .bool b] H (NQ Q) (RQ Q) := by
  refine S_cons ?_
  walk_at "st"
  refine ⟨fun e => S_cons ?_, fun e => S_nil (S_cons ?_)⟩
  · walk_at "st"
    subst e
    exact ⟨mulOk_l (by decide), RQ.here h⟩
  · walk_at "st"
    subst e
    refine ⟨mulOk_l (by decide), RQ.here ?_⟩
    simpa using h
theorem islink_ms {w : Int} (h : Q (.bool (w.fmod 2 == 1)) H) : mwpSs cx n m_is_link [.int w] H (NQ Q) (RQ Q) := by
  refine S_cons ?_
  walk_at "st"
  exact ⟨by decide, RQ.here h⟩
theorem fields_ms {w : Int} (h : Q (.int (w.fdiv 4)) H) : mwpSs cx n m_fields_of [.int w] H (NQ Q) (RQ Q) := by
  refine S_cons ?_
  walk_at "st"
  exact ⟨by decide, RQ.here h⟩
theorem ismarked_ms {w : Int} (h : Q (.bool ((w.fdiv 2).fmod 2 == 1)) H) : mwpSs cx n m_is_marked [.int w] H (NQ Q) (RQ Q) := by
  refine S_cons ?_
  walk_at "st"
  exact ⟨by decide, by decide, RQ.here h⟩
theorem fdiv2 (a : Int) : a.fdiv 2 = a / 2 := Int.fdiv_eq_ediv_of_nonneg _ (by decide)
theorem fdiv4 (a : Int) : a.fdiv 4 = a / 4 := Int.fdiv_eq_ediv_of_nonneg _ (by decide)
theorem fmod2 (a : Int) : a.fmod 2 = a % 2 := Int.fmod_eq_emod_of_nonneg _ (by decide)

noncomputable def AtSpec (cx : Cx) (n : Nat) (f sa : Addr) (ns : List Int) : Prop := ∀ (p : Int) (H : HP) (Q : V → HP → Prop), lk cx H sa = some (.list (intsV ns)) → 0 ≤ p → (∀ v, Builtin.Int.intBits v ≤ 1048576 → Q (.int v) H) → CallP cx n f [.ref sa, .int p] H Q
noncomputable def NumSpec (cx : Cx) (n : Nat) (f : Addr) : Prop := ∀ (s : Int) (H : HP) (Q : V → HP → Prop), Builtin.Int.intBits s ≤ 3000000 → (∀ v, Builtin.Int.intBits v ≤ 300 → Q (.int v) H) → CallP cx n f [.int s] H Q
noncomputable def WordsSpec (cx : Cx) (n : Nat) (f : Addr) : Prop := ∀ (fa da : Addr) (xs : List Int) (H : HP) (Q : V → HP → Prop), H fa = some (.list (intsV xs)) → lk cx H da = some (.list (intsV xs)) → xs.length ≤ 1000 → Q (.bool true) H → CallP cx n f [.ref fa, .ref da] H Q
noncomputable def Fn1 (cx : Cx) (n : Nat) (f : Addr) (g : Int → V) : Prop := ∀ (w : Int) (H : HP) (Q : V → HP → Prop), Q (g w) H → CallP cx n f [.int w] H Q
end
end Mine
end

section
namespace Mine

noncomputable abbrev Th := Bool × Int
noncomputable abbrev Bx := List (List Th)

noncomputable def pl (B : Bx) (k : Nat) : Nat := ((B.take k).map (fun f => 1 + f.length)).sum
theorem pl_zero (B : Bx) : pl B 0 = 0 := by simp [pl]
theorem pl_nil (k : Nat) : pl [] k = 0 := by simp [pl]
theorem pl_cons (f : List Th) (B : Bx) (k : Nat) : pl (f :: B) (k + 1) = 1 + f.length + pl B k := by simp [pl]
theorem pl_succ : ∀ {B : Bx} {k : Nat} {f : List Th}, B[k]? = some f → pl B (k + 1) = pl B k + 1 + f.length
  | [], _, _, h => by simp at h
  | g :: B, 0, f, h => by
    simp at h; subst h
    rw [pl_cons, pl_zero, pl_zero]; first | lia | omega
  | g :: B, k + 1, f, h => by
    simp at h
    rw [pl_cons, pl_cons, pl_succ h]; first | lia | omega
theorem pl_step (B : Bx) (k : Nat) : pl B k ≤ pl B (k + 1) := by
  cases h : B[k]? with
  | some f => rw [pl_succ h]; first | lia | omega
  | none =>
    have : B.length ≤ k := List.getElem?_eq_none_iff.mp h
    simp [pl, List.take_of_length_le this, List.take_of_length_le (show B.length ≤ k + 1 by first | lia | omega)]
theorem pl_mono {B : Bx} {i j : Nat} (h : i ≤ j) : pl B i ≤ pl B j := by
  induction h with
  | refl => exact Nat.le_refl _
  | step _ ih => exact Nat.le_trans ih (pl_step B _)
theorem pl_lt {B : Bx} {i j : Nat} (hi : i < B.length) (h : i < j) : pl B i < pl B j := by
  have e := pl_succ (List.getElem?_eq_getElem hi)
  have := pl_mono (B := B) (show i + 1 ≤ j from h)
  first | lia | omega
theorem pl_inj {B : Bx} {i j : Nat} (hi : i < B.length) (hj : j < B.length) (h : pl B i = pl B j) : i = j := by
  rcases Nat.lt_trichotomy i j with q | q | q
  · have := pl_lt hi q; first | lia | omega
  · exact q
  · have := pl_lt hj q; first | lia | omega
theorem pl_ne {B : Bx} {k j i : Nat} {f : List Th} (h : B[k]? = some f) (hj : j < f.length) : pl B k + 1 + j ≠ pl B i := by
  intro e
  have e2 := pl_succ h
  rcases Nat.lt_or_ge k i with q | q
  · have := pl_mono (B := B) (show k + 1 ≤ i from q); first | lia | omega
  · have := pl_mono (B := B) q; first | lia | omega

noncomputable def word (g : Nat → Nat) (t : Th) : Int := if t.1 = true then 2 * (g t.2.toNat : Int) + 1 else 2 * t.2
noncomputable def cellsOf (g : Nat → Nat) (f : List Th) : List Int := (4 * (f.length : Int)) :: f.map (word g)
noncomputable def rowOf (g : Nat → Nat) (B : Bx) : List Int := (B.map (cellsOf g)).flatten
theorem rowOf_cons (g : Nat → Nat) (f : List Th) (B : Bx) : rowOf g (f :: B) = cellsOf g f ++ rowOf g B := by simp [rowOf]
theorem cellsOf_length (g : Nat → Nat) (f : List Th) : (cellsOf g f).length = 1 + f.length := by simp [cellsOf]; first | lia | omega
theorem rowOf_length (g : Nat → Nat) : ∀ B : Bx, (rowOf g B).length = pl B B.length
  | [] => by simp [rowOf, pl]
  | f :: B => by rw [rowOf_cons, List.length_append, cellsOf_length, rowOf_length g B, List.length_cons, pl_cons]
theorem rowOf_append (g : Nat → Nat) (B C : Bx) : rowOf g (B ++ C) = rowOf g B ++ rowOf g C := by simp [rowOf]
theorem rowOf_at (g : Nat → Nat) (zs : List Int) : ∀ {B : Bx} {k : Nat} {f : List Th} (j : Nat), B[k]? = some f → j < 1 + f.length → (rowOf g B ++ zs)[pl B k + j]? = (cellsOf g f)[j]?
  | [], _, _, _, h, _ => by simp at h
  | e :: B, 0, f, j, h, hj => by
    simp at h; subst h
    rw [pl_zero, rowOf_cons, List.append_assoc, Nat.zero_add, List.getElem?_append_left (by rw [cellsOf_length]; exact hj)]
  | e :: B, k + 1, f, j, h, hj => by
    simp at h
    rw [pl_cons, rowOf_cons, List.append_assoc, List.getElem?_append_right (by rw [cellsOf_length]; omega), cellsOf_length]
    rw [show 1 + e.length + pl B k + j - (1 + e.length) = pl B k + j from by first | lia | omega]
    exact rowOf_at g zs j h hj
theorem rowOf_head (g : Nat → Nat) (zs : List Int) {B : Bx} {k : Nat} {f : List Th} (h : B[k]? = some f) : (rowOf g B ++ zs)[pl B k]? = some (4 * (f.length : Int)) := by
  have := rowOf_at g zs 0 h (by first | lia | omega)
  simpa [cellsOf] using this
theorem rowOf_field (g : Nat → Nat) (zs : List Int) {B : Bx} {k j : Nat} {f : List Th} {t : Th} (h : B[k]? = some f) (hj : f[j]? = some t) : (rowOf g B ++ zs)[pl B k + 1 + j]? = some (word g t) := by
  have hl : j < f.length := (List.getElem?_eq_some_iff.mp hj).1
  have := rowOf_at g zs (1 + j) h (by first | lia | omega)
  rw [show pl B k + 1 + j = pl B k + (1 + j) from by first | lia | omega, this, Nat.add_comm 1 j]
  simp [cellsOf, hj]

structure Shp (B : Bx) (xs : List Int) : Prop where
  len : xs.length ≤ 1000
  hd : ∀ {k : Nat} {f : List Th}, B[k]? = some f → xs[pl B k]? = some (4 * (f.length : Int))
  fld : ∀ {k j : Nat} {f : List Th} {t : Th}, B[k]? = some f → f[j]? = some t → xs[pl B k + 1 + j]? = some (word (pl B) t)
structure WFB (B : Bx) : Prop where
  pos : 0 < B.length
  tgt : ∀ f ∈ B, ∀ t ∈ f, t.1 = true → ∃ j : Nat, t.2 = (j : Int) ∧ j < B.length
theorem shp_rowOf {B : Bx} {zs : List Int} (h : (rowOf (pl B) B ++ zs).length ≤ 1000) : Shp B (rowOf (pl B) B ++ zs) :=
  ⟨h, fun h => rowOf_head _ _ h, fun h hj => rowOf_field _ _ h hj⟩

inductive Reach (B : Bx) : Nat → Prop
  | zero : Reach B 0
  | step {k j : Nat} {f : List Th} : Reach B k → B[k]? = some f → (true, (j : Int)) ∈ f → Reach B j
theorem Reach.lt {B : Bx} (w : WFB B) {k : Nat} (h : Reach B k) : k < B.length := by
  cases h with
  | zero => exact w.pos
  | step _ hf ht =>
    obtain ⟨j, e, hj⟩ := w.tgt _ (List.mem_of_getElem? hf) _ ht rfl
    have : _ = j := Int.ofNat.inj e
    first | lia | omega

theorem nodup_bound : ∀ (n : Nat) {l : List Nat}, l.Nodup → (∀ k ∈ l, k < n) → l.length ≤ n
  | 0, l, _, h => by
    cases l with
    | nil => simp
    | cons a l => exact absurd (h a List.mem_cons_self) (by first | lia | omega)
  | n + 1, l, hn, h => by
    by_cases q : n ∈ l
    · have h1 := nodup_bound n (l := l.erase n) (hn.erase n) (fun k hk => by
        have h2 := h k (List.mem_of_mem_erase hk)
        have h3 : k ≠ n := fun e => by subst e; exact (List.Nodup.not_mem_erase hn) hk
        omega)
      rw [List.length_erase_of_mem q] at h1
      first | lia | omega
    · have := nodup_bound n hn (fun k hk => by
        have h2 := h k hk
        have h3 : k ≠ n := fun e => by subst e; exact q hk
        omega)
      first | lia | omega

noncomputable def bump (xs : List Int) (cs : List Nat) : List Int := xs.mapIdx fun i x => if i ∈ cs then x + 2 else x
theorem bump_length (xs : List Int) (cs : List Nat) : (bump xs cs).length = xs.length := by simp [bump]
theorem bump_get (xs : List Int) (cs : List Nat) (i : Nat) : (bump xs cs)[i]? = xs[i]?.map fun x => if i ∈ cs then x + 2 else x := by simp [bump]
theorem bump_nil (xs : List Int) : bump xs [] = xs := by
  apply List.ext_getElem?; intro i; rw [bump_get]; simp
theorem bump_congr (xs : List Int) {cs ds : List Nat} (h : ∀ i, i ∈ cs ↔ i ∈ ds) : bump xs cs = bump xs ds := by
  apply List.ext_getElem?; intro i; rw [bump_get, bump_get]; simp [h]
theorem bump_set {xs : List Int} {cs : List Nat} {c : Nat} {x : Int} (hx : xs[c]? = some x) : (bump xs cs).set c (x + 2) = bump xs (c :: cs) := by
  apply List.ext_getElem?; intro i
  rw [List.getElem?_set, bump_get, bump_get, bump_length]
  by_cases h : c = i
  · subst h
    have : c < xs.length := (List.getElem?_eq_some_iff.mp hx).1
    simp [this, (List.getElem?_eq_some_iff.mp hx).2]
  · have : ¬ i = c := fun e => h e.symm
    simp [h, this]

noncomputable def addT (found : List Nat) (t : Th) : List Nat := if t.1 = true ∧ t.2.toNat ∉ found then found ++ [t.2.toNat] else found
noncomputable def aliveTurn (B : Bx) (found : List Nat) (turn : Nat) : List Nat := match found[turn]? with
  | some k => (B.getD k []).foldl addT found
  | none => found
noncomputable def aliveN (B : Bx) (n : Nat) : List Nat := (List.range n).foldl (aliveTurn B) [0]
noncomputable def aliveL (B : Bx) : List Nat := aliveN B B.length
theorem aliveN_succ (B : Bx) (n : Nat) : aliveN B (n + 1) = aliveTurn B (aliveN B n) n := by simp [aliveN, List.range_succ]

theorem addT_pre (l : List Nat) (t : Th) : l <+: addT l t := by
  unfold addT; split
  · exact List.prefix_append _ _
  · exact List.prefix_refl _
theorem fold_pre : ∀ (f : List Th) (l : List Nat), l <+: f.foldl addT l
  | [], l => List.prefix_refl _
  | t :: f, l => (addT_pre l t).trans (fold_pre f _)
theorem addT_nodup {l : List Nat} (h : l.Nodup) (t : Th) : (addT l t).Nodup := by
  unfold addT; split
  · rename_i q
    rw [List.nodup_append]
    refine ⟨h, by simp, fun a ha b hb => ?_⟩
    have := List.mem_singleton.mp hb
    subst this
    exact fun e => q.2 (e ▸ ha)
  · exact h
theorem fold_nodup : ∀ (f : List Th) {l : List Nat}, l.Nodup → (f.foldl addT l).Nodup
  | [], _, h => h
  | t :: f, _, h => fold_nodup f (addT_nodup h t)
theorem addT_mem {l : List Nat} {t : Th} {k : Nat} (h : k ∈ addT l t) : k ∈ l ∨ t.1 = true ∧ k = t.2.toNat := by
  unfold addT at h
  split at h
  · rename_i q
    rcases List.mem_append.mp h with h | h
    · exact .inl h
    · exact .inr ⟨q.1, List.mem_singleton.mp h⟩
  · exact .inl h
theorem fold_mem : ∀ (f : List Th) {l : List Nat} {k : Nat}, k ∈ f.foldl addT l → k ∈ l ∨ ∃ t ∈ f, t.1 = true ∧ k = t.2.toNat
  | [], _, _, h => .inl h
  | t :: f, l, k, h => by
    rcases fold_mem f h with h | ⟨u, hu, e⟩
    · rcases addT_mem h with h | h
      · exact .inl h
      · exact .inr ⟨t, List.mem_cons_self, h⟩
    · exact .inr ⟨u, List.mem_cons_of_mem _ hu, e⟩
theorem fold_all : ∀ (f : List Th) {l : List Nat} {t : Th}, t ∈ f → t.1 = true → t.2.toNat ∈ f.foldl addT l
  | u :: f, l, t, h, e => by
    rcases List.mem_cons.mp h with h | h
    · subst h
      refine (fold_pre f _).subset ?_
      unfold addT
      by_cases q : t.2.toNat ∈ l
      · simp [q]
      · simp [q, e]
    · exact fold_all f h e

structure AI (B : Bx) (t : Nat) (l : List Nat) : Prop where
  nd : l.Nodup
  lt : ∀ k ∈ l, k < B.length
  rc : ∀ k ∈ l, Reach B k
  z : 0 ∈ l
  cl : ∀ i, i < t → ∀ k, l[i]? = some k → ∀ f, B[k]? = some f → ∀ j : Nat, (true, (j : Int)) ∈ f → j ∈ l
theorem AI.step {B : Bx} (w : WFB B) {t : Nat} {l : List Nat} (I : AI B t l) : AI B (t + 1) (aliveTurn B l t) := by
  unfold aliveTurn
  cases h : l[t]? with
  | none =>
    have hl : l.length ≤ t := List.getElem?_eq_none_iff.mp h
    refine ⟨I.nd, I.lt, I.rc, I.z, fun i hi k hk f hf j hj => ?_⟩
    have : i < l.length := (List.getElem?_eq_some_iff.mp hk).1
    exact I.cl i (by first | lia | omega) k hk f hf j hj
  | some k =>
    have hkl : k ∈ l := List.mem_of_getElem? h
    have hk : k < B.length := I.lt k hkl
    have hg : B.getD k [] = B[k] := by simp [List.getD, hk]
    have hB : B[k]? = some B[k] := List.getElem?_eq_getElem hk
    have hp := fold_pre (B.getD k []) l
    have hmem : ∀ m ∈ (B.getD k []).foldl addT l, m ∈ l ∨ (m < B.length ∧ Reach B m) := by
      intro m hm
      rcases fold_mem _ hm with hm | ⟨u, hu, e1, e2⟩
      · exact .inl hm
      · rw [hg] at hu
        obtain ⟨j, ej, hj⟩ := w.tgt _ (List.mem_of_getElem? hB) u hu e1
        have : m = j := by rw [e2, ej]; simp
        subst this
        refine .inr ⟨hj, Reach.step (I.rc k hkl) hB ?_⟩
        rw [← ej, ← e1]; exact hu
    refine ⟨fold_nodup _ I.nd, fun m hm => (hmem m hm).elim (I.lt m) (·.1), fun m hm => (hmem m hm).elim (I.rc m) (·.2), hp.subset I.z, fun i hi m hm f hf j hj => ?_⟩
    by_cases q : i = t
    · subst q
      have e : ((B.getD k []).foldl addT l)[i]? = some k := by
        obtain ⟨s, hs⟩ := hp
        rw [← hs]
        rw [List.getElem?_append_left (List.getElem?_eq_some_iff.mp h).1]; exact h
      dsimp only at hm
      rw [e] at hm; cases hm
      rw [hB] at hf; cases hf
      have := fold_all (B.getD k []) (l := l) (t := (true, (j : Int))) (by rw [hg]; exact hj) rfl
      simpa using this
    · by_cases ql : i < l.length
      · have e : ((B.getD k []).foldl addT l)[i]? = l[i]? := by
          obtain ⟨s, hs⟩ := hp
          rw [← hs, List.getElem?_append_left ql]
        dsimp only at hm
        rw [e] at hm
        exact hp.subset (I.cl i (by first | lia | omega) m hm f hf j hj)
      · have : t < l.length := (List.getElem?_eq_some_iff.mp h).1
        first | lia | omega
theorem aliveN_I {B : Bx} (w : WFB B) : ∀ n, AI B n (aliveN B n)
  | 0 => by
    refine ⟨by simp [aliveN], ?_, ?_, by simp [aliveN], fun i hi => absurd hi (by first | lia | omega)⟩
    · intro k hk; simp [aliveN] at hk; subst hk; exact w.pos
    · intro k hk; simp [aliveN] at hk; subst hk; exact Reach.zero
  | n + 1 => by rw [aliveN_succ]; exact (aliveN_I w n).step w
theorem alive_ok {B : Bx} (w : WFB B) : (aliveL B).Nodup ∧ (∀ k ∈ aliveL B, k < B.length) ∧ ∀ k, k ∈ aliveL B ↔ Reach B k := by
  have I := aliveN_I w B.length
  have hl := nodup_bound _ I.nd I.lt
  refine ⟨I.nd, I.lt, fun k => ⟨I.rc k, fun h => ?_⟩⟩
  induction h with
  | zero => exact I.z
  | step _ hf ht ih =>
    obtain ⟨i, hi⟩ := List.getElem?_of_mem ih
    have : i < (aliveL B).length := (List.getElem?_eq_some_iff.mp hi).1
    exact I.cl i (by unfold aliveL at this; omega) _ hi _ hf _ ht

noncomputable def chainB (m s : Nat) : Bx := [(true, ((m - 1 : Nat) : Int))] :: (List.range (m - 1)).map fun (i : Nat) => [(true, ((i + 1 - s : Nat) : Int))]
theorem chainB_length (m s : Nat) (h : 1 ≤ m) : (chainB m s).length = m := by simp [chainB]; first | lia | omega
theorem chainB_get {m s k : Nat} (hk : 1 ≤ k) (hm : k < m) : (chainB m s).getD k [] = [(true, ((k - s : Nat) : Int))] := by
  obtain ⟨i, rfl⟩ : ∃ i, k = i + 1 := ⟨k - 1, by first | lia | omega⟩
  simp [chainB, List.getD, show i < m - 1 by first | lia | omega]
theorem wfb_chain {m s : Nat} (h : 1 ≤ m) (hs : 1 ≤ s) : WFB (chainB m s) := by
  refine ⟨by rw [chainB_length m s h]; exact h, fun f hf t ht _ => ?_⟩
  rw [chainB_length m s h]
  simp only [chainB, List.mem_cons, List.mem_map, List.mem_range] at hf
  rcases hf with rfl | ⟨i, hi, rfl⟩
  · have := List.mem_singleton.mp ht; subst this; exact ⟨m - 1, rfl, by first | lia | omega⟩
  · have := List.mem_singleton.mp ht; subst this; exact ⟨i + 1 - s, rfl, by omega⟩

noncomputable def desc (s : Nat) : Nat → Nat → List Nat
  | 0, _ => []
  | f + 1, v => if v = 0 then [] else v :: desc s f (v - s)
theorem desc_head {s : Nat} : ∀ {f u : Nat}, u ≤ f → (desc s f u)[0]? = if u = 0 then none else some u
  | 0, u, h => by rw [Nat.le_zero.mp h]; rfl
  | f + 1, u, _ => by
    unfold desc
    split <;> rfl
theorem desc_at {s : Nat} (hs : 1 ≤ s) : ∀ {f v i x : Nat}, v ≤ f → (desc s f v)[i]? = some x → x ≠ 0 ∧ x ≤ v ∧ ((desc s f v)[i + 1]? = if x - s = 0 then none else some (x - s)) ∧ ∀ y ∈ (desc s f v).take (i + 1), x ≤ y
  | 0, v, i, x, _, h => by cases h
  | f + 1, v, i, x, hv, h => by
    unfold desc at h ⊢
    by_cases q : v = 0
    · rw [if_pos q] at h; cases h
    · rw [if_neg q] at h ⊢
      have hf : v - s ≤ f := by omega
      cases i with
      | zero =>
        cases h
        refine ⟨q, Nat.le_refl _, ?_, fun y hy => ?_⟩
        · rw [List.getElem?_cons_succ]; exact desc_head hf
        · rw [List.mem_singleton.mp hy]; exact Nat.le_refl _
      | succ i =>
        rw [List.getElem?_cons_succ] at h
        obtain ⟨a, b, c, d⟩ := desc_at hs hf h
        have hxv : x ≤ v := Nat.le_trans b (Nat.sub_le _ _)
        refine ⟨a, hxv, by rw [List.getElem?_cons_succ]; exact c, fun y hy => ?_⟩
        rcases List.mem_cons.mp hy with rfl | hy
        · exact hxv
        · exact d y hy
theorem desc_len1 {s : Nat} (hs : 1 ≤ s) : ∀ (f v : Nat), (desc s f v).length ≤ v
  | 0, v => Nat.zero_le _
  | f + 1, v => by
    unfold desc
    split
    · exact Nat.zero_le _
    · have := desc_len1 hs f (v - s)
      rw [List.length_cons]; first | lia | omega
theorem desc_len2 {s : Nat} (hs : 2 ≤ s) : ∀ (f v : Nat), 2 * (desc s f v).length ≤ v + 1
  | 0, v => Nat.zero_le _
  | f + 1, v => by
    unfold desc
    split
    · exact Nat.zero_le _
    · have := desc_len2 hs f (v - s)
      rw [List.length_cons]; first | lia | omega
theorem desc_one : ∀ (f v : Nat), v ≤ f → desc 1 f v = (List.range v).map fun i => v - i
  | 0, v, h => by rw [Nat.le_zero.mp h]; rfl
  | f + 1, 0, _ => rfl
  | f + 1, v + 1, h => by
    unfold desc
    rw [if_neg (Nat.succ_ne_zero v), Nat.add_sub_cancel, desc_one f v (Nat.le_of_succ_le_succ h), List.range_succ_eq_map, List.map_cons, List.map_map]
    congr 1
    exact List.map_congr_left fun i _ => (Nat.succ_sub_succ v i).symm
theorem take_more {l : List Nat} {t : Nat} (h : l[t]? = none) : l.take (t + 1) = l.take t := by
  have := List.getElem?_eq_none_iff.mp h
  rw [List.take_of_length_le this, List.take_of_length_le (Nat.le_succ_of_le this)]
theorem chain_alive {m s : Nat} (hm : 2 ≤ m) (hs : 1 ≤ s) : ∀ t, aliveN (chainB m s) (t + 1) = 0 :: (desc s m (m - 1)).take (t + 1)
  | 0 => by
    have h := desc_head (s := s) (show m - 1 ≤ m from Nat.sub_le _ _)
    rw [if_neg (show m - 1 ≠ 0 by first | lia | omega)] at h
    rw [List.take_succ, h]
    simp [aliveN, aliveTurn, chainB, addT, List.range_succ, show m - 1 ≠ 0 by first | lia | omega]
  | t + 1 => by
    rw [aliveN_succ, chain_alive hm hs t]
    unfold aliveTurn
    have hget : (0 :: (desc s m (m - 1)).take (t + 1))[t + 1]? = (desc s m (m - 1))[t]? := by
      rw [List.getElem?_cons_succ, List.getElem?_take, if_pos (Nat.lt_succ_self t)]
    rw [hget]
    cases h : (desc s m (m - 1))[t]? with
    | none =>
      have h2 : (desc s m (m - 1))[t + 1]? = none := List.getElem?_eq_none (Nat.le_succ_of_le (List.getElem?_eq_none_iff.mp h))
      rw [take_more h2]
    | some x =>
      obtain ⟨a, b, c, d⟩ := desc_at hs (Nat.sub_le _ _) h
      dsimp only
      rw [chainB_get (Nat.pos_of_ne_zero a) (by first | lia | omega)]
      simp only [List.foldl_cons, List.foldl_nil, addT, Int.toNat_natCast, true_and]
      by_cases q : x - s = 0
      · rw [if_pos q] at c
        rw [if_neg (by rw [q]; simp), take_more c]
      · rw [if_neg q] at c
        rw [if_pos, List.take_succ (i := t + 1), c]
        · rfl
        · intro hm'
          rcases List.mem_cons.mp hm' with e | e
          · exact q e
          · have := d _ e; first | lia | omega
theorem chain_aliveL {m s : Nat} (hm : 2 ≤ m) (hs : 1 ≤ s) : aliveL (chainB m s) = 0 :: desc s m (m - 1) := by
  unfold aliveL
  obtain ⟨k, rfl⟩ : ∃ k, m = k + 1 := ⟨m - 1, by first | lia | omega⟩
  rw [chainB_length _ s (Nat.le_add_left _ _), chain_alive hm hs k, List.take_of_length_le]
  exact Nat.le_succ_of_le (desc_len1 hs _ _)
theorem alive_sortable {B : Bx} (w : WFB B) (h : B.length < 64 ∨ ∃ m s, 20 ≤ m ∧ m ≤ 110 ∧ (s = 1 ∨ s = 2 ∨ s = 3) ∧ B = chainB m s) :
    (aliveL B).length < 64 ∨ ∃ m, 64 ≤ m ∧ m < 128 ∧ (aliveL B).map (fun k : Nat => (k : Int)) = (List.range m).map fun (i : Nat) => if i = 0 then (0 : Int) else ((m - i : Nat) : Int) := by
  obtain ⟨h1, h2, _⟩ := alive_ok w
  have hl := nodup_bound _ h1 h2
  rcases h with h | ⟨m, s, hm1, hm2, hs, rfl⟩
  · exact .inl (by first | lia | omega)
  · by_cases q : m < 64
    · rw [chainB_length m s (by first | lia | omega)] at hl; exact .inl (Nat.lt_of_le_of_lt hl q)
    · rw [chain_aliveL (m := m) (s := s) (by first | lia | omega) (by first | lia | omega)]
      by_cases h1 : s = 1
      · subst h1
        refine .inr ⟨m, Nat.le_of_not_lt q, by first | lia | omega, ?_⟩
        obtain ⟨k, rfl⟩ : ∃ k, m = k + 1 := ⟨m - 1, by first | lia | omega⟩
        rw [desc_one _ _ (Nat.sub_le _ _), Nat.add_sub_cancel, List.range_succ_eq_map, List.map_cons, List.map_map, List.map_cons, List.map_map]
        congr 1
        exact List.map_congr_left fun i _ => by simp [Function.comp]
      · have := desc_len2 (s := s) (by first | lia | omega) m (m - 1)
        exact .inl (by rw [List.length_cons]; omega)
theorem getD_of {B : Bx} {k : Nat} {fl : List Th} (h : B[k]? = some fl) : B.getD k [] = fl := by simp [List.getD, h]
theorem tgt_of {B : Bx} (w : WFB B) {i f : Nat} {fi : List Th} {v : Int} (h : B[i]? = some fi) (hf : fi[f]? = some (true, v)) : ∃ j : Nat, v = (j : Int) ∧ j < B.length :=
  w.tgt _ (List.mem_of_getElem? h) _ (List.mem_of_getElem? hf) rfl
end Mine
end

section
namespace Mine

theorem sorted_ext : ∀ {a b : List Nat}, a.Pairwise (· < ·) → b.Pairwise (· < ·) → (∀ x, x ∈ a ↔ x ∈ b) → a = b
  | [], [], _, _, _ => rfl
  | [], y :: b, _, _, h => absurd ((h y).mpr List.mem_cons_self) (by simp)
  | x :: a, [], _, _, h => absurd ((h x).mp List.mem_cons_self) (by simp)
  | x :: a, y :: b, ha, hb, h => by
    have ha' := List.pairwise_cons.mp ha
    have hb' := List.pairwise_cons.mp hb
    have e : x = y := by
      rcases List.mem_cons.mp ((h x).mp List.mem_cons_self) with e | e
      · exact e
      · rcases List.mem_cons.mp ((h y).mpr List.mem_cons_self) with e2 | e2
        · exact e2.symm
        · have := hb'.1 x e; have := ha'.1 y e2; first | lia | omega
    subst e
    congr 1
    refine sorted_ext ha'.2 hb'.2 fun z => ?_
    have := h z
    rw [List.mem_cons, List.mem_cons] at this
    constructor
    · intro hz
      rcases this.mp (.inr hz) with e | e
      · have := ha'.1 z hz; first | lia | omega
      · exact e
    · intro hz
      rcases this.mpr (.inr hz) with e | e
      · have := hb'.1 z hz; first | lia | omega
      · exact e

noncomputable def kl (p : Nat → Bool) (n : Nat) : List Nat := (List.range n).filter p
theorem kl_succ (p : Nat → Bool) (n : Nat) : kl p (n + 1) = kl p n ++ if p n then [n] else [] := by
  simp [kl, List.range_succ, List.filter_append, List.filter_cons]
theorem kl_mem {p : Nat → Bool} {n x : Nat} : x ∈ kl p n ↔ x < n ∧ p x = true := by simp [kl]
theorem kl_sorted (p : Nat → Bool) (n : Nat) : (kl p n).Pairwise (· < ·) := List.Pairwise.filter _ List.pairwise_lt_range

theorem sorted_is {l : List Nat} {l' : List Int} {n : Nat} {p : Nat → Bool} (hnd : l.Nodup) (hlt : ∀ k ∈ l, k < n) (hp : ∀ k, p k = true ↔ k ∈ l) (hP : l'.Perm (l.map fun k : Nat => (k : Int))) (hs : l'.Pairwise (· ≤ ·)) : l' = (kl p n).map fun k : Nat => (k : Int) := by
  have hmem : ∀ x, x ∈ l' ↔ ∃ k ∈ l, (k : Int) = x := fun x => by rw [hP.mem_iff, List.mem_map]
  have hl' : l' = (l'.map Int.toNat).map fun k : Nat => (k : Int) := by
    rw [List.map_map]
    conv => lhs; rw [← List.map_id l']
    apply List.map_congr_left
    intro x hx
    obtain ⟨k, _, rfl⟩ := (hmem x).mp hx
    simp
  have hnd' : l'.Nodup := by
    rw [hP.nodup_iff, List.Nodup, List.pairwise_map]
    exact hnd.imp fun h e => h (Int.ofNat.inj e)
  rw [hl']
  congr 1
  refine sorted_ext ?_ (kl_sorted p n) ?_
  · rw [List.pairwise_map]
    have : l'.Pairwise fun a b => a ≤ b ∧ a ≠ b := hs.and hnd'
    refine this.imp_of_mem fun {a b} ha hb h => ?_
    obtain ⟨k, _, rfl⟩ := (hmem a).mp ha
    obtain ⟨m, _, rfl⟩ := (hmem b).mp hb
    simp only [Int.toNat_natCast]
    have := h.1; have := h.2
    first | lia | omega
  · intro x
    rw [kl_mem, List.mem_map]
    constructor
    · rintro ⟨a, ha, rfl⟩
      obtain ⟨k, hk, rfl⟩ := (hmem a).mp ha
      exact ⟨by simpa using hlt k hk, by simpa using (hp k).mpr hk⟩
    · rintro ⟨_, hx⟩
      exact ⟨(x : Int), (hmem _).mpr ⟨x, (hp x).mp hx, rfl⟩, by simp⟩

end Mine
end

section
namespace Mine
open PySem PyProof.Rows

structure Ext (cx : Cx) (H H' : HP) : Prop where
  le : LE H H'
  z : ∀ a l, cx.Z a = some l → H a = none → H' a = none
section
variable {cx : Cx} {H H' H'' : HP} {n : Nat} {a r : Addr} {o : O} {Q : V → HP → Prop}
theorem Ext.refl (cx : Cx) (H : HP) : Ext cx H H := ⟨LE.refl H, fun _ _ _ h => h⟩
theorem Ext.trans (x : Ext cx H H') (y : Ext cx H' H'') : Ext cx H H'' := ⟨x.le.trans y.le, fun a l h1 h2 => y.z a l h1 (x.z a l h1 h2)⟩
theorem Ext.lk (x : Ext cx H H') (h : lk cx H a = some o) : Mine.lk cx H' a = some o := by
  unfold Mine.lk at h ⊢
  cases e : H a with
  | some o' => rw [e] at h; rw [x.le a o' e]; exact h
  | none =>
    rw [e] at h
    cases e2 : cx.Z a with
    | none => rw [e2] at h; cases h
    | some l => rw [e2] at h; rw [x.z a l e2 e]; exact h
theorem Ext.upd (x : Ext cx H H') (h1 : H r = none) (h2 : cx.Z r = none) (o : O) : Ext cx H (upd H' r o) := by
  refine ⟨fun b o' e => ?_, fun b l e1 e2 => ?_⟩
  · have : b ≠ r := fun q => by subst q; rw [h1] at e; cases e
    rw [upd_ne _ this]; exact x.le b o' e
  · have : b ≠ r := fun q => by subst q; rw [h2] at e1; cases e1
    rw [upd_ne _ this]; exact x.z b l e1 e2
theorem Ext.new (hr : Fresh cx H r) (o : O) : Ext cx H (Mine.upd H r o) := (Ext.refl cx H).upd hr.1 hr.2.2 o
theorem Ext.new' (x : Ext cx H H') (hr : Fresh cx H' r) (o : O) : Ext cx H (Mine.upd H' r o) := x.trans (Ext.new hr o)
theorem Ext.fresh (x : Ext cx H H') (hr : Fresh cx H' r) : Fresh cx H r := by
  refine ⟨?_, hr.2⟩
  cases e : H r with
  | none => rfl
  | some o => have := x.le r o e; rw [hr.1] at this; cases this

noncomputable def All2 {α β : Type} (R : α → β → Prop) (xs : List α) (ys : List β) : Prop := xs.length = ys.length ∧ ∀ (i : Nat) (x : α) (y : β), xs[i]? = some x → ys[i]? = some y → R x y
theorem All2.nil {α β : Type} {R : α → β → Prop} : All2 R [] [] := ⟨rfl, fun i x y h => by simp at h⟩
theorem All2.snoc {α β : Type} {R : α → β → Prop} {xs : List α} {ys : List β} (h : All2 R xs ys) {x : α} {y : β} (hr : R x y) : All2 R (xs ++ [x]) (ys ++ [y]) := by
  refine ⟨by simp [h.1], fun i u v hu hv => ?_⟩
  by_cases q : i < xs.length
  · rw [List.getElem?_append_left q] at hu
    rw [List.getElem?_append_left (by rw [← h.1]; exact q)] at hv
    exact h.2 i u v hu hv
  · rw [List.getElem?_append_right (by omega)] at hu
    rw [List.getElem?_append_right (by rw [← h.1]; omega), ← h.1] at hv
    cases e : i - xs.length with
    | zero => rw [e] at hu hv; simp at hu hv; subst hu; subst hv; exact hr
    | succ m => rw [e] at hu; simp at hu
theorem All2.imp {α β : Type} {R S : α → β → Prop} {xs : List α} {ys : List β} (h : All2 R xs ys) (f : ∀ x y, R x y → S x y) : All2 S xs ys := ⟨h.1, fun i x y a b => f x y (h.2 i x y a b)⟩
theorem All2.get {α β : Type} {R : α → β → Prop} {xs : List α} {ys : List β} (h : All2 R xs ys) {i : Nat} {x : α} (hx : xs[i]? = some x) : ∃ y, ys[i]? = some y ∧ R x y := by
  have hl := (List.getElem?_eq_some_iff.mp hx).1
  have hl' : i < ys.length := by rw [← h.1]; exact hl
  have hy : ys[i]? = some ys[i] := List.getElem?_eq_getElem hl'
  exact ⟨_, hy, h.2 i x _ hx hy⟩
theorem All2.get' {α β : Type} {R : α → β → Prop} {xs : List α} {ys : List β} (h : All2 R xs ys) {i : Nat} {y : β} (hy : ys[i]? = some y) : ∃ x, xs[i]? = some x ∧ R x y := by
  have hl := (List.getElem?_eq_some_iff.mp hy).1
  have hl' : i < xs.length := by rw [h.1]; exact hl
  have hx : xs[i]? = some xs[i] := List.getElem?_eq_getElem hl'
  exact ⟨_, hx, h.2 i _ y hx hy⟩

noncomputable def natsV (l : List Nat) : List V := intsV (l.map fun k : Nat => (k : Int))
theorem natsV_length (l : List Nat) : (natsV l).length = l.length := by simp [natsV, intsV]
theorem natsV_get? (l : List Nat) (i : Nat) : (natsV l)[i]? = l[i]?.map fun k : Nat => V.int (k : Int) := by simp [natsV, intsV]; rfl
theorem natsV_snoc (l : List Nat) (k : Nat) : natsV l ++ [.int (k : Int)] = natsV (l ++ [k]) := by simp [natsV, intsV]

noncomputable def thV (t : Th) : List V := [.str (Str.ofString (if t.1 = true then "box" else "number")), .int t.2]
noncomputable def ThAt (cx : Cx) (H : HP) (v : V) (t : Th) : Prop := ∃ b, v = .ref b ∧ lk cx H b = some (.tup (thV t))
noncomputable def FldAt (cx : Cx) (H : HP) (v : V) (f : List Th) : Prop := ∃ a vs, v = .ref a ∧ lk cx H a = some (.list vs) ∧ All2 (ThAt cx H) vs f
noncomputable def BoxAt (cx : Cx) (H : HP) (v : V) (B : Bx) : Prop := ∃ a vs, v = .ref a ∧ lk cx H a = some (.list vs) ∧ All2 (FldAt cx H) vs B
theorem ThAt.ext (x : Ext cx H H') {v : V} {t : Th} : ThAt cx H v t → ThAt cx H' v t := fun ⟨b, h1, h2⟩ => ⟨b, h1, x.lk h2⟩
theorem FldAt.ext (x : Ext cx H H') {v : V} {f : List Th} : FldAt cx H v f → FldAt cx H' v f := fun ⟨b, vs, h1, h2, h3⟩ => ⟨b, vs, h1, x.lk h2, h3.imp fun _ _ => ThAt.ext x⟩
theorem BoxAt.ext (x : Ext cx H H') {v : V} {f : Bx} : BoxAt cx H v f → BoxAt cx H' v f := fun ⟨b, vs, h1, h2, h3⟩ => ⟨b, vs, h1, x.lk h2, h3.imp fun _ _ => FldAt.ext x⟩
end
theorem len_le_pl (B : Bx) : ∀ {k}, k ≤ B.length → k ≤ pl B k
  | 0, _ => Nat.zero_le _
  | k + 1, h => by
    have := len_le_pl B (show k ≤ B.length by first | with_reducible exact Int.natCast_nonneg _ | with_reducible assumption | lia | omega)
    have := pl_lt (B := B) (i := k) (j := k + 1) (by first | with_reducible exact Int.natCast_nonneg _ | with_reducible assumption | lia | omega) (by first | with_reducible exact Int.natCast_nonneg _ | with_reducible assumption | lia | omega)
    first | lia | omega
theorem fld_le_pl {B : Bx} {k : Nat} {f : List Th} (h : B[k]? = some f) : f.length < pl B B.length := by
  have hk := (List.getElem?_eq_some_iff.mp h).1
  have h1 := pl_succ h
  have := pl_mono (B := B) (show k + 1 ≤ B.length from hk)
  first | lia | omega

section
variable {cx : Cx} {H H' : HP} {n : Nat} {a r : Addr} {o : O} {Q : V → HP → Prop}
noncomputable def m_heads : MSs :=
  (.cons (.assign 2 (.list .nil))
  (.cons (.assign 3 (.cint (0)))
  (.cons (.while_ (.cmp (.loc 3) .Lt (.loc 1)) (.cons (.expr (.meth (.loc 2) .append (.cons (.loc 3) .nil)))
    (.cons (.assign 3 (.bin .Add (.bin .Add (.loc 3) (.cint (1))) (.callf 42 (.cons (.sub (.loc 0) (.loc 3)) .nil))))
    .nil)))
  (.cons (.ret (.loc 2))
  .nil))))
noncomputable def m_with_mark : MSs :=
  (.cons (.assign 2 (.callb .list (.cons (.loc 0) .nil)))
  (.cons (.setSub (.loc 2) (.loc 1) (.callf 21 (.cons (.callf 42 (.cons (.sub (.loc 0) (.loc 1)) .nil)) (.cons (.cbool true) .nil))))
  (.cons (.ret (.loc 2))
  .nil)))
noncomputable def m_marked : MSs :=
  (.cons (.assign 2 (.callf 63 (.cons (.loc 0) (.cons (.cint (0)) .nil))))
  (.cons (.assign 3 (.list (.cons (.cint (0)) .nil)))
  (.cons (.while_ (.cmp (.callb .len (.cons (.loc 3) .nil)) .Gt (.cint (0))) (.cons (.assign 4 (.meth (.loc 3) .pop .nil))
    (.cons (.for_ 5 (.slice (.loc 2) (.bin .Add (.loc 4) (.cint (1))) (.bin .Add (.bin .Add (.loc 4) (.cint (1))) (.callf 42 (.cons (.sub (.loc 2) (.loc 4)) .nil)))) (.cons (.ite (.bop .And (.cons (.callf 28 (.cons (.loc 5) .nil)) (.cons (.not (.callf 49 (.cons (.sub (.loc 2) (.callf 35 (.cons (.loc 5) .nil))) .nil))) .nil))) (.cons (.assign 2 (.callf 63 (.cons (.loc 2) (.cons (.callf 35 (.cons (.loc 5) .nil)) .nil))))
        (.cons (.expr (.meth (.loc 3) .append (.cons (.callf 35 (.cons (.loc 5) .nil)) .nil)))
        .nil)) .nil)
      .nil))
    .nil)))
  (.cons (.ret (.loc 2))
  .nil))))

theorem withmark_ms {row : Addr} {xs : List Int} {p : Nat} {w : Int} (h1 : ∀ (p : Int) (b : Bool) (H : HP) (Q : V → HP → Prop), Q (.int (4 * p + 2 * (if b then 1 else 0))) H → CallP cx n 21 [.int p, .bool b] H Q) (h2 : Fn1 cx n 42 fun w => .int (w.fdiv 4))
    (hrow : lk cx H row = some (.list (intsV xs))) (hlen : xs.length ≤ 1000) (hp : xs[p]? = some w)
    (hQ : ∀ r, Fresh cx H r → Q (.ref r) (upd H r (.list (intsV (xs.set p (4 * (w.fdiv 4) + 2)))))) :
    mwpSs cx n m_with_mark [.ref row, .int p, .unb] H (NQ Q) (RQ Q) := by
  have hpl : p < xs.length := (List.getElem?_eq_some_iff.mp hp).1
  refine S_cons ?_
  walk_at "st"
  simp only [hrow, ints_length]
  refine ⟨by first | with_reducible exact Int.natCast_nonneg _ | with_reducible assumption | lia | omega, fun r hr => S_cons ?_⟩
  walk_at "st"
  simp only [lk_fresh hr hrow, ints_length, ints_get?, Int.toNat_natCast, hp, Option.map_some]
  refine ⟨by first | with_reducible exact Int.natCast_nonneg _ | with_reducible assumption | lia | omega, by first | with_reducible exact Int.natCast_nonneg _ | with_reducible assumption | lia | omega, h2 _ _ _ ?_⟩
  dsimp only
  refine h1 _ _ _ _ ?_
  simp only [upd_same, ints_length, Int.toNat_natCast, ints_set, upd_upd]
  refine ⟨by first | with_reducible exact Int.natCast_nonneg _ | with_reducible assumption | lia | omega, by first | with_reducible exact Int.natCast_nonneg _ | with_reducible assumption | lia | omega, hpl, S_cons ?_⟩
  walk_at "st"
  exact RQ.here (by simpa using hQ r hr)
noncomputable def WithMarkSpec (cx : Cx) (n : Nat) (f : Addr) : Prop := ∀ (row : Addr) (xs : List Int) (p : Nat) (w : Int) (H : HP) (Q : V → HP → Prop), lk cx H row = some (.list (intsV xs)) → xs.length ≤ 1000 → xs[p]? = some w →
  (∀ r, Fresh cx H r → Q (.ref r) (upd H r (.list (intsV (xs.set p (4 * (w.fdiv 4) + 2)))))) → CallP cx n f [.ref row, .int p] H Q

theorem heads_ms {row : Addr} {xs : List Int} {B : Bx} (h2 : Fn1 cx n 42 fun w => .int (w.fdiv 4))
    (hrow : lk cx H row = some (.list (intsV xs))) (s : Shp B xs) (hB : pl B B.length ≤ 1000)
    (hQ : ∀ r H', Ext cx H H' → Fresh cx H r → H' r = some (.list (natsV ((List.range B.length).map (pl B)))) → Q (.ref r) H') :
    mwpSs cx n m_heads [.ref row, .int (pl B B.length), .unb, .unb] H (NQ Q) (RQ Q) := by
  refine S_cons ?_
  walk_at "st"
  refine ⟨by simp, fun r hr => S_cons ?_⟩
  walk_at "st"
  refine S_cut (fun μ H' => μ = [.ref row, .int (pl B B.length), .ref r, .int (pl B B.length)] ∧ Ext cx H H' ∧ H' r = some (.list (natsV ((List.range B.length).map (pl B))))) ?_ ?_
  · rw [s_while]
    refine ⟨fun m μ H' => ∃ k, k + m = B.length ∧ μ = [.ref row, .int (pl B B.length), .ref r, .int (pl B k)] ∧ Ext cx H H' ∧ H' r = some (.list (natsV ((List.range k).map (pl B)))), ⟨B.length, 0, by first | with_reducible exact Int.natCast_nonneg _ | with_reducible assumption | lia | omega, by rw [pl_zero]; rfl, Ext.new hr _, by rw [upd_same]; rfl⟩, ?_⟩
    rintro m μ H' ⟨k, hm, rfl, hE, hr'⟩
    walk_at "st"
    cases m with
    | zero =>
      have : k = B.length := by omega
      subst this
      refine ⟨fun q => ?_, fun _ => ⟨rfl, hE, hr'⟩⟩
      rw [decide_eq_true_iff] at q; first | lia | omega
    | succ m =>
      have hk : B[k]? = some B[k] := List.getElem?_eq_getElem (by omega)
      have hkl := len_le_pl B (show B.length ≤ B.length by first | with_reducible exact Int.natCast_nonneg _ | with_reducible assumption | lia | omega)
      refine ⟨fun _ => S_cons ?_, fun q => ?_⟩
      · walk_at "st"
        simp only [hr', natsV_length, List.length_map, List.length_range]
        refine ⟨trivial, by first | with_reducible exact Int.natCast_nonneg _ | with_reducible assumption | lia | omega, S_cons ?_⟩
        have hE2 := hE.upd hr.1 hr.2.2 (.list (natsV ((List.range k).map (pl B)) ++ [.int (pl B k)]))
        walk_at "st"
        have := s.len
        simp only [hE2.lk hrow, ints_length, ints_get?, Int.toNat_natCast, s.hd hk, Option.map_some]
        refine ⟨by first | with_reducible exact Int.natCast_nonneg _ | with_reducible assumption | lia | omega, by first | with_reducible exact Int.natCast_nonneg _ | with_reducible assumption | lia | omega, h2 _ _ _ ?_⟩
        walk_at "st"
        refine S_nil ⟨_, LE.refl _, m, by first | with_reducible exact Int.natCast_nonneg _ | with_reducible assumption | lia | omega, k + 1, by first | with_reducible exact Int.natCast_nonneg _ | with_reducible assumption | lia | omega, ?_, hE2, ?_⟩
        · rw [pl_succ hk, fdiv4, show ((pl B k : Int) + 1 + 4 * (B[k].length : Int) / 4) = ((pl B k + 1 + B[k].length : Nat) : Int) from by first | with_reducible exact Int.natCast_nonneg _ | with_reducible assumption | lia | omega]
        · rw [upd_same, natsV_snoc, List.range_succ, List.map_append]; rfl
      · have := pl_lt (B := B) (i := k) (j := B.length) (by first | with_reducible exact Int.natCast_nonneg _ | with_reducible assumption | lia | omega) (by first | with_reducible exact Int.natCast_nonneg _ | with_reducible assumption | lia | omega)
        rw [decide_eq_false_iff_not] at q; first | lia | omega
  rintro μ' H' ⟨rfl, hE, hr'⟩
  refine S_cons ?_
  walk_at "st"
  exact RQ.here (hQ r H' hE hr hr')
noncomputable def HeadsSpec (cx : Cx) (n : Nat) (f : Addr) : Prop := ∀ (row : Addr) (xs : List Int) (B : Bx) (H : HP) (Q : V → HP → Prop), lk cx H row = some (.list (intsV xs)) → Shp B xs → pl B B.length ≤ 1000 →
  (∀ r H', Ext cx H H' → Fresh cx H r → H' r = some (.list (natsV ((List.range B.length).map (pl B)))) → Q (.ref r) H') → CallP cx n f [.ref row, .int (pl B B.length)] H Q
end
end Mine
end

section
namespace Mine
open PySem PyProof.Rows

structure MK (B : Bx) (M W : List Nat) (ex : Nat → Prop) : Prop where
  nd : M.Nodup
  rc : ∀ k ∈ M, Reach B k
  z : 0 ∈ M
  sub : ∀ k ∈ W, k ∈ M
  cl : ∀ k ∈ M, k ∉ W → ¬ ex k → ∀ f, B[k]? = some f → ∀ j : Nat, (true, (j : Int)) ∈ f → j ∈ M
section
variable {B : Bx} {M W : List Nat} {ex : Nat → Prop} {k j : Nat}
theorem MK.start : MK B [0] [0] (fun _ => False) := ⟨by simp, fun k hk => by rw [List.mem_singleton.mp hk]; exact Reach.zero, by simp, fun k hk => hk, fun k hk hn => absurd hk hn⟩
theorem MK.pop (h : MK B M (W ++ [k]) fun _ => False) : MK B M W (fun i => i = k) ∧ k ∈ M := by
  refine ⟨⟨h.nd, h.rc, h.z, fun i hi => h.sub i (List.mem_append_left _ hi), fun i hi hn he => h.cl i hi ?_ (fun q => q)⟩, h.sub k (by simp)⟩
  intro hm
  rcases List.mem_append.mp hm with q | q
  · exact hn q
  · exact he (List.mem_singleton.mp q)
theorem MK.add (h : MK B M W ex) (hr : Reach B j) (hj : j ∉ M) : MK B (j :: M) (W ++ [j]) ex := by
  refine ⟨List.nodup_cons.mpr ⟨hj, h.nd⟩, ?_, List.mem_cons_of_mem _ h.z, ?_, ?_⟩
  · intro i hi
    rcases List.mem_cons.mp hi with rfl | hi
    · exact hr
    · exact h.rc i hi
  · intro i hi
    rcases List.mem_append.mp hi with q | q
    · exact List.mem_cons_of_mem _ (h.sub i q)
    · rw [List.mem_singleton.mp q]; exact List.mem_cons_self
  · intro i hi hn he f hf t ht
    rcases List.mem_cons.mp hi with rfl | hi
    · exact absurd (List.mem_append_right _ List.mem_cons_self) hn
    · exact List.mem_cons_of_mem _ (h.cl i hi (fun q => hn (List.mem_append_left _ q)) he f hf t ht)
theorem MK.fin (h : MK B M W fun i => i = k) (hk : ∀ f, B[k]? = some f → ∀ j : Nat, (true, (j : Int)) ∈ f → j ∈ M) : MK B M W fun _ => False := by
  refine ⟨h.nd, h.rc, h.z, h.sub, fun i hi hn _ f hf t ht => ?_⟩
  by_cases q : i = k
  · subst q; exact hk f hf t ht
  · exact h.cl i hi hn q f hf t ht
theorem MK.done (h : MK B M [] fun _ => False) (k : Nat) : k ∈ M ↔ Reach B k := by
  refine ⟨h.rc k, fun hr => ?_⟩
  induction hr with
  | zero => exact h.z
  | step _ hf ht ih => exact h.cl _ ih (by simp) (fun q => q) _ hf _ ht
theorem MK.len (w : WFB B) (h : MK B M W ex) : M.length ≤ B.length := nodup_bound _ h.nd fun k hk => (h.rc k hk).lt w
end
theorem slice_eq {ys l : List Int} {a : Nat} (h : ∀ j, j < l.length → ys[a + j]? = l[j]?) (hl : l.length = 0 ∨ a + l.length ≤ ys.length) : (ys.take (min (a + l.length) ys.length)).drop (min a ys.length) = l := by
  apply List.ext_getElem?; intro i
  rw [List.getElem?_drop, List.getElem?_take]
  by_cases q : i < l.length
  · rw [if_pos (by first | with_reducible exact Int.natCast_nonneg _ | with_reducible assumption | lia | omega), show min a ys.length = a from by first | with_reducible exact Int.natCast_nonneg _ | with_reducible assumption | lia | omega]; exact h i q
  · rw [List.getElem?_eq_none (show l.length ≤ i by first | with_reducible exact Int.natCast_nonneg _ | with_reducible assumption | lia | omega)]
    rcases hl with hl | hl
    · rw [if_neg (by first | with_reducible exact Int.natCast_nonneg _ | with_reducible assumption | lia | omega)]
    · rw [if_neg (by first | with_reducible exact Int.natCast_nonneg _ | with_reducible assumption | lia | omega)]
theorem bump_head {B : Bx} {xs : List Int} {M : List Nat} {k : Nat} {f : List Th} (s : Shp B xs) (hM : ∀ k ∈ M, k < B.length) (h : B[k]? = some f) : (bump xs (M.map (pl B)))[pl B k]? = some (4 * (f.length : Int) + if k ∈ M then 2 else 0) := by
  have hkl := (List.getElem?_eq_some_iff.mp h).1
  rw [bump_get, s.hd h, Option.map_some]
  have : pl B k ∈ M.map (pl B) ↔ k ∈ M := by
    rw [List.mem_map]
    refine ⟨fun ⟨i, hi, e⟩ => ?_, fun q => ⟨k, q, rfl⟩⟩
    rw [← pl_inj (hM i hi) hkl e]; exact hi
  by_cases q : k ∈ M
  · rw [if_pos (this.mpr q), if_pos q]
  · rw [if_neg (fun q' => q (this.mp q')), if_neg q]; simp
theorem bump_fld {B : Bx} {xs : List Int} {M : List Nat} {k j : Nat} {f : List Th} {t : Th} (s : Shp B xs) (h : B[k]? = some f) (hj : f[j]? = some t) : (bump xs (M.map (pl B)))[pl B k + 1 + j]? = some (word (pl B) t) := by
  rw [bump_get, s.fld h hj, Option.map_some, if_neg]
  intro hm
  obtain ⟨i, _, e⟩ := List.mem_map.mp hm
  exact pl_ne h (List.getElem?_eq_some_iff.mp hj).1 e.symm
theorem bump_mark {B : Bx} {xs : List Int} {M : List Nat} {k : Nat} {f : List Th} (s : Shp B xs) (h : B[k]? = some f) : (bump xs (M.map (pl B))).set (pl B k) (4 * ((4 * (f.length : Int)).fdiv 4) + 2) = bump xs ((k :: M).map (pl B)) := by
  rw [fdiv4, show (4 * (f.length : Int)) / 4 = f.length from by first | with_reducible exact Int.natCast_nonneg _ | with_reducible assumption | lia | omega, bump_set (s.hd h)]; rfl

section
variable {cx : Cx} {H H' : HP} {n : Nat} {a r : Addr} {o : O} {Q : V → HP → Prop}
structure MS1 (cx : Cx) (B : Bx) (xs : List Int) (H0 : HP) (wa fa : Addr) (M W : List Nat) (H : HP) : Prop where
  ext : Ext cx H0 H
  fr : Fresh cx H0 fa
  fd : H fa = some (.list (intsV (bump xs (M.map (pl B)))))
  wt : H wa = some (.list (natsV (W.map (pl B))))
  ne : fa ≠ wa
noncomputable abbrev MI1 (cx : Cx) (B : Bx) (xs : List Int) (H : HP) (row wa : Addr) (used : Int) (m : Nat) (μ : List V) (H' : HP) : Prop :=
  ∃ fa M W z4 z5, μ = [.ref row, .int used, .ref fa, .ref wa, z4, z5] ∧ MS1 cx B xs H wa fa M W H' ∧ MK B M W (fun _ => False) ∧ m = 2 * (B.length - M.length) + W.length ∧ m ≤ 2 * B.length
noncomputable abbrev MI2 (cx : Cx) (B : Bx) (xs : List Int) (H : HP) (row wa sl : Addr) (used : Int) (m k : Nat) (f : List Th) (done μ : List V) (H' : HP) : Prop :=
  ∃ fa M' W' z5, μ = [.ref row, .int used, .ref fa, .ref wa, .int (pl B k), z5] ∧ MS1 cx B xs H wa fa M' W' H' ∧ H' sl = some (.list (intsV (f.map (word (pl B))))) ∧ MK B M' W' (fun i => i = k) ∧ 2 * (B.length - M'.length) + W'.length < m ∧ k ∈ M' ∧
    (∀ i (j : Nat), i < done.length → f[i]? = some (true, (j : Int)) → j ∈ M')
noncomputable abbrev MI3 (cx : Cx) (B : Bx) (xs : List Int) (H : HP) (row wa : Addr) (used : Int) (μ : List V) (H' : HP) : Prop :=
  ∃ fa M z4 z5, μ = [.ref row, .int used, .ref fa, .ref wa, z4, z5] ∧ MS1 cx B xs H wa fa M [] H' ∧ MK B M [] fun _ => False
theorem marked_ms {row : Addr} {xs : List Int} {B : Bx} {used : Int} (hwm : WithMarkSpec cx n 63) (h2 : Fn1 cx n 42 fun w => .int (w.fdiv 4)) (h3 : Fn1 cx n 28 fun w => .bool (w.fmod 2 == 1)) (h4 : Fn1 cx n 49 fun w => .bool ((w.fdiv 2).fmod 2 == 1)) (h5 : Fn1 cx n 35 fun w => .int (w.fdiv 2))
    (hrow : lk cx H row = some (.list (intsV xs))) (s : Shp B xs) (w : WFB B) (hB : B.length ≤ 1000)
    (hQ : ∀ (r : Addr) (H' : HP) (M : List Nat), Ext cx H H' → Fresh cx H r → H' r = some (.list (intsV (bump xs (M.map (pl B))))) → (∀ k, k ∈ M ↔ Reach B k) → Q (.ref r) H') :
    mwpSs cx n m_marked [.ref row, .int used, .unb, .unb, .unb, .unb] H (NQ Q) (RQ Q) := by
  have hlen := s.len
  have hpos := w.pos
  have h00 : B[0]? = some B[0] := List.getElem?_eq_getElem w.pos
  refine S_cons ?_
  try (walk_at "st")
  have hp0 := s.hd h00
  rw [pl_zero] at hp0
  refine hwm _ xs 0 _ _ _ hrow hlen hp0 fun fa hfa => ?_
  have hb0 := bump_mark (M := []) s h00
  rw [List.map_nil, bump_nil, pl_zero] at hb0
  rw [hb0]
  refine S_cons ?_
  try (walk_at "st")
  refine ⟨by simp, fun wa hwa => ?_⟩
  have hfw : fa ≠ wa := hwa.ne lk_same
  have hwaH : Fresh cx H wa := (Ext.new hfa _).fresh hwa
  have I0 : MS1 cx B xs H wa fa [0] [0] (upd (upd H fa (.list (intsV (bump xs ([0].map (pl B)))))) wa (.list [.int 0])) :=
    ⟨(Ext.new hfa _).new' hwa _, hfa, by rw [upd_ne _ hfw, upd_same], by rw [upd_same]; simp [natsV, intsV, pl_zero], hfw⟩
  refine S_cut (MI3 cx B xs H row wa used) ?_ ?_
  · rw [s_while]
    refine ⟨MI1 cx B xs H row wa used, ⟨_, fa, [0], [0], _, _, rfl, I0, MK.start, rfl, by have := w.pos; simp; omega⟩, ?_⟩
    rintro m μ H1 ⟨fa, M, W, z4, z5, rfl, I, K, hm, hm2⟩
    try (walk_at "st")
    simp only [lk_of I.wt, natsV_length, List.length_map]
    refine ⟨by first | with_reducible exact Int.natCast_nonneg _ | with_reducible assumption | lia | omega, ?_⟩
    try (walk_at "st")
    rcases List.eq_nil_or_concat W with rfl | ⟨W, k, rfl⟩
    · refine ⟨fun q => ?_, fun _ => ⟨fa, M, z4, z5, rfl, I, K⟩⟩
      simp at q
    rw [List.concat_eq_append] at *
    refine ⟨fun _ => S_cons ?_, fun q => False.elim (by rw [decide_eq_false_iff_not, List.length_append, List.length_singleton] at q; omega)⟩
    obtain ⟨K1, hkM⟩ := K.pop
    have hkr := K.rc k hkM
    have hkl := hkr.lt w
    have hk : B[k]? = some B[k] := List.getElem?_eq_getElem hkl
    have hMl : ∀ i ∈ M, i < B.length := fun i hi => (K.rc i hi).lt w
    try (walk_at "st")
    have hlast : (natsV ((W ++ [k]).map (pl B))).getLast? = some (.int (pl B k)) := by simp [natsV, intsV]
    have hdrop : (natsV ((W ++ [k]).map (pl B))).dropLast = natsV (W.map (pl B)) := by simp [natsV, intsV]
    simp only [I.wt, natsV_length, List.length_map, List.length_append, List.length_cons, List.length_nil, hlast, hdrop]
    refine ⟨trivial, by simp at hm; omega, S_cons ?_⟩
    have hwt2 : (upd H1 wa (.list (natsV (W.map (pl B))))) wa = some (.list (natsV (W.map (pl B)))) := upd_same _ _ _
    have hfd2 : (upd H1 wa (.list (natsV (W.map (pl B))))) fa = some (.list (intsV (bump xs (M.map (pl B))))) := by rw [upd_ne _ I.ne]; exact I.fd
    have I2 : MS1 cx B xs H wa fa M W (upd H1 wa (.list (natsV (W.map (pl B))))) := ⟨I.ext.upd hwaH.1 hwaH.2.2 _, I.fr, hfd2, hwt2, I.ne⟩
    clear hwt2 hfd2 hlast hdrop
    generalize upd H1 wa (.list (natsV (W.map (pl B)))) = H2 at I2
    try (walk_at "st")
    have hbl : (bump xs (M.map (pl B))).length = xs.length := bump_length _ _
    simp only [lk_of I2.fd, ints_length, ints_get?, Int.toNat_natCast, bump_head s hMl hk, if_pos hkM, Option.map_some, hbl]
    refine ⟨by first | with_reducible exact Int.natCast_nonneg _ | with_reducible assumption | lia | omega, by first | with_reducible exact Int.natCast_nonneg _ | with_reducible assumption | lia | omega, h2 _ _ _ ?_⟩
    have hfd : (4 * (B[k].length : Int) + 2).fdiv 4 = (B[k].length : Int) := by rw [fdiv4]; first | lia | omega
    dsimp only
    rw [hfd]
    try (walk_at "st")
    simp only [lk_of I2.fd, ints_length, hbl]
    rw [show ((pl B k : Int) + 1 + (B[k].length : Int)) = ((pl B k + 1 + B[k].length : Nat) : Int) from by first | with_reducible exact Int.natCast_nonneg _ | with_reducible assumption | lia | omega, show ((pl B k : Int) + 1) = ((pl B k + 1 : Nat) : Int) from by first | with_reducible exact Int.natCast_nonneg _ | with_reducible assumption | lia | omega, cutLo_nn (by first | with_reducible exact Int.natCast_nonneg _ | with_reducible assumption | lia | omega), cutHi_nn (by first | with_reducible exact Int.natCast_nonneg _ | with_reducible assumption | lia | omega)]
    simp only [Int.toNat_natCast, cut_ints]
    have hsl : ((bump xs (M.map (pl B))).take (min (pl B k + 1 + B[k].length) xs.length)).drop (min (pl B k + 1) xs.length) = B[k].map (word (pl B)) := by
      have := slice_eq (ys := bump xs (M.map (pl B))) (l := B[k].map (word (pl B))) (a := pl B k + 1) ?_ ?_
      · rw [List.length_map, hbl] at this; exact this
      · intro j hj
        rw [List.length_map] at hj
        have ht : B[k][j]? = some B[k][j] := List.getElem?_eq_getElem hj
        rw [bump_fld s hk ht, List.getElem?_map, ht]; rfl
      · rw [List.length_map, hbl]
        cases hz : B[k].length with
        | zero => exact .inl rfl
        | succ m =>
          have ht : B[k][m]? = some B[k][m] := List.getElem?_eq_getElem (by omega)
          have := (List.getElem?_eq_some_iff.mp (s.fld hk ht)).1
          exact .inr (by first | with_reducible exact Int.natCast_nonneg _ | with_reducible assumption | lia | omega)
    rw [hsl]
    refine ⟨by first | with_reducible exact Int.natCast_nonneg _ | with_reducible assumption | lia | omega, fun sl hsl' => ?_⟩
    have hsw : sl ≠ wa := fun e => hsl'.ne (lk_of I2.wt) e.symm
    have hsf : fa ≠ sl := hsl'.ne (lk_of I2.fd)
    simp only [lk_same, ints_length, List.length_map]
    have hfl : B[k].length ≤ 1000 := by
      have := fld_le_pl hk
      cases hz : B[k].length with
      | zero => omega
      | succ m =>
        have ht : B[k][m]? = some B[k][m] := List.getElem?_eq_getElem (by omega)
        have := (List.getElem?_eq_some_iff.mp (s.fld hk ht)).1
        first | lia | omega
    refine ⟨by first | with_reducible exact Int.natCast_nonneg _ | with_reducible assumption | lia | omega, MI2 cx B xs H row wa sl used m k B[k], ?_, ?_, ?_, ?_⟩
    · refine ⟨fa, M, W, _, rfl, ⟨I2.ext.new' hsl' _, I2.fr, by rw [upd_ne _ hsf]; exact I2.fd, by rw [upd_ne _ (Ne.symm hsw)]; exact I2.wt, I2.ne⟩, upd_same _ _ _, K1, by simp at hm; omega, hkM, fun i j hi => absurd hi (by simp)⟩
    · rintro done μ H' ⟨_, _, _, _, _, _, h, _⟩; exact lk_of h
    · rintro done x rest μ H3 hitems ⟨fa', M', W', z5', rfl, I3, hsl3, K3, hm3, hkM', hall⟩
      have hx : (intsV (B[k].map (word (pl B))))[done.length]? = some x := by rw [hitems]; simp
      rw [ints_get?, List.getElem?_map] at hx
      cases ht : B[k][done.length]? with
      | none => rw [ht] at hx; cases hx
      | some t =>
      rw [ht] at hx
      simp only [Option.map_some, Option.some.injEq] at hx
      subst hx
      have hMl' : ∀ i ∈ M', i < B.length := fun i hi => (K3.rc i hi).lt w
      refine S_cons ?_
      try (walk_at "st")
      refine h3 _ _ _ ?_
      try (walk_at "st")
      rw [fmod2]
      obtain ⟨b, v⟩ := t
      cases b with
      | false =>
        have e : (word (pl B) (false, v) % 2 == 1) = false := by simp [word]
        rw [e]
        refine ⟨fun q => (by cases q), fun _ => ?_⟩
        refine ⟨fun q => (by cases q), fun _ => S_nil (S_nil ⟨_, LE.refl _, fa', M', W', _, rfl, I3, hsl3, K3, hm3, hkM', fun i j hi hij => ?_⟩)⟩
        rw [List.length_append] at hi
        by_cases q : i = done.length
        · subst q; rw [ht] at hij; cases hij
        · exact hall i j (by simp at hi; omega) hij
      | true =>
        obtain ⟨j, rfl, hj⟩ := tgt_of w hk ht
        have hjB : B[j]? = some B[j] := List.getElem?_eq_getElem hj
        have ew : word (pl B) (true, (j : Int)) = 2 * (pl B j : Int) + 1 := by simp [word]
        have e : (word (pl B) (true, (j : Int)) % 2 == 1) = true := by rw [ew, beq_iff_eq]; first | lia | omega
        have e2 : (word (pl B) (true, (j : Int))).fdiv 2 = (pl B j : Int) := by rw [ew, fdiv2]; first | lia | omega
        rw [e]
        refine ⟨fun _ => ?_, fun q => by cases q⟩
        refine h5 _ _ _ ?_
        dsimp only
        rw [e2]
        walk_at "st"
        have hbl' : (bump xs (M'.map (pl B))).length = xs.length := bump_length _ _
        simp only [lk_of I3.fd, ints_length, ints_get?, Int.toNat_natCast, bump_head s hMl' hjB, Option.map_some, hbl']
        refine ⟨by first | with_reducible exact Int.natCast_nonneg _ | with_reducible assumption | lia | omega, by first | with_reducible exact Int.natCast_nonneg _ | with_reducible assumption | lia | omega, h4 _ _ _ ?_⟩
        try (walk_at "st")
        have hkeep : j ∈ M' → ∀ i (j' : Nat), i < (done ++ [V.int (word (pl B) (true, (j : Int)))]).length → B[k][i]? = some (true, (j' : Int)) → j' ∈ M' := by
          intro hjM i j' hi hij
          rw [List.length_append] at hi
          by_cases q : i = done.length
          · subst q; rw [ht] at hij
            have : j = j' := by injection hij with q; injection q with _ q; exact Int.ofNat.inj q
            exact this ▸ hjM
          · exact hall i j' (by simp at hi; omega) hij
        by_cases hjM : j ∈ M'
        · rw [if_pos hjM]
          have e4 : ((4 * (B[j].length : Int) + 2).fdiv 2).fmod 2 == 1 := by rw [fdiv2, fmod2, beq_iff_eq]; first | lia | omega
          rw [e4]
          refine ⟨fun q => (by cases q), fun _ => S_nil (S_nil ⟨_, LE.refl _, fa', M', W', _, rfl, I3, hsl3, K3, hm3, hkM', hkeep hjM⟩)⟩
        · rw [if_neg hjM]
          have e4 : (((4 * (B[j].length : Int) + 0).fdiv 2).fmod 2 == 1) = false := by rw [fdiv2, fmod2, beq_eq_false_iff_ne]; first | lia | omega
          rw [e4]
          refine ⟨fun _ => S_cons ?_, fun q => by cases q⟩
          try (walk_at "st")
          refine h5 _ _ _ ?_
          dsimp only
          rw [e2]
          have hgj := bump_head s hMl' hjB
          rw [if_neg hjM, Int.add_zero] at hgj
          refine hwm _ _ _ _ _ _ (lk_of I3.fd) (by first | with_reducible exact Int.natCast_nonneg _ | with_reducible assumption | lia | omega) hgj fun fb hfb => ?_
          rw [bump_mark s hjB]
          have hfbw : fb ≠ wa := fun e => hfb.ne (lk_of I3.wt) e.symm
          have hfbs : fb ≠ sl := fun e => hfb.ne (lk_of hsl3) e.symm
          refine S_cons ?_
          try (walk_at "st")
          simp only [upd_ne _ (Ne.symm hfbw), I3.wt]
          refine ⟨trivial, h5 _ _ _ ?_⟩
          dsimp only
          rw [e2]
          simp only [upd_ne _ (Ne.symm hfbw), I3.wt, natsV_length, List.length_map]
          have hMlen := (K3.add (Reach.step hkr hk (List.mem_of_getElem? ht)) hjM).len w
          rw [List.length_cons] at hMlen
          refine ⟨by first | with_reducible exact Int.natCast_nonneg _ | with_reducible assumption | lia | omega, S_nil (S_nil ⟨_, LE.refl _, fb, j :: M', W' ++ [j], _, rfl, ⟨?_, I3.ext.fresh hfb, ?_, ?_, hfbw⟩, ?_, K3.add (Reach.step hkr hk (List.mem_of_getElem? ht)) hjM, ?_, List.mem_cons_of_mem _ hkM', ?_⟩)⟩
          · exact (I3.ext.new' hfb _).upd hwaH.1 hwaH.2.2 _
          · rw [upd_ne _ hfbw, upd_same]
          · rw [upd_same, natsV_snoc, List.map_append]; rfl
          · rw [upd_ne _ hsw, upd_ne _ (Ne.symm hfbs)]; exact hsl3
          · simp only [List.length_cons, List.length_append, List.length_nil]; first | lia | omega
          · intro i j' hi hij
            rw [List.length_append] at hi
            by_cases q : i = done.length
            · subst q; rw [ht] at hij
              have : j = j' := by injection hij with q; injection q with _ q; exact Int.ofNat.inj q
              exact this ▸ List.mem_cons_self
            · exact List.mem_cons_of_mem _ (hall i j' (by simp at hi; omega) hij)
    · rintro μ H' ⟨fa', M', W', z5', rfl, I3, hsl3, K3, hm3, hkM', hall⟩
      refine S_nil ⟨_, LE.refl _, _, hm3, fa', M', W', _, _, rfl, I3, K3.fin ?_, rfl, by first | with_reducible exact Int.natCast_nonneg _ | with_reducible assumption | lia | omega⟩
      intro f hf j hjf
      rw [hk] at hf; cases hf
      obtain ⟨i, hi⟩ := List.getElem?_of_mem hjf
      refine hall i j ?_ hi
      have := (List.getElem?_eq_some_iff.mp hi).1
      simpa [intsV] using this
  rintro μ' H' ⟨fa, M, z4, z5, rfl, I, K⟩
  refine S_cons ?_
  try (walk_at "st")
  exact RQ.here (hQ fa H' M I.ext I.fr I.fd K.done)
noncomputable def MarkedSpec (cx : Cx) (n : Nat) (f : Addr) : Prop := ∀ (row : Addr) (xs : List Int) (B : Bx) (used : Int) (H : HP) (Q : V → HP → Prop), lk cx H row = some (.list (intsV xs)) → Shp B xs → WFB B → B.length ≤ 1000 →
  (∀ (r : Addr) (H' : HP) (M : List Nat), Ext cx H H' → Fresh cx H r → H' r = some (.list (intsV (bump xs (M.map (pl B))))) → (∀ k, k ∈ M ↔ Reach B k) → Q (.ref r) H') → CallP cx n f [.ref row, .int used] H Q
end
end Mine
end

section
namespace Mine
open PySem PyProof.Rows

theorem nat_sum (l : List Nat) : (l.map fun k : Nat => (k : Int)).sum = (l.sum : Int) := by
  induction l with
  | nil => rfl
  | cons a l ih => simp [ih]
theorem sum_le {l : List Nat} {b : Nat} (h : ∀ x ∈ l, x ≤ b) : l.sum ≤ b * l.length := by
  induction l with
  | nil => simp
  | cons a l ih =>
    have h1 := ih fun x hx => h x (List.mem_cons_of_mem _ hx)
    have h2 := h a List.mem_cons_self
    simp only [List.sum_cons, List.length_cons, Nat.mul_add]; first | lia | omega
theorem sum_take_le (l : List Nat) (j : Nat) : (l.take j).sum ≤ l.sum := by
  have : (l.take j ++ l.drop j).sum = l.sum := by rw [List.take_append_drop]
  rw [List.sum_append] at this; first | lia | omega
theorem fits_nat {l : List Nat} (h : l.sum ≤ 1000000) : PySem.SumFits (l.map fun k : Nat => (k : Int)) := by
  intro j hj
  rw [List.length_map] at hj
  have h2 := sum_take_le l (j + 1)
  have h3 : l[j] ≤ (l.take (j + 1)).sum := by
    rw [List.take_succ, List.getElem?_eq_getElem hj, List.sum_append]; simp
  refine ⟨?_, ?_⟩
  · have : (l.map fun k : Nat => (k : Int)).getD j 0 = (l[j] : Int) := by simp [List.getD, hj]
    rw [this]; unfold PySem.InLong; first | lia | omega
  · rw [← List.map_take, nat_sum]; unfold PySem.InLong; first | lia | omega

section
variable {cx : Cx} {H H' : HP} {n : Nat} {a r : Addr} {o : O} {Q : V → HP → Prop}
noncomputable def m_law_sizes : MSs :=
  (.cons (.assign 2 (.callf 77 (.cons (.loc 0) (.cons (.loc 1) .nil))))
  (.cons (.assign 3 (.bin .Add (.cint (1)) (.bin .Mod (.loc 2) (.cint (7)))))
  (.cons (.ite (.cmp (.bin .Mod (.bin .FloorDiv (.loc 2) (.cint (7))) (.cint (6))) .Eq (.cint (3))) (.cons (.assign 3 (.bin .Add (.cint (1)) (.bin .Mod (.bin .FloorDiv (.loc 2) (.cint (42))) (.cint (60)))))
    .nil) .nil)
  (.cons (.assign 4 (.list (.cons (.bin .Mod (.bin .FloorDiv (.loc 2) (.cint (3))) (.cint (5))) .nil)))
  (.cons (.forR 5 (.cint (1)) (.loc 3) (.cons (.assign 6 (.bin .Mod (.bin .Add (.bin .Mult (.callf 77 (.cons (.loc 0) (.cons (.bin .Add (.bin .Add (.loc 1) (.cint (1))) (.bin .Mod (.loc 5) (.cint (40)))) .nil))) (.cint (48271))) (.bin .Mult (.loc 5) (.cint (7919)))) (.cint (999983))))
    (.cons (.expr (.meth (.loc 4) .append (.cons (.bin .Add (.bin .Mod (.loc 6) (.cint (4))) (.bin .Mult (.cint (5)) (.callb .int (.cons (.cmp (.bin .Mod (.bin .FloorDiv (.loc 6) (.cint (4))) (.cint (9))) .Eq (.cint (1))) .nil)))) .nil)))
    .nil)))
  (.cons (.while_ (.cmp (.bin .Add (.callb .sum (.cons (.loc 4) .nil)) (.callb .len (.cons (.loc 4) .nil))) .Gt (.cint (380))) (.cons (.expr (.meth (.loc 4) .pop .nil))
    .nil))
  (.cons (.ret (.loc 4))
  .nil)))))))
noncomputable abbrev ZI (sa r : Addr) (q v0 : Int) (many : Nat) (H : HP) (P : List Nat → Prop) (μ : List V) (H₁ : HP) : Prop :=
  ∃ (ss : List Nat) (z5 z6 : V), μ = [.ref sa, .int q, .int v0, .int many, .ref r, z5, z6] ∧ H₁ = upd H r (.list (natsV ss)) ∧ P ss
noncomputable abbrev ZP1 (n : Nat) (ss : List Nat) : Prop := ss.length = n + 1 ∧ ∀ x ∈ ss, x ≤ 8
noncomputable abbrev ZP2 (ss : List Nat) : Prop := ss ≠ [] ∧ ss.length ≤ 60 ∧ ∀ x ∈ ss, x ≤ 8
noncomputable abbrev ZP3 (m : Nat) (ss : List Nat) : Prop := ss ≠ [] ∧ ss.length ≤ 60 ∧ (∀ x ∈ ss, x ≤ 8) ∧ ss.length = m
noncomputable abbrev ZP4 (ss : List Nat) : Prop := ss ≠ [] ∧ ss.length ≤ 60 ∧ ss.sum + ss.length ≤ 380
theorem sizes_ms {sa : Addr} {ns : List Int} {q : Int} (hat : AtSpec cx n 77 sa ns) (hs : lk cx H sa = some (.list (intsV ns))) (hq : 0 ≤ q)
    (hQ : ∀ r ss, Fresh cx H r → ss ≠ [] → ss.length ≤ 60 → ss.sum + ss.length ≤ 380 → Q (.ref r) (upd H r (.list (natsV ss)))) :
    mwpSs cx n m_law_sizes [.ref sa, .int q, .unb, .unb, .unb, .unb, .unb] H (NQ Q) (RQ Q) := by
  refine S_cons ?_
  try (walk_at "st")
  refine hat _ _ _ hs hq fun v0 hv0 => S_cons ?_
  try (walk_at "st")
  refine ⟨by decide, ?_⟩
  have b0 := fmod_pos_bounds v0 (b := 7) (by decide)
  refine S_cut (fun μ H' => ∃ many : Nat, 1 ≤ many ∧ many ≤ 60 ∧ μ = [.ref sa, .int q, .int v0, .int many, .unb, .unb, .unb] ∧ H' = H) ?_ ?_
  · walk_at "st"
    refine ⟨by decide, by decide, fun _ => S_cons ?_, fun _ => S_nil ?_⟩
    · walk_at "st"
      have b1 := fmod_pos_bounds (v0.fdiv 42) (b := 60) (by decide)
      refine ⟨by decide, by decide, S_nil ⟨(1 + (v0.fdiv 42).fmod 60).toNat, by first | with_reducible exact Int.natCast_nonneg _ | with_reducible assumption | lia | omega, by first | with_reducible exact Int.natCast_nonneg _ | with_reducible assumption | lia | omega, ?_, rfl⟩⟩
      rw [show ((1 + (v0.fdiv 42).fmod 60).toNat : Int) = 1 + (v0.fdiv 42).fmod 60 from by first | with_reducible exact Int.natCast_nonneg _ | with_reducible assumption | lia | omega]
    · exact ⟨(1 + v0.fmod 7).toNat, by first | with_reducible exact Int.natCast_nonneg _ | with_reducible assumption | lia | omega, by first | with_reducible exact Int.natCast_nonneg _ | with_reducible assumption | lia | omega, by rw [show ((1 + v0.fmod 7).toNat : Int) = 1 + v0.fmod 7 from by first | with_reducible exact Int.natCast_nonneg _ | with_reducible assumption | lia | omega], rfl⟩
  rintro μ' H' ⟨many, hm1, hm2, rfl, rfl⟩
  refine S_cons ?_
  try (walk_at "st")
  have b2 := fmod_pos_bounds (v0.fdiv 3) (b := 5) (by decide)
  obtain ⟨x0, ex0⟩ := Int.eq_ofNat_of_zero_le b2.1
  rw [ex0] at b2 ⊢
  refine ⟨by decide, by decide, by simp, fun r hr => ?_⟩
  refine S_cut (ZI sa r q v0 many H' ZP2) ?_ ?_
  · walk_at "st"
    refine ⟨by decide, by first | with_reducible exact Int.natCast_nonneg _ | with_reducible assumption | lia | omega, fun done => ZI sa r q v0 many H' (ZP1 done.length), ?_, fun _ _ _ _ => trivial, ?_, ?_⟩
    · exact ⟨[x0], _, _, rfl, rfl, rfl, fun x hx => by rw [List.mem_singleton.mp hx]; omega⟩
    · rintro done x rest μ H₁ hitems ⟨ss, z5, z6, rfl, rfl, hsl, hall⟩
      have hx : (intsV (rangeL 1 many))[done.length]? = some x := by rw [hitems]; simp
      obtain ⟨rfl, hlt⟩ := rangeL_get hx
      refine S_cons ?_
      try (walk_at "st")
      refine ⟨by decide, ?_⟩
      have b1 := fmod_pos_bounds (1 + (done.length : Int)) (b := 40) (by decide)
      refine hat _ _ _ (lk_fresh hr hs) (by omega) fun v hv => ?_
      try (walk_at "st")
      refine ⟨mulOk_r (by decide), mulOk_r (by decide), by decide, S_cons ?_⟩
      generalize (v * 48271 + (1 + (done.length : Int)) * 7919).fmod 999983 = sd
      try (walk_at "st")
      simp only [upd_same]
      refine ⟨trivial, by decide, by decide, by decide, mulOk_l (by decide), ?_⟩
      have b3 := fmod_pos_bounds sd (b := 4) (by decide)
      have hle : ∃ y : Nat, sd.fmod 4 + 5 * (if ((sd.fdiv 4).fmod 9 == 1) = true then (1 : Int) else 0) = (y : Int) ∧ y ≤ 8 := by
        split
        · exact ⟨(sd.fmod 4 + 5 * 1).toNat, by first | with_reducible exact Int.natCast_nonneg _ | with_reducible assumption | lia | omega, by first | with_reducible exact Int.natCast_nonneg _ | with_reducible assumption | lia | omega⟩
        · exact ⟨(sd.fmod 4 + 5 * 0).toNat, by first | with_reducible exact Int.natCast_nonneg _ | with_reducible assumption | lia | omega, by first | with_reducible exact Int.natCast_nonneg _ | with_reducible assumption | lia | omega⟩
      obtain ⟨y, ey, hy⟩ := hle
      rw [ey]
      simp only [natsV_length, natsV_snoc, upd_upd]
      refine ⟨by first | with_reducible exact Int.natCast_nonneg _ | with_reducible assumption | lia | omega, S_nil ⟨_, LE.refl _, ss ++ [y], _, _, rfl, rfl, by simp [hsl], fun x hx => ?_⟩⟩
      rcases List.mem_append.mp hx with hx | hx
      · exact hall x hx
      · rw [List.mem_singleton.mp hx]; exact hy
    · rintro μ H₁ ⟨ss, z5, z6, rfl, rfl, hsl, hall⟩
      have : (intsV (rangeL 1 many)).length = many - 1 := by simp [intsV, rangeL]
      rw [this] at hsl
      exact ⟨ss, z5, z6, rfl, rfl, fun e => by subst e; simp at hsl, by first | with_reducible exact Int.natCast_nonneg _ | with_reducible assumption | lia | omega, hall⟩
  rintro μ' H₁ ⟨ss, z5, z6, rfl, rfl, hne, hsl, hall⟩
  refine S_cut (ZI sa r q v0 many H' ZP4) ?_ ?_
  · rw [s_while]
    refine ⟨fun m => ZI sa r q v0 many H' (ZP3 m), ⟨_, ss, z5, z6, rfl, rfl, hne, hsl, hall, rfl⟩, ?_⟩
    rintro m μ H₁ ⟨ss, z5, z6, rfl, rfl, hne, hsl, hall, rfl⟩
    have hsum := sum_le hall
    try (walk_at "st")
    have has : asInts (natsV ss) = some (ss.map fun k : Nat => (k : Int)) := asInts_ints _
    simp only [lk_same, has, natsV_length, nat_sum]
    refine ⟨fits_nat (by first | with_reducible exact Int.natCast_nonneg _ | with_reducible assumption | lia | omega), by first | with_reducible exact Int.natCast_nonneg _ | with_reducible assumption | lia | omega, ?_⟩
    refine ⟨fun hgt => S_cons ?_, fun hgt => ⟨ss, z5, z6, rfl, rfl, hne, hsl, by rw [decide_eq_false_iff_not] at hgt; omega⟩⟩
    rw [decide_eq_true_iff] at hgt
    rcases List.eq_nil_or_concat ss with rfl | ⟨t, y, rfl⟩
    · exact absurd rfl hne
    rw [List.concat_eq_append] at *
    try (walk_at "st")
    have hlast : (natsV (t ++ [y])).getLast? = some (.int y) := by simp [natsV, intsV]
    have hdrop : (natsV (t ++ [y])).dropLast = natsV t := by simp [natsV, intsV]
    simp only [upd_same, hlast, hdrop, natsV_length, upd_upd]
    refine ⟨trivial, by first | with_reducible exact Int.natCast_nonneg _ | with_reducible assumption | lia | omega, S_nil ⟨_, LE.refl _, t.length, by simp, t, z5, z6, rfl, rfl, ?_, by simp at hsl; omega, fun x hx => hall x (List.mem_append_left _ hx), rfl⟩⟩
    rintro rfl
    have := hall y (by simp)
    simp at hgt; first | lia | omega
  rintro μ' H₁ ⟨ss, z5, z6, rfl, rfl, hne, hsl, hsum⟩
  refine S_cons ?_
  try (walk_at "st")
  exact RQ.here (hQ r ss hr hne hsl hsum)
noncomputable def SizesSpec (cx : Cx) (n : Nat) (f sa : Addr) (ns : List Int) : Prop := ∀ (q : Int) (H : HP) (Q : V → HP → Prop), lk cx H sa = some (.list (intsV ns)) → 0 ≤ q →
  (∀ r ss, Fresh cx H r → ss ≠ [] → ss.length ≤ 60 → ss.sum + ss.length ≤ 380 → Q (.ref r) (upd H r (.list (natsV ss)))) → CallP cx n f [.ref sa, .int q] H Q

noncomputable def m_law_places : MSs :=
  (.cons (.assign 1 (.list .nil))
  (.cons (.assign 2 (.cint (0)))
  (.cons (.for_ 3 (.loc 0) (.cons (.expr (.meth (.loc 1) .append (.cons (.loc 2) .nil)))
    (.cons (.assign 2 (.bin .Add (.bin .Add (.loc 2) (.cint (1))) (.callb .len (.cons (.loc 3) .nil))))
    .nil)))
  (.cons (.ret (.loc 1))
  .nil))))
theorem places_ms {ba : Addr} {B : Bx} (hb : BoxAt cx H (.ref ba) B) (hB : pl B B.length ≤ 1000)
    (hQ : ∀ r, Fresh cx H r → Q (.ref r) (upd H r (.list (natsV ((List.range B.length).map (pl B)))))) :
    mwpSs cx n m_law_places [.ref ba, .unb, .unb, .unb] H (NQ Q) (RQ Q) := by
  obtain ⟨_, vs, e, hl, hA⟩ := hb
  cases e
  have hBl := len_le_pl B (Nat.le_refl B.length)
  refine S_cons ?_
  try (walk_at "st")
  refine ⟨by simp, fun r hr => S_cons ?_⟩
  try (walk_at "st")
  have hvl := hA.1
  refine S_cut (fun μ H' => ∃ z, μ = [.ref ba, .ref r, .int (pl B B.length), z] ∧ H' = upd H r (.list (natsV ((List.range B.length).map (pl B))))) ?_ ?_
  · walk_at "st"
    simp only [lk_fresh hr hl]
    refine ⟨by first | with_reducible exact Int.natCast_nonneg _ | with_reducible assumption | lia | omega, fun done μ H' => ∃ z, μ = [.ref ba, .ref r, .int (pl B done.length), z] ∧ H' = upd H r (.list (natsV ((List.range done.length).map (pl B)))), ⟨_, by rw [List.length_nil, pl_zero]; rfl, rfl⟩, ?_, ?_, ?_⟩
    · rintro done μ H' ⟨z, rfl, rfl⟩; exact lk_fresh hr hl
    · rintro done x rest μ H' hitems ⟨z, rfl, rfl⟩
      have hx : vs[done.length]? = some x := by rw [hitems]; simp
      obtain ⟨f, hf, a, ts, rfl, hfa, hts⟩ := hA.get hx
      have hfl := fld_le_pl hf
      have hk := (List.getElem?_eq_some_iff.mp hf).1
      refine S_cons ?_
      try (walk_at "st")
      simp only [upd_same, natsV_length, List.length_map, List.length_range, upd_upd]
      refine ⟨trivial, by first | with_reducible exact Int.natCast_nonneg _ | with_reducible assumption | lia | omega, S_cons ?_⟩
      try (walk_at "st")
      simp only [lk_fresh hr hfa]
      have := hts.1
      refine ⟨by first | with_reducible exact Int.natCast_nonneg _ | with_reducible assumption | lia | omega, S_nil ⟨_, LE.refl _, .ref a, ?_, ?_⟩⟩
      · rw [List.length_append, List.length_singleton, pl_succ hf, hts.1]; simp
      · rw [natsV_snoc, List.length_append, List.length_singleton, List.range_succ, List.map_append]; rfl
    · rintro μ H' ⟨z, rfl, rfl⟩
      rw [hvl]; exact ⟨z, rfl, rfl⟩
  rintro μ' H' ⟨z, rfl, rfl⟩
  refine S_cons ?_
  try (walk_at "st")
  exact RQ.here (hQ r hr)
noncomputable def PlacesSpec (cx : Cx) (n : Nat) (f : Addr) : Prop := ∀ (ba : Addr) (B : Bx) (H : HP) (Q : V → HP → Prop), BoxAt cx H (.ref ba) B → pl B B.length ≤ 1000 →
  (∀ r, Fresh cx H r → Q (.ref r) (upd H r (.list (natsV ((List.range B.length).map (pl B)))))) → CallP cx n f [.ref ba] H Q

noncomputable def m_law_row : MSs :=
  (.cons (.assign 3 (.list .nil))
  (.cons (.for_ 4 (.loc 0) (.cons (.expr (.meth (.loc 3) .append (.cons (.bin .Mult (.cint (4)) (.callb .len (.cons (.loc 4) .nil))) .nil)))
    (.cons (.for_ 5 (.loc 4) (.cons (.ite (.cmp (.sub (.loc 5) (.cint (0))) .Eq (.cstr (Str.ofString "number"))) (.cons (.expr (.meth (.loc 3) .append (.cons (.bin .Mult (.cint (2)) (.sub (.loc 5) (.cint (1)))) .nil)))
        .nil) (.cons (.expr (.meth (.loc 3) .append (.cons (.bin .Add (.bin .Mult (.cint (2)) (.sub (.loc 1) (.sub (.loc 5) (.cint (1))))) (.cint (1))) .nil)))
        .nil))
      .nil))
    .nil)))
  (.cons (.ret (.bin .Add (.loc 3) (.bin .Mult (.list (.cons (.cint (0)) .nil)) (.loc 2))))
  .nil)))
theorem ints_snoc (xs : List Int) (v : Int) : intsV xs ++ [.int v] = intsV (xs ++ [v]) := by simp [intsV]
theorem rep_zero (m : Nat) : (List.replicate m [V.int 0]).flatten = intsV (List.replicate m 0) := by
  induction m with
  | zero => rfl
  | succ m ih => simp [List.replicate_succ, ih, intsV]
theorem str_nn : (Str.ofString "number" == Str.ofString "number") = true := by decide
theorem str_bn : (Str.ofString "box" == Str.ofString "number") = false := by decide
theorem str_bb : (Str.ofString "box" == Str.ofString "box") = true := by decide
theorem str_nb : (Str.ofString "number" == Str.ofString "box") = false := by decide
noncomputable abbrev RI1 (ba ga r : Addr) (sp : Nat) (H : HP) (xs : List Int) (μ : List V) (H' : HP) : Prop := ∃ z4 z5, μ = [.ref ba, .ref ga, .int sp, .ref r, z4, z5] ∧ H' = upd H r (.list (intsV xs))
noncomputable abbrev RI2 (ba ga r a : Addr) (sp : Nat) (H : HP) (xs : List Int) (μ : List V) (H' : HP) : Prop := ∃ z5, μ = [.ref ba, .ref ga, .int sp, .ref r, .ref a, z5] ∧ H' = upd H r (.list (intsV xs))
theorem row_ms {ba ga : Addr} {B : Bx} {gs : List Nat} {G : Nat → Nat} {sp : Nat} (hb : BoxAt cx H (.ref ba) B) (hg : lk cx H ga = some (.list (natsV gs))) (hgl : gs.length ≤ 1000) (hB : pl B B.length ≤ 1000) (hsp : sp ≤ 1000)
    (hG : ∀ f ∈ B, ∀ t ∈ f, t.1 = true → ∃ j : Nat, t.2 = (j : Int) ∧ gs[j]? = some (G j))
    (hQ : ∀ r H', Ext cx H H' → Fresh cx H r → H' r = some (.list (intsV (rowOf G B ++ List.replicate sp 0))) → Q (.ref r) H') :
    mwpSs cx n m_law_row [.ref ba, .ref ga, .int sp, .unb, .unb, .unb] H (NQ Q) (RQ Q) := by
  obtain ⟨_, vs, e, hl, hA⟩ := hb
  cases e
  have hvl := hA.1
  have hBl := len_le_pl B (Nat.le_refl B.length)
  refine S_cons ?_
  try (walk_at "st")
  refine ⟨by simp, fun r hr => ?_⟩
  refine S_cut (RI1 ba ga r sp H (rowOf G B)) ?_ ?_
  · walk_at "st"
    simp only [lk_fresh hr hl]
    refine ⟨by first | with_reducible exact Int.natCast_nonneg _ | with_reducible assumption | lia | omega, fun done => RI1 ba ga r sp H (rowOf G (B.take done.length)), ⟨_, _, rfl, rfl⟩, ?_, ?_, ?_⟩
    · rintro done μ H' ⟨z4, z5, rfl, rfl⟩; exact lk_fresh hr hl
    · rintro done x rest μ H' hitems ⟨z4, z5, rfl, rfl⟩
      have hx : vs[done.length]? = some x := by rw [hitems]; simp
      obtain ⟨f, hf, a, ts, rfl, hfa, hts⟩ := hA.get hx
      have hfl := fld_le_pl hf
      have hk := (List.getElem?_eq_some_iff.mp hf).1
      have hrl : (rowOf G (B.take done.length)).length = pl B done.length := by
        rw [rowOf_length]; simp [pl, List.take_take, Nat.min_eq_left (Nat.le_of_lt hk)]
      have hpk := pl_succ hf
      have hpm := pl_mono (B := B) (show done.length + 1 ≤ B.length from hk)
      have htl := hts.1
      refine S_cons ?_
      try (walk_at "st")
      simp only [upd_same, lk_fresh hr hfa]
      refine ⟨trivial, by first | with_reducible exact Int.natCast_nonneg _ | with_reducible assumption | lia | omega, mulOk_l (by decide), ?_⟩
      simp only [upd_same, ints_length, ints_snoc, upd_upd, hrl]
      refine ⟨by first | with_reducible exact Int.natCast_nonneg _ | with_reducible assumption | lia | omega, S_cons ?_⟩
      try (walk_at "st")
      simp only [lk_fresh hr hfa]
      refine ⟨by first | with_reducible exact Int.natCast_nonneg _ | with_reducible assumption | lia | omega, fun d2 => RI2 ba ga r a sp H (rowOf G (B.take done.length) ++ (4 * (ts.length : Int)) :: (f.take d2.length).map (word G)), ⟨_, rfl, by simp⟩, ?_, ?_, ?_⟩
      · rintro d2 μ H' ⟨z5, rfl, rfl⟩; exact lk_fresh hr hfa
      · rintro d2 y rest2 μ H' hitems2 ⟨z5, rfl, rfl⟩
        have hy : ts[d2.length]? = some y := by rw [hitems2]; simp
        obtain ⟨t, ht, b, rfl, hbt⟩ := hts.get hy
        have hd2 := (List.getElem?_eq_some_iff.mp ht).1
        have hml : (rowOf G (B.take done.length) ++ (4 * (ts.length : Int)) :: (f.take d2.length).map (word G)).length ≤ 2000 := by
          simp only [List.length_append, List.length_cons, List.length_map, List.length_take, hrl]; first | lia | omega
        have hsnoc : (rowOf G (B.take done.length) ++ (4 * (ts.length : Int)) :: (f.take d2.length).map (word G)) ++ [word G t] = rowOf G (B.take done.length) ++ (4 * (ts.length : Int)) :: (f.take (d2.length + 1)).map (word G) := by
          rw [List.take_succ, ht]; simp
        refine S_cons ?_
        try (walk_at "st")
        simp only [lk_fresh hr hbt, thV, List.length_cons, List.length_nil]
        refine ⟨by decide, by decide, ?_⟩
        obtain ⟨b', v⟩ := t
        cases b' with
        | false =>
          simp only [Int.toNat_zero, List.getElem?_cons_zero, Bool.false_eq_true, if_false, cm_eqs, str_nn]
          try (walk_at "st")
          refine S_cons ?_
          try (walk_at "st")
          simp only [upd_same, lk_fresh hr hbt, thV, List.length_cons, List.length_nil]
          refine ⟨trivial, by decide, by decide, ?_⟩
          show IntMulOk 2 v ∧ _
          refine ⟨mulOk_l (by decide), ?_⟩
          simp only [upd_same, ints_length, ints_snoc, upd_upd]
          refine ⟨by first | with_reducible exact Int.natCast_nonneg _ | with_reducible assumption | lia | omega, S_nil (S_nil ⟨_, LE.refl _, _, rfl, ?_⟩)⟩
          rw [List.length_append, List.length_singleton, ← hsnoc]; simp [word]
        | true =>
          obtain ⟨j, ej, hj⟩ := hG f (List.mem_of_getElem? hf) _ (List.mem_of_getElem? ht) rfl
          dsimp only at ej
          subst ej
          simp only [Int.toNat_zero, List.getElem?_cons_zero, if_true, cm_eqs, str_bn]
          try (walk_at "st")
          refine S_cons ?_
          try (walk_at "st")
          simp only [upd_same, lk_fresh hr hbt, lk_fresh hr hg, thV, List.length_cons, List.length_nil]
          refine ⟨trivial, by decide, by decide, ?_⟩
          simp only [show (1 : Int).toNat = 1 from rfl, List.getElem?_cons_succ, List.getElem?_cons_zero]
          try (walk_at "st")
          simp only [lk_fresh hr hg, natsV_length, natsV_get?, Int.toNat_natCast, hj, Option.map_some]
          refine ⟨by first | with_reducible exact Int.natCast_nonneg _ | with_reducible assumption | lia | omega, by first | with_reducible exact Int.natCast_nonneg _ | with_reducible assumption | lia | omega, ?_⟩
          try (walk_at "st")
          refine ⟨mulOk_l (by decide), ?_⟩
          simp only [upd_same, ints_length, ints_snoc, upd_upd]
          refine ⟨by first | with_reducible exact Int.natCast_nonneg _ | with_reducible assumption | lia | omega, S_nil (S_nil ⟨_, LE.refl _, _, rfl, ?_⟩)⟩
          rw [List.length_append, List.length_singleton, ← hsnoc]; simp [word]
      · rintro μ H' ⟨z5, rfl, rfl⟩
        refine S_nil ⟨_, LE.refl _, _, _, rfl, ?_⟩
        rw [htl, List.take_length, List.length_append, List.length_singleton, List.take_succ, hf, rowOf_append]
        simp [rowOf, cellsOf]
    · rintro μ H' ⟨z4, z5, rfl, rfl⟩
      rw [hvl, List.take_length]
      exact ⟨z4, z5, rfl, rfl⟩
  rintro μ' H' ⟨z4, z5, rfl, rfl⟩
  refine S_cons ?_
  try (walk_at "st")
  refine ⟨by simp, fun r2 hr2 => ?_⟩
  simp only [lk_same, List.length_cons, List.length_nil]
  refine ⟨by first | with_reducible exact Int.natCast_nonneg _ | with_reducible assumption | lia | omega, by first | with_reducible exact Int.natCast_nonneg _ | with_reducible assumption | lia | omega, by first | with_reducible exact Int.natCast_nonneg _ | with_reducible assumption | lia | omega, fun r3 hr3 => ?_⟩
  have n1 : r ≠ r2 := hr2.ne lk_same
  have n2 : r ≠ r3 := hr3.ne (lk_fresh hr2 lk_same)
  simp only [lk_ne n2, lk_ne n1, lk_same, Int.toNat_natCast, rep_zero, ints_append, ints_length, rowOf_length, List.length_replicate]
  refine ⟨by first | with_reducible exact Int.natCast_nonneg _ | with_reducible assumption | lia | omega, fun r4 hr4 => ?_⟩
  have x1 : Ext cx H (upd H r (.list (intsV (rowOf G B)))) := Ext.new hr _
  have x2 := x1.new' hr2 (.list [.int 0])
  have x3 := x2.new' hr3 (.list (intsV (List.replicate sp 0)))
  exact RQ.here (hQ r4 _ (x3.new' hr4 _) (x3.fresh hr4) (upd_same _ _ _))
noncomputable def RowSpec (cx : Cx) (n : Nat) (f : Addr) : Prop := ∀ (ba ga : Addr) (B : Bx) (gs : List Nat) (G : Nat → Nat) (sp : Nat) (H : HP) (Q : V → HP → Prop), BoxAt cx H (.ref ba) B → lk cx H ga = some (.list (natsV gs)) → gs.length ≤ 1000 → pl B B.length ≤ 1000 → sp ≤ 1000 →
  (∀ f ∈ B, ∀ t ∈ f, t.1 = true → ∃ j : Nat, t.2 = (j : Int) ∧ gs[j]? = some (G j)) →
  (∀ r H', Ext cx H H' → Fresh cx H r → H' r = some (.list (intsV (rowOf G B ++ List.replicate sp 0))) → Q (.ref r) H') → CallP cx n f [.ref ba, .ref ga, .int sp] H Q

noncomputable def m_law_alive : MSs :=
  (.cons (.assign 1 (.list (.cons (.cint (0)) .nil)))
  (.cons (.forR 2 (.cint (0)) (.callb .len (.cons (.loc 0) .nil)) (.cons (.ite (.cmp (.loc 2) .Lt (.callb .len (.cons (.loc 1) .nil))) (.cons (.for_ 3 (.sub (.loc 0) (.sub (.loc 1) (.loc 2))) (.cons (.ite (.bop .And (.cons (.cmp (.sub (.loc 3) (.cint (0))) .Eq (.cstr (Str.ofString "box"))) (.cons (.cmp (.sub (.loc 3) (.cint (1))) .NotIn (.loc 1)) .nil))) (.cons (.assign 1 (.bin .Add (.loc 1) (.list (.cons (.sub (.loc 3) (.cint (1))) .nil))))
            .nil) .nil)
          .nil))
        .nil) .nil)
    .nil))
  (.cons (.ret (.callb .sorted (.cons (.loc 1) .nil)))
  .nil)))
theorem natsV_contains (l : List Nat) (j : Nat) : (l.map fun k : Nat => (k : Int)).contains (j : Int) = decide (j ∈ l) := by
  rw [Bool.eq_iff_iff, List.contains_iff_mem, decide_eq_true_iff, List.mem_map]
  exact ⟨fun ⟨y, hy, ey⟩ => by rw [← Int.ofNat_inj.mp ey]; exact hy, fun hy => ⟨j, hy, rfl⟩⟩
noncomputable abbrev LI1 (cx : Cx) (ba : Addr) (H : HP) (l : List Nat) (μ : List V) (H' : HP) : Prop := ∃ fa z2 z3, μ = [.ref ba, .ref fa, z2, z3] ∧ Ext cx H H' ∧ lk cx H' fa = some (.list (natsV l))
noncomputable abbrev LI2 (cx : Cx) (ba : Addr) (H : HP) (k : Nat) (l : List Nat) (μ : List V) (H' : HP) : Prop := ∃ fa z3, μ = [.ref ba, .ref fa, .int k, z3] ∧ Ext cx H H' ∧ lk cx H' fa = some (.list (natsV l))
theorem alive_ms {ba : Addr} {B : Bx} (hb : BoxAt cx H (.ref ba) B) (w : WFB B) (hB : pl B B.length ≤ 1000) (hso : B.length < 64 ∨ ∃ m s, 20 ≤ m ∧ m ≤ 110 ∧ (s = 1 ∨ s = 2 ∨ s = 3) ∧ B = chainB m s)
    (hQ : ∀ r H' l, Ext cx H H' → Fresh cx H r → H' r = some (.list (intsV l)) → l.Perm ((aliveL B).map fun k : Nat => (k : Int)) → l.Pairwise (· ≤ ·) → Q (.ref r) H') :
    mwpSs cx n m_law_alive [.ref ba, .unb, .unb, .unb] H (NQ Q) (RQ Q) := by
  obtain ⟨_, vs, e, hl, hA⟩ := hb
  cases e
  have hvl := hA.1
  have hBl := len_le_pl B (Nat.le_refl B.length)
  refine S_cons ?_
  try (walk_at "st")
  refine ⟨by simp, fun r0 hr0 => ?_⟩
  refine S_cut (LI1 cx ba H (aliveL B)) ?_ ?_
  · walk_at "st"
    simp only [lk_fresh hr0 hl]
    refine ⟨by first | with_reducible exact Int.natCast_nonneg _ | with_reducible assumption | lia | omega, by decide, by first | with_reducible exact Int.natCast_nonneg _ | with_reducible assumption | lia | omega, fun done => LI1 cx ba H (aliveN B done.length), ⟨r0, _, _, rfl, Ext.new hr0 _, lk_same⟩, fun _ _ _ _ => trivial, ?_, ?_⟩
    · rintro done x rest μ H' hitems ⟨fa, z2, z3, rfl, hE, hfa⟩
      have hx : (intsV (rangeL 0 vs.length))[done.length]? = some x := by rw [hitems]; simp
      obtain ⟨rfl, hlt⟩ := rangeL_get hx
      rw [Int.zero_add]
      have I := aliveN_I w done.length
      have hal := nodup_bound _ I.nd I.lt
      refine S_cons ?_
      try (walk_at "st")
      simp only [hfa, natsV_length]
      refine ⟨by first | with_reducible exact Int.natCast_nonneg _ | with_reducible assumption | lia | omega, ?_⟩
      try (walk_at "st")
      have hsuc := aliveN_succ B done.length
      unfold aliveTurn at hsuc
      refine ⟨fun q => S_cons ?_, fun q => S_nil (S_nil ⟨_, LE.refl _, fa, _, _, rfl, hE, ?_⟩)⟩
      · rw [decide_eq_true_iff] at q
        have hget : (aliveN B done.length)[done.length]? = some (aliveN B done.length)[done.length] := List.getElem?_eq_getElem (by omega)
        generalize (aliveN B done.length)[done.length] = k at hget
        rw [hget] at hsuc
        dsimp only at hsuc
        have hkl := I.lt k (List.mem_of_getElem? hget)
        have hf : B[k]? = some B[k] := List.getElem?_eq_getElem hkl
        rw [getD_of hf] at hsuc
        obtain ⟨x, hx', a, ts, rfl, hfd, hts⟩ := hA.get' hf
        have htl := hts.1
        have hfl := fld_le_pl hf
        try (walk_at "st")
        simp only [hfa, natsV_length, natsV_get?, Int.toNat_natCast, hget, Option.map_some]
        refine ⟨by first | with_reducible exact Int.natCast_nonneg _ | with_reducible assumption | lia | omega, by first | with_reducible exact Int.natCast_nonneg _ | with_reducible assumption | lia | omega, ?_⟩
        try (walk_at "st")
        simp only [hE.lk hl, Int.toNat_natCast, hx']
        try (walk_at "st")
        simp only [hE.lk hfd]
        refine ⟨by first | with_reducible exact Int.natCast_nonneg _ | with_reducible assumption | lia | omega, by first | with_reducible exact Int.natCast_nonneg _ | with_reducible assumption | lia | omega, by first | with_reducible exact Int.natCast_nonneg _ | with_reducible assumption | lia | omega, fun d2 => LI2 cx ba H done.length ((B[k].take d2.length).foldl addT (aliveN B done.length)), ⟨fa, _, rfl, hE, hfa⟩, ?_, ?_, ?_⟩
        · rintro d2 μ H'' ⟨fa, z3, rfl, hE, hfa⟩; exact hE.lk hfd
        · rintro d2 y rest2 μ H'' hitems2 ⟨fa, z3, rfl, hE, hfa⟩
          have hy : ts[d2.length]? = some y := by rw [hitems2]; simp
          obtain ⟨t, ht, b, rfl, hbt⟩ := hts.get hy
          have hstep : (B[k].take (d2.length + 1)).foldl addT (aliveN B done.length) = addT ((B[k].take d2.length).foldl addT (aliveN B done.length)) t := by rw [List.take_succ, ht]; simp
          generalize hcur : (B[k].take d2.length).foldl addT (aliveN B done.length) = cur at hfa hstep
          have hcl : cur.length ≤ 1000 := by
            have hnd : cur.Nodup := hcur ▸ fold_nodup _ I.nd
            refine Nat.le_trans (nodup_bound B.length hnd fun m hm => ?_) (by first | with_reducible exact Int.natCast_nonneg _ | with_reducible assumption | lia | omega)
            rw [← hcur] at hm
            rcases fold_mem _ hm with hm | ⟨u, hu, e1, e2⟩
            · exact I.lt m hm
            · obtain ⟨j, ej, hj⟩ := w.tgt _ (List.mem_of_getElem? hf) u (List.mem_of_mem_take hu) e1
              rw [e2, ej]; simpa using hj
          refine S_cons ?_
          try (walk_at "st")
          simp only [hE.lk hbt, thV, List.length_cons, List.length_nil]
          refine ⟨by decide, by decide, ?_⟩
          obtain ⟨b', v⟩ := t
          cases b' with
          | false =>
            simp only [Int.toNat_zero, List.getElem?_cons_zero, Bool.false_eq_true, if_false, cm_eqs, str_nb]
            try (walk_at "st")
            refine S_nil (S_nil ⟨_, LE.refl _, fa, _, rfl, hE, ?_⟩)
            rw [List.length_append, List.length_singleton, hstep]
            simpa [addT] using hfa
          | true =>
            obtain ⟨j, ej, hj⟩ := w.tgt _ (List.mem_of_getElem? hf) _ (List.mem_of_getElem? ht) rfl
            dsimp only at ej
            subst ej
            simp only [Int.toNat_zero, List.getElem?_cons_zero, if_true, cm_eqs, str_bb]
            try (walk_at "st")
            refine ⟨by decide, by decide, ?_⟩
            have has : asInts (natsV cur) = some (cur.map fun k : Nat => (k : Int)) := asInts_ints _
            simp only [show (1 : Int).toNat = 1 from rfl, List.getElem?_cons_succ, List.getElem?_cons_zero]
            try (walk_at "st")
            simp only [hfa, Option.bind_some, has, Option.map_some, natsV_contains]
            by_cases hjc : j ∈ cur
            · rw [decide_eq_true hjc]
              refine ⟨fun q => (by cases q), fun _ => S_nil (S_nil ⟨_, LE.refl _, fa, _, rfl, hE, ?_⟩)⟩
              rw [List.length_append, List.length_singleton, hstep]
              simpa [addT, hjc] using hfa
            · rw [decide_eq_false hjc]
              refine ⟨fun _ => S_cons ?_, fun q => by cases q⟩
              try (walk_at "st")
              simp only [hE.lk hbt, thV, List.length_cons, List.length_nil]
              refine ⟨by decide, by decide, ?_⟩
              simp only [show (1 : Int).toNat = 1 from rfl, List.getElem?_cons_succ, List.getElem?_cons_zero]
              try (walk_at "st")
              refine ⟨by decide, fun r1 hr1 => ?_⟩
              simp only [lk_fresh hr1 hfa, lk_same, natsV_length, natsV_snoc, List.length_cons, List.length_nil]
              refine ⟨by first | with_reducible exact Int.natCast_nonneg _ | with_reducible assumption | lia | omega, fun r2 hr2 => S_nil (S_nil ⟨_, LE.refl _, r2, _, rfl, (hE.new' hr1 _).new' hr2 _, ?_⟩)⟩
              rw [lk_same, List.length_append, List.length_singleton, hstep]
              simp [addT, hjc]
        · rintro μ H'' ⟨fa, z3, rfl, hE, hfa⟩
          refine S_nil (S_nil ⟨_, LE.refl _, fa, _, _, rfl, hE, ?_⟩)
          rw [htl, List.take_length] at hfa
          rw [List.length_append, List.length_singleton, hsuc]
          exact hfa
      · rw [decide_eq_false_iff_not] at q
        have hget : (aliveN B done.length)[done.length]? = none := List.getElem?_eq_none (by omega)
        rw [hget] at hsuc
        dsimp only at hsuc
        rw [List.length_append, List.length_singleton, hsuc]
        exact hfa
    · rintro μ H' ⟨fa, z2, z3, rfl, hE, hfa⟩
      have : (intsV (rangeL 0 vs.length)).length = B.length := by simp [intsV, rangeL, hvl]
      rw [this] at hfa
      exact ⟨fa, z2, z3, rfl, hE, hfa⟩
  rintro μ' H' ⟨fa, z2, z3, rfl, hE, hfa⟩
  refine S_cons ?_
  try (walk_at "st")
  have has : asInts (natsV (aliveL B)) = some ((aliveL B).map fun k : Nat => (k : Int)) := asInts_ints _
  simp only [hfa, has]
  refine ⟨?_, fun l' hp hs r hr => RQ.here (hQ r _ l' (hE.new' hr _) (hE.fresh hr) (upd_same _ _ _) hp hs)⟩
  rcases alive_sortable w hso with h | h
  · exact .inl (by simpa using h)
  · exact .inr h
noncomputable def AliveSpec (cx : Cx) (n : Nat) (f : Addr) : Prop := ∀ (ba : Addr) (B : Bx) (H : HP) (Q : V → HP → Prop), BoxAt cx H (.ref ba) B → WFB B → pl B B.length ≤ 1000 → (B.length < 64 ∨ ∃ m s, 20 ≤ m ∧ m ≤ 110 ∧ (s = 1 ∨ s = 2 ∨ s = 3) ∧ B = chainB m s) →
  (∀ r H' l, Ext cx H H' → Fresh cx H r → H' r = some (.list (intsV l)) → l.Perm ((aliveL B).map fun k : Nat => (k : Int)) → l.Pairwise (· ≤ ·) → Q (.ref r) H') → CallP cx n f [.ref ba] H Q
end
end Mine
end

section
namespace Mine
open PySem PyProof.Rows

theorem All2.append {α β : Type} {R : α → β → Prop} {xs xs' : List α} {ys ys' : List β} (h : All2 R xs ys) (h' : All2 R xs' ys') : All2 R (xs ++ xs') (ys ++ ys') := by
  refine ⟨by simp [h.1, h'.1], fun i u v hu hv => ?_⟩
  by_cases q : i < xs.length
  · rw [List.getElem?_append_left q] at hu
    rw [List.getElem?_append_left (by rw [← h.1]; exact q)] at hv
    exact h.2 i u v hu hv
  · rw [List.getElem?_append_right (by omega)] at hu
    rw [List.getElem?_append_right (by rw [← h.1]; omega), ← h.1] at hv
    exact h'.2 _ u v hu hv
theorem All2.one {α β : Type} {R : α → β → Prop} {x : α} {y : β} (hr : R x y) : All2 R [x] [y] := All2.snoc All2.nil hr
theorem mem_le_sum : ∀ {l : List Nat} {x : Nat}, x ∈ l → x ≤ l.sum
  | y :: l, x, h => by
    rw [List.sum_cons]
    rcases List.mem_cons.mp h with rfl | h
    · omega
    · have := mem_le_sum h; first | lia | omega
theorem pl_sum : ∀ B : Bx, pl B B.length = (B.map List.length).sum + B.length
  | [] => rfl
  | f :: B => by rw [List.length_cons, pl_cons, pl_sum B]; simp; first | lia | omega
section
variable {cx : Cx} {H H' : HP} {n : Nat} {a r : Addr} {o : O} {Q : V → HP → Prop}
theorem ThAt.updl {fa : Addr} {xs ys : List V} (h : H fa = some (.list xs)) {v : V} {t : Th} : ThAt cx H v t → ThAt cx (upd H fa (.list ys)) v t := by
  rintro ⟨b, rfl, hb⟩
  refine ⟨b, rfl, ?_⟩
  rw [lk_ne]
  · exact hb
  · rintro rfl
    rw [lk_of h] at hb; cases hb
theorem FldAt.updl {ra : Addr} {xs ys : List V} (h : H ra = some (.list xs)) {v : V} {f : List Th} (hne : v ≠ .ref ra) : FldAt cx H v f → FldAt cx (upd H ra (.list ys)) v f := by
  rintro ⟨b, vs, rfl, hb, hA⟩
  refine ⟨b, vs, rfl, ?_, hA.imp fun _ _ => ThAt.updl h⟩
  rw [lk_ne]
  · exact hb
  · rintro rfl; exact hne rfl
noncomputable def m_law_boxes : MSs :=
  (.cons (.assign 2 (.callf 103 (.cons (.loc 0) (.cons (.loc 1) .nil))))
  (.cons (.assign 3 (.callf 77 (.cons (.loc 0) (.cons (.loc 1) .nil))))
  (.cons (.ite (.cmp (.bin .Mod (.bin .FloorDiv (.loc 3) (.cint (11))) (.cint (8))) .Eq (.cint (5))) (.cons (.assign 4 (.bin .Add (.cint (20)) (.bin .Mod (.bin .FloorDiv (.loc 3) (.cint (88))) (.cint (91)))))
    (.cons (.assign 5 (.bin .Add (.cint (1)) (.bin .Mod (.loc 3) (.cint (3)))))
    (.cons (.ret (.bin .Add (.list (.cons (.list (.cons (.tup (.cons (.cstr (Str.ofString "box")) (.cons (.bin .Sub (.loc 4) (.cint (1))) .nil))) .nil)) .nil)) (.compR (.list (.cons (.tup (.cons (.cstr (Str.ofString "box")) (.cons (.callb .max (.cons (.cint (0)) (.cons (.bin .Sub (.loc 11) (.loc 5)) .nil))) .nil))) .nil)) (.cint (1)) (.loc 4) (.cbool true))))
    .nil))) .nil)
  (.cons (.assign 7 (.list .nil))
  (.cons (.forR 6 (.cint (0)) (.callb .len (.cons (.loc 2) .nil)) (.cons (.assign 8 (.list .nil))
    (.cons (.forR 9 (.cint (0)) (.sub (.loc 2) (.loc 6)) (.cons (.assign 10 (.bin .Mod (.bin .Add (.bin .Add (.bin .Add (.bin .Mult (.callf 77 (.cons (.loc 0) (.cons (.bin .Add (.bin .Add (.loc 1) (.cint (2))) (.bin .Mod (.bin .Add (.loc 6) (.loc 9)) (.cint (40)))) .nil))) (.cint (16807))) (.bin .Mult (.loc 6) (.cint (6101)))) (.bin .Mult (.loc 9) (.cint (4099)))) (.cint (7))) (.cint (999979))))
      (.cons (.ite (.cmp (.bin .Mod (.loc 10) (.cint (4))) .Eq (.cint (0))) (.cons (.expr (.meth (.loc 8) .append (.cons (.tup (.cons (.cstr (Str.ofString "number")) (.cons (.callf 96 (.cons (.bin .FloorDiv (.loc 10) (.cint (4))) .nil)) .nil))) .nil)))
        .nil) (.cons (.expr (.meth (.loc 8) .append (.cons (.tup (.cons (.cstr (Str.ofString "box")) (.cons (.bin .Mod (.bin .FloorDiv (.loc 10) (.cint (4))) (.callb .len (.cons (.loc 2) .nil))) .nil))) .nil)))
        .nil))
      .nil)))
    (.cons (.expr (.meth (.loc 7) .append (.cons (.loc 8) .nil)))
    .nil))))
  (.cons (.ret (.loc 7))
  .nil))))))
noncomputable def Sortable (B : Bx) : Prop := B.length < 64 ∨ ∃ m s, 20 ≤ m ∧ m ≤ 110 ∧ (s = 1 ∨ s = 2 ∨ s = 3) ∧ B = chainB m s
noncomputable abbrev Tg (B : Bx) (n : Nat) : Prop := ∀ f ∈ B, ∀ t ∈ f, t.1 = true → ∃ j : Nat, t.2 = (j : Int) ∧ j < n
noncomputable abbrev BI1 (cx : Cx) (sa r0 r1 : Addr) (q v0 : Int) (H0 : HP) (ss sz : List Nat) (μ : List V) (H' : HP) : Prop :=
  ∃ (vs : List V) (B : Bx) (z6 z8 z9 z10 : V), μ = [.ref sa, .int q, .ref r0, .int v0, .unb, .unb, z6, .ref r1, z8, z9, z10] ∧ Ext cx H0 H' ∧ H' r1 = some (.list vs) ∧ All2 (fun v f => FldAt cx H' v f ∧ v ≠ .ref r1) vs B ∧ B.map List.length = sz ∧ Tg B ss.length
noncomputable abbrev BI2 (cx : Cx) (sa r0 r1 r2 : Addr) (q v0 : Int) (k : Nat) (H2 : HP) (n : Nat) (d2 μ : List V) (H' : HP) : Prop :=
  ∃ (ts : List V) (f : List Th) (z9 z10 : V), μ = [.ref sa, .int q, .ref r0, .int v0, .unb, .unb, .int k, .ref r1, .ref r2, z9, z10] ∧ Ext cx H2 H' ∧ H' r2 = some (.list ts) ∧ All2 (ThAt cx H') ts f ∧ f.length = d2.length ∧ ∀ t ∈ f, t.1 = true → ∃ j : Nat, t.2 = (j : Int) ∧ j < n
theorem boxes_ms {sa : Addr} {ns : List Int} {q : Int} (hsz : SizesSpec cx n 103 sa ns) (hat : AtSpec cx n 77 sa ns) (hnum : NumSpec cx n 96) (hs : lk cx H sa = some (.list (intsV ns))) (hq : 0 ≤ q)
    (hQ : ∀ r H' B, Ext cx H H' → BoxAt cx H' (.ref r) B → WFB B → pl B B.length ≤ 400 → Sortable B → Q (.ref r) H') :
    mwpSs cx n m_law_boxes [.ref sa, .int q, .unb, .unb, .unb, .unb, .unb, .unb, .unb, .unb, .unb] H (NQ Q) (RQ Q) := by
  refine S_cons ?_
  try (walk_at "st")
  refine hsz _ _ _ hs hq fun r0 ss hr0 hne hsl hsum => ?_
  have x0 : Ext cx H (upd H r0 (.list (natsV ss))) := Ext.new hr0 _
  have hs0 := x0.lk hs
  have hr0' : lk cx (upd H r0 (.list (natsV ss))) r0 = some (.list (natsV ss)) := lk_same
  generalize upd H r0 (.list (natsV ss)) = H0 at x0 hs0 hr0'
  refine S_cons ?_
  try (walk_at "st")
  refine hat _ _ _ hs0 hq fun v0 hv0 => S_cons ?_
  try (walk_at "st")
  refine ⟨by decide, by decide, fun _ => S_cons ?_, fun _ => S_nil (S_cons ?_)⟩
  · walk_at "st"
    refine ⟨by decide, by decide, ?_⟩
    have b1 := fmod_pos_bounds (v0.fdiv 88) (b := 91) (by decide)
    obtain ⟨m, em⟩ : ∃ m : Nat, 20 + (v0.fdiv 88).fmod 91 = (m : Int) := ⟨(20 + (v0.fdiv 88).fmod 91).toNat, by first | with_reducible exact Int.natCast_nonneg _ | with_reducible assumption | lia | omega⟩
    have hm1 : 20 ≤ m := by first | with_reducible exact Int.natCast_nonneg _ | with_reducible assumption | lia | omega
    have hm2 : m ≤ 110 := by first | with_reducible exact Int.natCast_nonneg _ | with_reducible assumption | lia | omega
    rw [em]
    refine S_cons ?_
    try (walk_at "st")
    refine ⟨by decide, ?_⟩
    have b2 := fmod_pos_bounds v0 (b := 3) (by decide)
    obtain ⟨s, es⟩ : ∃ s : Nat, 1 + v0.fmod 3 = (s : Int) := ⟨(1 + v0.fmod 3).toNat, by omega⟩
    have hs3 : s = 1 ∨ s = 2 ∨ s = 3 := by first | with_reducible exact Int.natCast_nonneg _ | with_reducible assumption | lia | omega
    rw [es]
    refine S_cons ?_
    try (walk_at "st")
    refine ⟨by simp, fun r1 hr1 => ⟨by simp, fun r2 hr2 => ⟨by simp, fun r3 hr3 => ?_⟩⟩⟩
    have x1 := x0.new' hr1 (.tup [.str (Str.ofString "box"), .int ((m : Int) - 1)])
    have x2 := x1.new' hr2 (.list [.ref r1])
    have x3 := x2.new' hr3 (.list [.ref r2])
    have n12 : r1 ≠ r2 := hr2.ne lk_same
    have hF : FldAt cx (upd (upd (upd H0 r1 (.tup [.str (Str.ofString "box"), .int ((m : Int) - 1)])) r2 (.list [.ref r1])) r3 (.list [.ref r2])) (.ref r2) [(true, ((m - 1 : Nat) : Int))] := by
      refine FldAt.ext (Ext.new hr3 _) ⟨r2, [.ref r1], rfl, lk_same, All2.one ⟨r1, rfl, ?_⟩⟩
      rw [lk_ne n12, lk_same]
      simp [thV, show ((m - 1 : Nat) : Int) = (m : Int) - 1 from by omega]
    have hr3' : lk cx (upd (upd (upd H0 r1 (.tup [.str (Str.ofString "box"), .int ((m : Int) - 1)])) r2 (.list [.ref r1])) r3 (.list [.ref r2])) r3 = some (.list [.ref r2]) := lk_same
    generalize upd (upd (upd H0 r1 (.tup [.str (Str.ofString "box"), .int ((m : Int) - 1)])) r2 (.list [.ref r1])) r3 (.list [.ref r2]) = H3 at x3 hF hr3' ⊢
    refine ⟨by decide, by first | with_reducible exact Int.natCast_nonneg _ | with_reducible assumption | lia | omega, by simp [intsV, rangeL]; omega, fun done acc H₁ => Ext cx H3 H₁ ∧ All2 (FldAt cx H₁) acc ((List.range done.length).map fun (i : Nat) => [(true, ((i + 1 - s : Nat) : Int))]), ⟨Ext.refl _ _, All2.nil⟩, fun _ _ _ _ => trivial, ?_, ?_⟩
    · rintro done x rest acc H₁ hitems ⟨hE, hA⟩
      have hx : (intsV (rangeL 1 m))[done.length]? = some x := by rw [hitems]; simp
      obtain ⟨rfl, hlt⟩ := rangeL_get hx
      try (walk_at "st")
      refine ⟨by simp, fun r5 hr5 => ⟨by simp, fun r6 hr6 => ⟨_, LE.refl _, (hE.new' hr5 _).new' hr6 _, ?_⟩⟩⟩
      rw [List.length_append, List.length_singleton, List.range_succ, List.map_append]
      refine All2.append (hA.imp fun _ _ h => (h.ext (Ext.new hr5 _)).ext (Ext.new hr6 _)) (All2.one ⟨r6, _, rfl, lk_same, All2.one ⟨r5, rfl, ?_⟩⟩)
      rw [lk_ne (hr6.ne lk_same), lk_same]
      have : (if 1 + (done.length : Int) - (s : Int) > 0 then 1 + (done.length : Int) - (s : Int) else 0) = ((done.length + 1 - s : Nat) : Int) := by
        split <;> omega
      simp only [thV, if_true]
      rw [this]
    · rintro acc H₁ ⟨hE, hA⟩ r7 hr7
      try (walk_at "st")
      simp only [lk_fresh hr7 (hE.lk hr3'), lk_same]
      have hal := hA.1
      have hilen : (intsV (rangeL 1 m)).length = m - 1 := by simp [intsV, rangeL]
      rw [List.length_map, List.length_range, hilen] at hal
      refine ⟨by simp [hal]; omega, fun r8 hr8 => RQ.here (hQ r8 _ (chainB m s) (((x3.trans hE).new' hr7 _).new' hr8 _) ⟨r8, _, rfl, lk_same, ?_⟩ (wfb_chain (by first | with_reducible exact Int.natCast_nonneg _ | with_reducible assumption | lia | omega) (by omega)) ?_ (.inr ⟨m, s, hm1, hm2, hs3, rfl⟩))⟩
      · have := All2.append (All2.one (hF.ext hE)) hA
        rw [hilen] at this
        exact this.imp fun _ _ h => (h.ext (Ext.new hr7 _)).ext (Ext.new hr8 _)
      · rw [pl_sum, chainB_length m s (by first | with_reducible exact Int.natCast_nonneg _ | with_reducible assumption | lia | omega)]
        have : ((chainB m s).map List.length).sum ≤ 1 * ((chainB m s).map List.length).length := by
          refine sum_le fun x hx => ?_
          obtain ⟨f, hf, rfl⟩ := List.mem_map.mp hx
          simp only [chainB, List.mem_cons, List.mem_map] at hf
          rcases hf with rfl | ⟨i, _, rfl⟩ <;> simp
        rw [List.length_map, chainB_length m s (by first | with_reducible exact Int.natCast_nonneg _ | with_reducible assumption | lia | omega)] at this
        first | lia | omega
  · walk_at "st"
    refine ⟨by simp, fun r1 hr1 => ?_⟩
    refine S_cut (BI1 cx sa r0 r1 q v0 H0 ss ss) ?_ ?_
    · walk_at "st"
      simp only [lk_fresh hr1 hr0', natsV_length]
      refine ⟨by first | with_reducible exact Int.natCast_nonneg _ | with_reducible assumption | lia | omega, by decide, by first | with_reducible exact Int.natCast_nonneg _ | with_reducible assumption | lia | omega, fun done => BI1 cx sa r0 r1 q v0 H0 ss (ss.take done.length),
        ⟨[], [], _, _, _, _, rfl, Ext.new hr1 _, upd_same _ _ _, All2.nil, rfl, fun f hf => by cases hf⟩, fun _ _ _ _ => trivial, ?_, ?_⟩
      · rintro done x rest μ H2 hitems ⟨vs, B, z6, z8, z9, z10, rfl, hE, hv, hA, hBl, htg⟩
        have hx : (intsV (rangeL 0 ss.length))[done.length]? = some x := by rw [hitems]; simp
        obtain ⟨rfl, hlt⟩ := rangeL_get hx
        rw [Int.zero_add]
        have hdl : done.length < ss.length := by first | with_reducible exact Int.natCast_nonneg _ | with_reducible assumption | lia | omega
        have hsk : ss[done.length]? = some ss[done.length] := List.getElem?_eq_getElem hdl
        have hsmall : ss[done.length] ≤ 400 := by
          have : ss[done.length] ≤ ss.sum := mem_le_sum (List.getElem_mem hdl)
          first | lia | omega
        generalize ss[done.length] = sk at hsk hsmall
        refine S_cons ?_
        try (walk_at "st")
        refine ⟨by simp, fun r2 hr2 => S_cons ?_⟩
        have n21 : r2 ≠ r1 := fun e => hr2.ne' hv e.symm
        try (walk_at "st")
        simp only [lk_fresh hr2 (hE.lk hr0'), natsV_length, natsV_get?, Int.toNat_natCast, hsk, Option.map_some]
        refine ⟨by first | with_reducible exact Int.natCast_nonneg _ | with_reducible assumption | lia | omega, by first | with_reducible exact Int.natCast_nonneg _ | with_reducible assumption | lia | omega, ?_⟩
        try (walk_at "st")
        refine ⟨by decide, by first | with_reducible exact Int.natCast_nonneg _ | with_reducible assumption | lia | omega, BI2 cx sa r0 r1 r2 q v0 done.length H2 ss.length,
          ⟨[], [], _, _, rfl, Ext.new hr2 _, upd_same _ _ _, All2.nil, rfl, fun f hf => by cases hf⟩, fun _ _ _ _ => trivial, ?_, ?_⟩
        · rintro d2 y rest2 μ H3 hitems2 ⟨ts, f, z9, z10, rfl, hE2, hr2', hA2, hfl, htg2⟩
          have hy : (intsV (rangeL 0 sk))[d2.length]? = some y := by rw [hitems2]; simp
          obtain ⟨rfl, hlt2⟩ := rangeL_get hy
          rw [Int.zero_add]
          have htl := hA2.1
          refine S_cons ?_
          try (walk_at "st")
          refine ⟨by decide, ?_⟩
          have b1 := fmod_pos_bounds ((done.length : Int) + (d2.length : Int)) (b := 40) (by decide)
          refine hat _ _ _ ((hE.trans hE2).lk hs0) (by first | with_reducible exact Int.natCast_nonneg _ | with_reducible assumption | lia | omega) fun v hv' => ?_
          try (walk_at "st")
          refine ⟨mulOk_r (by decide), mulOk_r (by decide), mulOk_r (by decide), by decide, ?_⟩
          generalize hsd : (v * 16807 + (done.length : Int) * 6101 + (d2.length : Int) * 4099 + 7) = sd'
          have b2 := fmod_pos_bounds sd' (b := 999979) (by decide)
          generalize sd'.fmod 999979 = sd at b2
          refine S_cons ?_
          try (walk_at "st")
          have hfin : ∀ (t : Th) (r3 : Addr), Fresh cx H3 r3 → (t.1 = true → ∃ j : Nat, t.2 = (j : Int) ∧ j < ss.length) → ∃ (ts' : List V) (f' : List Th), Ext cx H2 (upd (upd H3 r3 (.tup (thV t))) r2 (.list (ts ++ [.ref r3]))) ∧ (upd (upd H3 r3 (.tup (thV t))) r2 (.list (ts ++ [.ref r3]))) r2 = some (.list ts') ∧ All2 (ThAt cx (upd (upd H3 r3 (.tup (thV t))) r2 (.list (ts ++ [.ref r3])))) ts' f' ∧ f'.length = d2.length + 1 ∧ ∀ t ∈ f', t.1 = true → ∃ j : Nat, t.2 = (j : Int) ∧ j < ss.length := by
            intro t r3 hr3 ht
            have n32 : r2 ≠ r3 := hr3.ne' hr2'
            have h2' : (upd H3 r3 (.tup (thV t))) r2 = some (.list ts) := by rw [upd_ne _ n32]; exact hr2'
            refine ⟨ts ++ [.ref r3], f ++ [t], (hE2.new' hr3 _).upd hr2.1 hr2.2.2 _, upd_same _ _ _, All2.append (hA2.imp fun _ _ h => (h.ext (Ext.new hr3 _)).updl h2') (All2.one ⟨r3, rfl, ?_⟩), by simp [hfl], fun u hu hu1 => ?_⟩
            · rw [lk_ne (Ne.symm n32), lk_same]
            · rcases List.mem_append.mp hu with hu | hu
              · exact htg2 u hu hu1
              · rw [List.mem_singleton.mp hu] at hu1 ⊢; exact ht hu1
          refine ⟨by decide, fun _ => S_cons ?_, fun _ => S_cons ?_⟩
          · walk_at "st"
            simp only [hr2']
            refine ⟨trivial, by decide, hnum _ _ _ (bits_of (k := 20) ?_ (by decide)) fun u hu => ?_⟩
            · rw [fdiv4]; first | lia | omega
            refine ⟨by simp, fun r3 hr3 => ?_⟩
            have n32 : r2 ≠ r3 := hr3.ne' hr2'
            obtain ⟨ts', f', g1, g2, g3, g4, g5⟩ := hfin (false, u) r3 hr3 (fun e => by cases e)
            simp only [upd_ne _ n32, hr2']
            refine ⟨by first | with_reducible exact Int.natCast_nonneg _ | with_reducible assumption | lia | omega, S_nil (S_nil ⟨_, LE.refl _, ts', f', _, _, rfl, g1, g2, g3, by simp [g4], g5⟩)⟩
          · walk_at "st"
            simp only [hr2', (hE.trans hE2).lk hr0', natsV_length]
            refine ⟨trivial, by decide, by first | with_reducible exact Int.natCast_nonneg _ | with_reducible assumption | lia | omega, ?_⟩
            refine ⟨by have : 0 < ss.length := by first | with_reducible exact Int.natCast_nonneg _ | with_reducible assumption | lia | omega
                       omega, ?_⟩
            have b3 := fmod_pos_bounds (sd.fdiv 4) (b := (ss.length : Int)) (by first | with_reducible exact Int.natCast_nonneg _ | with_reducible assumption | lia | omega)
            obtain ⟨j, ej⟩ := Int.eq_ofNat_of_zero_le b3.1
            rw [ej] at b3 ⊢
            refine ⟨by simp, fun r3 hr3 => ?_⟩
            have n32 : r2 ≠ r3 := hr3.ne' hr2'
            obtain ⟨ts', f', g1, g2, g3, g4, g5⟩ := hfin (true, (j : Int)) r3 hr3 (fun e => ⟨j, rfl, by first | with_reducible exact Int.natCast_nonneg _ | with_reducible assumption | lia | omega⟩)
            simp only [upd_ne _ n32, hr2']
            refine ⟨by first | with_reducible exact Int.natCast_nonneg _ | with_reducible assumption | lia | omega, S_nil (S_nil ⟨_, LE.refl _, ts', f', _, _, rfl, g1, g2, g3, by simp [g4], g5⟩)⟩
        · rintro μ H3 ⟨ts, f, z9, z10, rfl, hE2, hr2', hA2, hfl, htg2⟩
          have hfk : f.length = sk := by rw [hfl]; simp [intsV, rangeL]
          have hv3 : H3 r1 = some (.list vs) := hE2.le _ _ hv
          have hvl := hA.1
          have hbl2 : B.length = done.length := by have := congrArg List.length hBl; simp at this; first | lia | omega
          refine S_cons ?_
          try (walk_at "st")
          simp only [hv3]
          refine ⟨trivial, by first | with_reducible exact Int.natCast_nonneg _ | with_reducible assumption | lia | omega, S_nil ⟨_, LE.refl _, vs ++ [.ref r2], B ++ [f], _, _, _, _, rfl, (hE.trans hE2).upd hr1.1 hr1.2.2 _, upd_same _ _ _, All2.append (hA.imp fun v g ⟨h1, h2⟩ => ⟨(h1.ext hE2).updl hv3 h2, h2⟩) (All2.one ⟨?_, ?_⟩), ?_, ?_⟩⟩
          · exact FldAt.updl hv3 (fun e => n21 (by cases e; rfl)) ⟨r2, ts, rfl, lk_of hr2', hA2⟩
          · intro e; cases e; exact n21 rfl
          · rw [List.map_append, hBl, List.length_append, List.length_singleton, List.take_succ, hsk]; simp [hfk]
          · intro g hg t ht ht1
            rcases List.mem_append.mp hg with hg | hg
            · exact htg g hg t ht ht1
            · rw [List.mem_singleton.mp hg] at ht; exact htg2 t ht ht1
      · rintro μ H2 ⟨vs, B, z6, z8, z9, z10, rfl, hE, hv, hA, hBl, htg⟩
        refine ⟨vs, B, z6, z8, z9, z10, rfl, hE, hv, hA, ?_, htg⟩
        rw [hBl]; simp [intsV, rangeL]
    rintro μ' H2 ⟨vs, B, z6, z8, z9, z10, rfl, hE, hv, hA, hBl, htg⟩
    have hlen : B.length = ss.length := by rw [← hBl]; simp
    refine S_cons ?_
    try (walk_at "st")
    refine RQ.here (hQ r1 H2 B (x0.trans hE) ⟨r1, vs, rfl, lk_of hv, hA.imp fun _ _ h => h.1⟩ ⟨?_, ?_⟩ ?_ (.inl (by first | with_reducible exact Int.natCast_nonneg _ | with_reducible assumption | lia | omega)))
    · rw [hlen]; exact List.length_pos_iff.mpr hne
    · rw [hlen]; exact htg
    · rw [pl_sum, hBl, hlen]; first | lia | omega
noncomputable def BoxesSpec (cx : Cx) (n : Nat) (f sa : Addr) (ns : List Int) : Prop := ∀ (q : Int) (H : HP) (Q : V → HP → Prop), lk cx H sa = some (.list (intsV ns)) → 0 ≤ q →
  (∀ r H' B, Ext cx H H' → BoxAt cx H' (.ref r) B → WFB B → pl B B.length ≤ 400 → Sortable B → Q (.ref r) H') → CallP cx n f [.ref sa, .int q] H Q
end
end Mine
end

section
namespace Mine
open PySem PyProof.Rows
section
variable {cx : Cx} {H H' : HP} {n : Nat} {a r : Addr} {o : O} {Q : V → HP → Prop}
noncomputable def m_law4 : MSs :=
  (.cons (.assign 1 (.callf 108 (.cons (.loc 0) (.cons (.cint (1)) .nil))))
  (.cons (.assign 2 (.callf 115 (.cons (.loc 1) .nil)))
  (.cons (.assign 3 (.callf 122 (.cons (.loc 1) (.cons (.loc 2) (.cons (.bin .Mod (.callf 77 (.cons (.loc 0) (.cons (.cint (0)) .nil))) (.cint (20))) .nil)))))
  (.cons (.assign 4 (.callb .sum (.cons (.comp (.bin .Add (.cint (1)) (.callb .len (.cons (.loc 9) .nil))) (.loc 1) (.cbool true)) .nil)))
  (.cons (.assign 5 (.callb .list (.cons (.loc 3) .nil)))
  (.cons (.ite (.not (.callf 89 (.cons (.callf 56 (.cons (.loc 5) (.cons (.loc 4) .nil))) (.cons (.loc 2) .nil)))) (.cons (.ret (.cbool false))
    .nil) .nil)
  (.cons (.assign 6 (.callb .list (.cons (.loc 3) .nil)))
  (.cons (.for_ 7 (.callf 129 (.cons (.loc 1) .nil)) (.cons (.setSub (.loc 6) (.sub (.loc 2) (.loc 7)) (.bin .Add (.sub (.loc 6) (.sub (.loc 2) (.loc 7))) (.cint (2))))
    .nil))
  (.cons (.assign 8 (.callf 70 (.cons (.loc 5) (.cons (.loc 4) .nil))))
  (.cons (.ite (.not (.callf 89 (.cons (.loc 8) (.cons (.loc 6) .nil)))) (.cons (.ret (.cbool false))
    .nil) .nil)
  (.cons (.expr (.meth (.loc 8) .append (.cons (.cint (5)) .nil)))
  (.cons (.ret (.callf 89 (.cons (.loc 5) (.cons (.loc 3) .nil))))
  .nil))))))))))))
theorem law4_ms {sa : Addr} {ns : List Int} (hbx : BoxesSpec cx n 108 sa ns) (hpl : PlacesSpec cx n 115) (hrw : RowSpec cx n 122) (hat : AtSpec cx n 77 sa ns) (hw : WordsSpec cx n 89) (hh : HeadsSpec cx n 56) (hal : AliveSpec cx n 129) (hmk : MarkedSpec cx n 70)
    (hs : lk cx H sa = some (.list (intsV ns))) (hQ : ∀ H', Q (.bool true) H') : mwpSs cx n m_law4 [.ref sa, .unb, .unb, .unb, .unb, .unb, .unb, .unb, .unb] H (NQ Q) (RQ Q) := by
  refine S_cons ?_
  try (walk_at "st")
  refine hbx _ _ _ hs (by decide) fun ba H1 B x1 hb w hB hso => ?_
  have hs1 := x1.lk hs
  have hBl := len_le_pl B (Nat.le_refl B.length)
  refine S_cons ?_
  try (walk_at "st")
  refine hpl _ B _ _ hb (by first | with_reducible exact Int.natCast_nonneg _ | with_reducible assumption | lia | omega) fun pa hpa => ?_
  have x2 : Ext cx H1 (upd H1 pa (.list (natsV ((List.range B.length).map (pl B))))) := Ext.new hpa _
  have hp2 : lk cx (upd H1 pa (.list (natsV ((List.range B.length).map (pl B))))) pa = some (.list (natsV ((List.range B.length).map (pl B)))) := lk_same
  generalize upd H1 pa (.list (natsV ((List.range B.length).map (pl B)))) = H2 at x2 hp2
  refine S_cons ?_
  try (walk_at "st")
  refine hat _ _ _ (x2.lk hs1) (by decide) fun v0 hv0 => ?_
  try (walk_at "st")
  refine ⟨by decide, ?_⟩
  have b0 := fmod_pos_bounds v0 (b := 20) (by decide)
  obtain ⟨sp, esp⟩ := Int.eq_ofNat_of_zero_le b0.1
  rw [esp] at b0 ⊢
  have hgs : ∀ {j : Nat}, j < B.length → ((List.range B.length).map (pl B))[j]? = some (pl B j) := fun hj => by simp [hj]
  refine hrw ba pa B _ (pl B) sp _ _ (hb.ext x2) hp2 (by simp; omega) (by first | with_reducible exact Int.natCast_nonneg _ | with_reducible assumption | lia | omega) (by first | with_reducible exact Int.natCast_nonneg _ | with_reducible assumption | lia | omega) (fun f hf t ht e => ?_) fun ra H3 x3 hra hra3 => ?_
  · obtain ⟨j, ej, hj⟩ := w.tgt f hf t ht e
    exact ⟨j, ej, hgs hj⟩
  have hxl : (rowOf (pl B) B ++ List.replicate sp 0).length ≤ 1000 := by rw [List.length_append, rowOf_length, List.length_replicate]; first | lia | omega
  have hS : Shp B (rowOf (pl B) B ++ List.replicate sp 0) := shp_rowOf hxl
  generalize rowOf (pl B) B ++ List.replicate sp 0 = xs at hra3 hxl hS
  have hb3 := (hb.ext x2).ext x3
  have hp3 := x3.lk hp2
  clear hs1 hs hv0 esp x1 x2 hp2 hb hra
  refine S_cons ?_
  try (walk_at "st")
  obtain ⟨_, vs, e, hbl, hA⟩ := id hb3
  cases e
  have hvl := hA.1
  simp only [hbl]
  refine ⟨by first | with_reducible exact Int.natCast_nonneg _ | with_reducible assumption | lia | omega, by first | with_reducible exact Int.natCast_nonneg _ | with_reducible assumption | lia | omega, fun done acc H₁ => H₁ = H3 ∧ acc = natsV ((B.take done.length).map fun f => 1 + f.length), ⟨rfl, rfl⟩, ?_, ?_, ?_⟩
  · rintro done acc H₁ ⟨rfl, rfl⟩; exact hbl
  · rintro done x rest acc H₁ hitems ⟨rfl, rfl⟩
    have hx : vs[done.length]? = some x := by rw [hitems]; simp
    obtain ⟨f, hf, a, ts, rfl, hfa, hts⟩ := hA.get hx
    have hfl := fld_le_pl hf
    have := hts.1
    try (walk_at "st")
    simp only [hfa]
    refine ⟨by first | with_reducible exact Int.natCast_nonneg _ | with_reducible assumption | lia | omega, _, LE.refl _, rfl, ?_⟩
    rw [hts.1, show (1 + (f.length : Int)) = ((1 + f.length : Nat) : Int) from by first | with_reducible exact Int.natCast_nonneg _ | with_reducible assumption | lia | omega, Option.toList_some, natsV_snoc, List.length_append, List.length_singleton, List.take_succ, hf]
    simp
  rintro acc H₁ ⟨rfl, rfl⟩ r4 hr4
  have has : asInts (natsV ((B.take vs.length).map fun f => 1 + f.length)) = some (((B.take vs.length).map fun f => 1 + f.length).map fun k : Nat => (k : Int)) := asInts_ints _
  have hpls : ((B.take vs.length).map fun f => 1 + f.length).sum = pl B B.length := by rw [hvl]; rfl
  try (walk_at "st")
  simp only [lk_same, has, nat_sum, hpls]
  refine ⟨fits_nat (by rw [hpls]; omega), ?_⟩
  have x4 := Ext.new hr4 (.list (natsV ((B.take vs.length).map fun f => 1 + f.length)))
  generalize upd H₁ r4 (.list (natsV ((B.take vs.length).map fun f => 1 + f.length))) = H4 at x4
  have hra4 := x4.le _ _ hra3
  have hp4 := x4.lk hp3
  have hb4 := hb3.ext x4
  clear has hpls hbl hA hvl x4 hr4 hra3 hp3 hb3
  refine S_cons ?_
  try (walk_at "st")
  simp only [lk_of hra4, ints_length]
  refine ⟨by first | with_reducible exact Int.natCast_nonneg _ | with_reducible assumption | lia | omega, fun ha hha => ?_⟩
  have x5 := Ext.new hha (.list (intsV xs))
  have hha5 : (upd H4 ha (.list (intsV xs))) ha = some (.list (intsV xs)) := upd_same _ _ _
  have nra : ra ≠ ha := hha.ne' hra4
  generalize upd H4 ha (.list (intsV xs)) = H5 at x5 hha5
  have hra5 := x5.le _ _ hra4
  have hp5 := x5.lk hp4
  have hb5 := hb4.ext x5
  clear hra4 hp4 hb4 x5 hha
  refine S_cons ?_
  try (walk_at "st")
  refine hh ha xs B _ _ (lk_of hha5) hS (by first | with_reducible exact Int.natCast_nonneg _ | with_reducible assumption | lia | omega) fun r6 H6 x6 hr6 hr6' => ?_
  refine hw r6 pa (((List.range B.length).map (pl B)).map fun k : Nat => (k : Int)) _ _ hr6' (x6.lk hp5) (by simp; omega) ?_
  try (walk_at "st")
  refine S_nil ?_
  have hra6 := x6.le _ _ hra5
  have hha6 := x6.le _ _ hha5
  have hp6 := x6.lk hp5
  have hb6 := hb5.ext x6
  clear hra5 hp5 hb5 x6 hha5 hr6 hr6'
  refine S_cons ?_
  try (walk_at "st")
  simp only [lk_of hra6, ints_length]
  refine ⟨by first | with_reducible exact Int.natCast_nonneg _ | with_reducible assumption | lia | omega, fun da hda => ?_⟩
  have x7 := Ext.new hda (.list (intsV xs))
  have nda : ∀ {b : Addr} {o : O}, lk cx H6 b = some o → b ≠ da := fun h => hda.ne h
  have hpne := nda hp6
  have hrne := nda (lk_of hra6)
  have hhne := nda (lk_of hha6)
  refine S_cut (fun μ H' => ∃ (L : List Nat) (z7 : V), μ = [.ref sa, .ref ba, .ref pa, .ref ra, .int (pl B B.length), .ref ha, .ref da, z7, .unb] ∧ H' da = some (.list (intsV (bump xs (L.map (pl B))))) ∧ H' ha = some (.list (intsV xs)) ∧ H' ra = some (.list (intsV xs)) ∧ ∀ k, k ∈ L ↔ Reach B k) ?_ ?_
  · walk_at "st"
    refine hal _ B _ _ (hb6.ext x7) w (by first | with_reducible exact Int.natCast_nonneg _ | with_reducible assumption | lia | omega) hso fun r8 H8 l x8 hr8 hr8' hperm hsort => ?_
    obtain ⟨a1, a2, a3⟩ := alive_ok w
    have hL := sorted_is (p := fun k => decide (k ∈ aliveL B)) a1 a2 (fun k => decide_eq_true_iff) hperm hsort
    generalize hLd : kl (fun k => decide (k ∈ aliveL B)) B.length = L at hL
    have hLm : ∀ k, k ∈ L ↔ Reach B k := by
      intro k
      rw [← hLd, kl_mem, decide_eq_true_iff]
      exact ⟨fun h => (a3 k).mp h.2, fun h => ⟨h.lt w, (a3 k).mpr h⟩⟩
    have hLn : L.Nodup := by
      rw [← hLd]
      exact (kl_sorted _ _).imp fun h => by first | with_reducible exact Int.natCast_nonneg _ | with_reducible assumption | lia | omega
    have hLl : ∀ k ∈ L, k < B.length := fun k hk => ((hLm k).mp hk).lt w
    subst hL
    have hda8 := x8.le _ _ (upd_same H6 da (.list (intsV xs)))
    have n8 : r8 ≠ da := fun e => by
      have := hr8.1; rw [e, upd_same] at this; cases this
    have hLlen : L.length ≤ 1000 := Nat.le_trans (nodup_bound _ hLn hLl) (by first | with_reducible exact Int.natCast_nonneg _ | with_reducible assumption | lia | omega)
    have hp8 := x8.lk (x7.lk hp6)
    try (walk_at "st")
    simp only [lk_of hr8', ints_length, List.length_map]
    refine ⟨by first | with_reducible exact Int.natCast_nonneg _ | with_reducible assumption | lia | omega, fun done μ H' => ∃ z7, μ = [.ref sa, .ref ba, .ref pa, .ref ra, .int (pl B B.length), .ref ha, .ref da, z7, .unb] ∧ H' = upd H8 da (.list (intsV (bump xs ((L.take done.length).map (pl B))))), ?_, ?_, ?_, ?_⟩
    · refine ⟨_, rfl, ?_⟩
      simp only [List.length_nil, List.take_zero, List.map_nil, bump_nil]
      funext b
      by_cases q : b = da
      · subst q; rw [upd_same, hda8]
      · rw [upd_ne _ q]
    · rintro done μ H' ⟨z7, rfl, rfl⟩
      rw [lk_ne n8]; exact lk_of hr8'
    · rintro done x rest μ H' hitems ⟨z7, rfl, rfl⟩
      have hx : (intsV (L.map fun k : Nat => (k : Int)))[done.length]? = some x := by rw [hitems]; simp
      rw [ints_get?, List.getElem?_map] at hx
      cases hk : L[done.length]? with
      | none => rw [hk] at hx; cases hx
      | some k =>
      rw [hk] at hx
      simp only [Option.map_some, Option.some.injEq] at hx
      subst hx
      have hdl := (List.getElem?_eq_some_iff.mp hk).1
      have hkl := hLl k (List.mem_of_getElem? hk)
      have hf : B[k]? = some B[k] := List.getElem?_eq_getElem hkl
      have hnot : k ∉ L.take done.length := by
        intro hm
        obtain ⟨i, hi⟩ := List.getElem?_of_mem hm
        have hi1 := (List.getElem?_eq_some_iff.mp hi).1
        rw [List.length_take] at hi1
        rw [List.getElem?_take, if_pos (by first | with_reducible exact Int.natCast_nonneg _ | with_reducible assumption | lia | omega)] at hi
        have := (List.getElem?_inj (i := i) (j := done.length) (by first | with_reducible exact Int.natCast_nonneg _ | with_reducible assumption | lia | omega) hLn).mp (hi.trans hk.symm)
        first | lia | omega
      have hhd := bump_head (M := L.take done.length) hS (fun i hi => hLl i (List.mem_of_mem_take hi)) hf
      rw [if_neg hnot, Int.add_zero] at hhd
      have hpk : pl B k < xs.length := (List.getElem?_eq_some_iff.mp (hS.hd hf)).1
      refine S_cons ?_
      try (walk_at "st")
      have hbl8 : (bump xs ((L.take done.length).map (pl B))).length = xs.length := bump_length _ _
      simp only [lk_ne hpne, hp8, lk_same, upd_same, natsV_length, natsV_get?, Int.toNat_natCast, hgs hkl, Option.map_some, List.length_map, List.length_range]
      refine ⟨by first | with_reducible exact Int.natCast_nonneg _ | with_reducible assumption | lia | omega, by first | with_reducible exact Int.natCast_nonneg _ | with_reducible assumption | lia | omega, ?_⟩
      try (walk_at "st")
      simp only [lk_ne hpne, hp8, lk_same, upd_same, natsV_length, natsV_get?, ints_length, ints_get?, Int.toNat_natCast, hgs hkl, hhd, Option.map_some, List.length_map, List.length_range, hbl8]
      refine ⟨by first | with_reducible exact Int.natCast_nonneg _ | with_reducible assumption | lia | omega, by first | with_reducible exact Int.natCast_nonneg _ | with_reducible assumption | lia | omega, ?_⟩
      try (walk_at "st")
      simp only [lk_ne hpne, hp8, lk_same, upd_same, natsV_length, natsV_get?, ints_length, ints_get?, Int.toNat_natCast, hgs hkl, hhd, Option.map_some, List.length_map, List.length_range, hbl8]
      refine ⟨by first | with_reducible exact Int.natCast_nonneg _ | with_reducible assumption | lia | omega, by first | with_reducible exact Int.natCast_nonneg _ | with_reducible assumption | lia | omega, ?_⟩
      try (walk_at "st")
      simp only [upd_same, ints_length, ints_set, Int.toNat_natCast, upd_upd, hbl8]
      refine ⟨by first | with_reducible exact Int.natCast_nonneg _ | with_reducible assumption | lia | omega, by first | with_reducible exact Int.natCast_nonneg _ | with_reducible assumption | lia | omega, hpk, S_nil ⟨_, LE.refl _, _, rfl, ?_⟩⟩
      rw [bump_set (hS.hd hf)]
      have hbc : bump xs (pl B k :: (L.take done.length).map (pl B)) = bump xs ((L.take (done ++ [V.int (k : Int)]).length).map (pl B)) := ?_
      · rw [hbc]
      refine bump_congr _ fun i => ?_
      rw [List.length_append, List.length_singleton, List.take_succ, hk]
      rw [List.map_append, List.mem_append, List.mem_cons]
      simp only [Option.toList_some, List.map_cons, List.map_nil, List.mem_singleton]
      exact Or.comm
    · rintro μ H' ⟨z7, rfl, rfl⟩
      refine ⟨L, z7, rfl, ?_, ?_, ?_, hLm⟩
      · rw [upd_same, ints_length, List.length_map, List.take_length]
      · rw [upd_ne _ hhne]; exact x8.le _ _ (x7.le _ _ hha6)
      · rw [upd_ne _ hrne]; exact x8.le _ _ (x7.le _ _ hra6)
  rintro μ' H9 ⟨L, z7, rfl, hda9, hha9, hra9, hL⟩
  refine S_cons ?_
  try (walk_at "st")
  refine hmk ha xs B _ _ _ (lk_of hha9) hS w (by first | with_reducible exact Int.natCast_nonneg _ | with_reducible assumption | lia | omega) fun fa HA M xA hfa hfaA hM => ?_
  have hbe : bump xs (M.map (pl B)) = bump xs (L.map (pl B)) := by
    refine bump_congr _ fun i => ?_
    rw [List.mem_map, List.mem_map]
    exact ⟨fun ⟨k, hk, e⟩ => ⟨k, (hL k).mpr ((hM k).mp hk), e⟩, fun ⟨k, hk, e⟩ => ⟨k, (hM k).mpr ((hL k).mp hk), e⟩⟩
  rw [hbe] at hfaA
  refine S_cons ?_
  try (walk_at "st")
  refine hw fa da _ _ _ hfaA (xA.lk (lk_of hda9)) (by rw [bump_length]; omega) ?_
  try (walk_at "st")
  refine S_nil (S_cons ?_)
  have hfh : ha ≠ fa := fun e => by have := hfa.1; rw [← e, hha9] at this; cases this
  have hfr : ra ≠ fa := fun e => by have := hfa.1; rw [← e, hra9] at this; cases this
  try (walk_at "st")
  simp only [hfaA, ints_length, bump_length]
  refine ⟨trivial, by first | with_reducible exact Int.natCast_nonneg _ | with_reducible assumption | lia | omega, S_cons ?_⟩
  try (walk_at "st")
  refine hw ha ra xs _ _ (by rw [upd_ne _ hfh]; exact xA.le _ _ hha9) (by rw [lk_ne hfr]; exact lk_of (xA.le _ _ hra9)) (by first | with_reducible exact Int.natCast_nonneg _ | with_reducible assumption | lia | omega) ?_
  exact RQ.here (hQ _)
end
end Mine
end

section
open PySem PySem.W PyProof.Rows
namespace Mine

noncomputable def fdAt (K : Frag) (f : Addr) : FuncData := match K.lookup f with
  | some ⟨_, _, .func fd, _⟩ => fd
  | _ => default
noncomputable def bodyOf (fd : FuncData) : List Stmt := match fd.body with
  | .stmts b => b
  | _ => []
noncomputable def codeOk (K : Frag) (fd : FuncData) : Bool := match fd.code with
  | .ref c => match K.lookup c with
    | some ⟨_, _, .fields vs, _⟩ => match (vs[1]? : Option Value) with
      | some (.str q _) => q == fd.qualname
      | _ => false
    | _ => false
  | _ => false
noncomputable def isStmts (fd : FuncData) : Bool := match fd.body with
  | .stmts _ => true
  | _ => false
noncomputable def isFunc (K : Frag) (f : Addr) : Bool := match K.lookup f with
  | some ⟨_, _, .func _, _⟩ => true
  | _ => false
noncomputable def defOk (K : Frag) (f : Addr) : Bool := isFunc K f && Nat.beq (fdAt K f).globals mainGlobals && Nat.beq (fdAt K f).builtins builtinsNs && (fdAt K f).closure.isEmpty && codeOk K (fdAt K f) && isStmts (fdAt K f) &&
  decide ((fdAt K f).scope.kind = .function) && !(fdAt K f).scope.isCoroutine && !(fdAt K f).scope.isGenerator

theorem def_of {cx : Cx} {K : Frag} (X : K.In cx.base) {f : Addr} (h : defOk K f = true) (ps : List Str) (hb : ∀ vs : List Value, vs.length = ps.length → bindArgs (fdAt K f) ⟨vs, []⟩ = pure (ps.zip vs)) :
    Def cx f ps (bodyOf (fdAt K f)) (fdAt K f).scope := by
  simp only [defOk, Bool.and_eq_true, Bool.not_eq_true', decide_eq_true_eq] at h
  obtain ⟨⟨⟨⟨⟨⟨⟨⟨h1, h2⟩, h3⟩, h4⟩, h5⟩, h6⟩, h7⟩, h8⟩, h9⟩ := h
  refine ⟨?_, h7, h8, h9⟩
  unfold isFunc at h1
  split at h1
  · rename_i c d fd sl e
    have efd : fdAt K f = fd := by unfold fdAt; rw [e]
    rw [efd] at h2 h3 h4 h5 h6 hb ⊢
    refine ⟨_, fd, X _ _ e, rfl, ?_, rfl, Nat.eq_of_beq_eq_true h2, Nat.eq_of_beq_eq_true h3, by simpa using h4, ?_, hb⟩
    · unfold isStmts at h6
      unfold bodyOf
      split at h6
      · rename_i q; rw [q]
      · cases h6
    · unfold codeOk at h5
      split at h5
      · rename_i cc ec
        split at h5
        · rename_i e2
          split at h5
          · rename_i q t e3
            rw [ec]
            exact ⟨cc, _, _, t, rfl, X _ _ e2, rfl, by rw [e3, eq_of_beq h5]⟩
          · cases h5
        · cases h5
      · cases h5
  · cases h1

noncomputable def GT := List (Str × Value)
noncomputable def GT.all (h : Heap) : List (Str × Value) → Prop
  | [] => True
  | (x, v) :: r => GlobAt h x v ∧ GT.all h r
theorem GT.at {h : Heap} : ∀ {l : List (Str × Value)}, GT.all h l → ∀ x v, l.lookup x = some v → GlobAt h x v
  | (y, w) :: r, a, x, v, e => by
    rw [List.lookup_cons] at e
    cases hb : x == y with
    | true => rw [hb] at e; cases e; rw [eq_of_beq hb]; exact a.1
    | false => rw [hb] at e; exact GT.at a.2 x v e

theorem glob_K {p : Program} {loose : List Str} {mean : ExcName → Option Value} {mg mb : Str → Option Value} {h : Heap} (T : Top p loose mean mg mb h) {K : Frag} (X : K.In h) {x : Str} {v : Value} (e : nsIn K mainGlobals x = some (some v)) : GlobAt h x v :=
  .inl ⟨mg, T.g, mg_of X T.g e⟩
theorem glob_B {p : Program} {loose : List Str} {mean : ExcName → Option Value} {mg mb : Str → Option Value} {h : Heap} (T : Top p loose mean mg mb h) {K : Frag} (X : K.In h) {x : Str} {v : Value} (e : nsIn K mainGlobals x = some none) (hv : bootBuiltins x = some v) (hn : x ≠ "__name__") : GlobAt h x v :=
  .inr ⟨mg, mb, T.g, mg_none_of X T.g e, T.b, (T.builtins x hn).trans hv⟩

theorem ints_of : ∀ {vs : List Value} {ns : List Int}, IntsAre vs ns → vs.map abs = intsV ns
  | _, _, .nil => rfl
  | _, _, .cons n t r => by simp only [List.map_cons, intsV, abs]; rw [ints_of r]; rfl

theorem law_good {l : OpenLaw} {cl : Str → Option Addr} {mean : ExcName → Option Value} {args : List WData} {s₁ s' : Shared} (hk : ∀ b o, s₁.heap.get? b = some o → s'.heap.get? b = some o) (hos : s'.os = s₁.os) (hg : s'.gens = #[]) :
    GoodWG l.row.claim cl mean args s₁ (.ok (.ret (.bool true))) s' :=
  GoodW.toG ⟨.inl ⟨.bool true, .bool true, [], rfl, raisesW_false (fun _ h => nomatch h), .bool true, postW_of (X := (true == true)) rfl (w_eq_bool (w_res rfl) w_lit) rfl, fun _ => ⟨.nil, fun _ h => nomatch h⟩⟩, hk, hos, hg⟩

theorem law_end {l : OpenLaw} {cl : Str → Option Addr} {mean : ExcName → Option Value} {args : List WData} {cx : Cx} {s₁ : Shared} (hb : cx.base = s₁.heap) (hg : s₁.gens = #[]) {f sa : Addr} {n : Nat} (hn : n ≤ 100)
    (h : CallP cx n f [.ref sa] (fun _ => none) fun v _ => v = .bool true) : codeAny (model cx.prog cx.w) callerA (.call (.ref f) ⟨[.ref sa], []⟩) (GoodWG l.row.claim cl mean args s₁) s₁ := by
  refine codeAny_mono (h callerA s₁ [.ref sa] ⟨rfl, by show 1 + claimMargin + n < 850; unfold claimMargin; omega, by show 4 + 16 * n < 9000; omega, [], rfl⟩ ⟨fun _ _ e => (nomatch e), fun b o e => by rw [hb] at e; exact e, fun _ _ e => (nomatch e)⟩ rfl) fun r s' hr => ?_
  obtain ⟨v, H', rfl, S, k, hv⟩ := hr
  have := abs_bool hv; subst this
  exact law_good (fun b o e => k.keep b o e rfl id) k.os (k.gens.trans hg)
end Mine
end

section
open PySem PySem.W PyProof.Rows
namespace Mine
noncomputable def bt : List (Str × Value) := [("len", .builtin "len"), ("list", .type "list"), ("int", .type "int"), ("tuple", .type "tuple"), ("isinstance", .builtin "isinstance"), ("range", .type "range"), ("sum", .builtin "sum"), ("max", .builtin "max"), ("min", .builtin "min"), ("sorted", .builtin "sorted")]
noncomputable def stdB : List (Str × BF) := [("len", .len), ("list", .list), ("int", .int), ("sum", .sum), ("max", .max), ("sorted", .sorted)]
noncomputable def stdT : List (Str × String) := [("int", "int"), ("list", "list"), ("tuple", "tuple")]
theorem script_obj {P : Params} {h : Heap} {sa : Addr} {vs : List Value} {ns : List Int} (hW : Well P h (.ref sa) (ofPy (PyData.list (ns.map PyData.int)))) (hL : h.IsList sa vs.toArray) (hI : IntsAre vs ns) : Rep h sa (.list (intsV ns)) := by
  generalize hd : ofPy (PyData.list (ns.map PyData.int)) = d at hW
  obtain ⟨o, ho, hc, k, hk⟩ := hL
  cases hW with
  | list e _ =>
    rw [ho] at e
    cases e
    simp only at hk
    cases hk
    exact ⟨_, _, ho, by simpa using ints_of hI⟩
  | _ => first | (rename_i e _; rw [ho] at e; cases e; simp at hc; done) | (rename_i e; rw [ho] at e; cases e; simp at hc; done) | (simp [ofPy] at hd)

theorem lookup_app {x : Str} {f : Addr} : ∀ {fns : List (Str × Addr)} {r : List (Str × Value)}, fns.lookup x = some f → (fns.map (fun p => (p.1, Value.ref p.2)) ++ r).lookup x = some (.ref f)
  | (y, g) :: l, r, e => by
    rw [List.lookup_cons] at e
    rw [List.map_cons, List.cons_append, List.lookup_cons]
    cases hb : x == y with
    | true => rw [hb] at e; cases e; rfl
    | false => rw [hb] at e; exact lookup_app e

theorem tbl_ok {cx : Cx} {K : Frag} (X : K.In cx.base) {fns : List (Str × Addr)} {r : List (Str × Value)} {bs : List (Str × BF)} {ts : List (Str × String)} (hg : cx.gl = fun x => (fns.map (fun p => (p.1, Value.ref p.2)) ++ r).lookup x)
    (h1 : (fns.all fun p => isFunc K p.2) = true) (h2 : (bs.all fun p => decide ((fns.map (fun p => (p.1, Value.ref p.2)) ++ r).lookup p.1 = some p.2.val)) = true)
    (h3 : (ts.all fun p => decide ((fns.map (fun p => (p.1, Value.ref p.2)) ++ r).lookup p.1 = some (.type p.2))) = true)
    (h4 : (fns.map (fun p => (p.1, Value.ref p.2)) ++ r).lookup ("isinstance" : Str) = some (.builtin "isinstance")) (h5 : (fns.map (fun p => (p.1, Value.ref p.2)) ++ r).lookup ("range" : Str) = some (.type "range")) : Tbl.OK cx ⟨fns, bs, ts⟩ := by
  refine ⟨fun x f e => ⟨by rw [hg]; exact lookup_app e, ?_⟩, fun x b e => ?_, fun x b e => ?_, by rw [hg]; exact h4, by rw [hg]; exact h5⟩
  · have := List.all_eq_true.mp h1 _ (lookup_mem e)
    unfold isFunc at this
    split at this
    · rename_i c d fd sl q
      exact ⟨_, fd, X _ _ q, rfl⟩
    · cases this
  · rw [hg]; exact of_decide_eq_true (List.all_eq_true.mp h2 _ (lookup_mem e))
  · rw [hg]; exact of_decide_eq_true (List.all_eq_true.mp h3 _ (lookup_mem e))

theorem len_succ {α : Type} {l : List α} {n : Nat} (h : l.length = n + 1) : ∃ a r, l = a :: r ∧ r.length = n := by
  cases l with
  | nil => cases h
  | cons a r => exact ⟨a, r, rfl, Nat.succ.inj h⟩
theorem arity1 {fd : FuncData} {p : Str} (h : ∀ a, bindArgs fd ⟨[a], []⟩ = pure [(p, a)]) (vs : List Value) (hl : vs.length = [p].length) : bindArgs fd ⟨vs, []⟩ = pure ([p].zip vs) := by
  obtain ⟨a, r, rfl, h1⟩ := len_succ hl; have := List.eq_nil_of_length_eq_zero h1; subst this; exact h a
theorem arity2 {fd : FuncData} {p q : Str} (h : ∀ a b, bindArgs fd ⟨[a, b], []⟩ = pure [(p, a), (q, b)]) (vs : List Value) (hl : vs.length = [p, q].length) : bindArgs fd ⟨vs, []⟩ = pure ([p, q].zip vs) := by
  obtain ⟨a, r, rfl, h1⟩ := len_succ hl; obtain ⟨b, r, rfl, h2⟩ := len_succ h1; have := List.eq_nil_of_length_eq_zero h2; subst this; exact h a b
theorem arity3 {fd : FuncData} {p q r : Str} (h : ∀ a b c, bindArgs fd ⟨[a, b, c], []⟩ = pure [(p, a), (q, b), (r, c)]) (vs : List Value) (hl : vs.length = [p, q, r].length) : bindArgs fd ⟨vs, []⟩ = pure ([p, q, r].zip vs) := by
  obtain ⟨a, r', rfl, h1⟩ := len_succ hl; obtain ⟨b, r', rfl, h2⟩ := len_succ h1; obtain ⟨c, r', rfl, h3⟩ := len_succ h2; have := List.eq_nil_of_length_eq_zero h3; subst this; exact h a b c
theorem cx_ok {pr : Program} {w : World} {s₁ : Shared} {p : Program} {loose : List Str} {mean : ExcName → Option Value} {mg mb : Str → Option Value} (T : Top p loose mean mg mb s₁.heap) (hseer : s₁.heap.NoSeer) {gl : List (Str × Value)} (hg : GT.all s₁.heap gl)
    {sa : Addr} {vs : List Value} {ns : List Int} (hW : Well w.params s₁.heap (.ref sa) (ofPy (PyData.list (ns.map PyData.int)))) (hL : s₁.heap.IsList sa vs.toArray) (hI : IntsAre vs ns) (ht : pr.given.tree = none) :
    Cx.OK ⟨pr, w, s₁.heap, fun a => if a = sa then some (intsV ns) else none, fun x => gl.lookup x⟩ := ⟨T.nolimit, hseer, ht, GT.at hg, fun a vs' e => by
    show Rep s₁.heap a (.list vs')
    have e' : (if a = sa then some (intsV ns) else none) = some vs' := e
    split at e'
    · rename_i h; subst h; cases e'; exact script_obj hW hL hI
    · cases e'⟩
end Mine
end

open PySem PySem.W PyProof.Rows
set_option maxRecDepth 100000
set_option maxHeartbeats 8000000
namespace Mine
noncomputable def dP (i : Nat) : PySem.Arguments := match PySem.Challenge.pw_uf060004_04.main.body[i]? with
  | some (.FunctionDef _ a _ _ _ _ _ _ _ _) => a
  | _ => default
noncomputable def dB (i : Nat) : List Stmt := match PySem.Challenge.pw_uf060004_04.main.body[i]? with
  | some (.FunctionDef _ _ b _ _ _ _ _ _ _) => b
  | _ => []
noncomputable def dS (i : Nat) : Scope := match PySem.Challenge.pw_uf060004_04.main.body[i]? with
  | some (.FunctionDef _ _ _ _ _ _ s _ _ _) => s
  | _ => default
noncomputable def kk (P : PySem.Params) : Frag := [(3, { cls := PySem.Value.type "dict", data := PySem.Data.dict #[{ hash := PySem.PyData.keyHash P (PySem.Str.ofString "__name__"), key := PySem.Value.str (PySem.Str.ofString "__name__") 165, val := PySem.Value.str (PySem.Str.ofString "law_uf060004_04") 258 }, { hash := PySem.PyData.keyHash P (PySem.Str.ofString "__doc__"), key := PySem.Value.str (PySem.Str.ofString "__doc__") 166, val := PySem.Value.none }, { hash := PySem.PyData.keyHash P (PySem.Str.ofString "__package__"), key := PySem.Value.str (PySem.Str.ofString "__package__") 167, val := PySem.Value.none }, { hash := PySem.PyData.keyHash P (PySem.Str.ofString "__loader__"), key := PySem.Value.str (PySem.Str.ofString "__loader__") 168, val := PySem.Value.builtin "__main__.__loader__#opaque" }, { hash := PySem.PyData.keyHash P (PySem.Str.ofString "__spec__"), key := PySem.Value.str (PySem.Str.ofString "__spec__") 169, val := PySem.Value.none }, { hash := PySem.PyData.keyHash P (PySem.Str.ofString "__annotations__"), key := PySem.Value.str (PySem.Str.ofString "__annotations__") 170, val := PySem.Value.ref 6 }, { hash := PySem.PyData.keyHash P (PySem.Str.ofString "__builtins__"), key := PySem.Value.str (PySem.Str.ofString "__builtins__") 171, val := PySem.Value.ref 4 }, { hash := PySem.PyData.keyHash P (PySem.Str.ofString "__file__"), key := PySem.Value.str (PySem.Str.ofString "__file__") 173, val := PySem.Value.str (PySem.Str.ofString "/claim/cut.py") 172 }, { hash := PySem.PyData.keyHash P (PySem.Str.ofString "__cached__"), key := PySem.Value.str (PySem.Str.ofString "__cached__") 174, val := PySem.Value.none }, { hash := PySem.PyData.keyHash P (PySem.Str.ofString "head_word"), key := PySem.Value.str (PySem.Str.ofString "head_word") 196, val := PySem.Value.ref 21 }, { hash := PySem.PyData.keyHash P (PySem.Str.ofString "is_link"), key := PySem.Value.str (PySem.Str.ofString "is_link") 203, val := PySem.Value.ref 28 }, { hash := PySem.PyData.keyHash P (PySem.Str.ofString "told_by"), key := PySem.Value.str (PySem.Str.ofString "told_by") 210, val := PySem.Value.ref 35 }, { hash := PySem.PyData.keyHash P (PySem.Str.ofString "fields_of"), key := PySem.Value.str (PySem.Str.ofString "fields_of") 217, val := PySem.Value.ref 42 }, { hash := PySem.PyData.keyHash P (PySem.Str.ofString "is_marked"), key := PySem.Value.str (PySem.Str.ofString "is_marked") 224, val := PySem.Value.ref 49 }, { hash := PySem.PyData.keyHash P (PySem.Str.ofString "heads"), key := PySem.Value.str (PySem.Str.ofString "heads") 236, val := PySem.Value.ref 56 }, { hash := PySem.PyData.keyHash P (PySem.Str.ofString "with_mark"), key := PySem.Value.str (PySem.Str.ofString "with_mark") 245, val := PySem.Value.ref 63 }, { hash := PySem.PyData.keyHash P (PySem.Str.ofString "marked"), key := PySem.Value.str (PySem.Str.ofString "marked") 257, val := PySem.Value.ref 70 }, { hash := PySem.PyData.keyHash P (PySem.Str.ofString "_law_at"), key := PySem.Value.str (PySem.Str.ofString "_law_at") 267, val := PySem.Value.ref 77 }, { hash := PySem.PyData.keyHash P (PySem.Str.ofString "_law_is_int"), key := PySem.Value.str (PySem.Str.ofString "_law_is_int") 274, val := PySem.Value.ref 84 }, { hash := PySem.PyData.keyHash P (PySem.Str.ofString "_law_words_are"), key := PySem.Value.str (PySem.Str.ofString "_law_words_are") 280, val := PySem.Value.ref 89 }, { hash := PySem.PyData.keyHash P (PySem.Str.ofString "_law_number"), key := PySem.Value.str (PySem.Str.ofString "_law_number") 287, val := PySem.Value.ref 96 }, { hash := PySem.PyData.keyHash P (PySem.Str.ofString "_law_sizes"), key := PySem.Value.str (PySem.Str.ofString "_law_sizes") 300, val := PySem.Value.ref 103 }, { hash := PySem.PyData.keyHash P (PySem.Str.ofString "_law_boxes"), key := PySem.Value.str (PySem.Str.ofString "_law_boxes") 306, val := PySem.Value.ref 108 }, { hash := PySem.PyData.keyHash P (PySem.Str.ofString "_law_places"), key := PySem.Value.str (PySem.Str.ofString "_law_places") 316, val := PySem.Value.ref 115 }, { hash := PySem.PyData.keyHash P (PySem.Str.ofString "_law_row"), key := PySem.Value.str (PySem.Str.ofString "_law_row") 328, val := PySem.Value.ref 122 }, { hash := PySem.PyData.keyHash P (PySem.Str.ofString "_law_alive"), key := PySem.Value.str (PySem.Str.ofString "_law_alive") 338, val := PySem.Value.ref 129 }, { hash := PySem.PyData.keyHash P (PySem.Str.ofString "law"), key := PySem.Value.str (PySem.Str.ofString "law") 344, val := PySem.Value.ref 134 }] 27 }),
  (20, { cls := PySem.Value.type "code", data := PySem.Data.fields #[PySem.Value.str (PySem.Str.ofString "head_word") 189, PySem.Value.str (PySem.Str.ofString "head_word") 190, PySem.Value.str (PySem.Str.ofString "/claim/cut.py") 191, PySem.Value.int 2 0, PySem.Value.int 2 0, PySem.Value.int 0 0, PySem.Value.int 0 0, PySem.Value.int 3 0, PySem.Value.ref 15, PySem.Value.bool true, PySem.Value.int 181 0, PySem.Value.ref 16, PySem.Value.none, PySem.Value.ref 17, PySem.Value.ref 18, PySem.Value.ref 19, PySem.Value.int 194 0, PySem.Value.int 2 0, PySem.Value.str (PySem.Str.ofString "/claim/cut.py") 195] }),
  (21, { cls := PySem.Value.type "function", data := PySem.Data.func { name := PySem.Str.ofString "head_word", qualname := PySem.Str.ofString "head_word", params := (dP 1), body := .stmts (dB 1), scope := (dS 1), globals := 3, closure := [], defaults := PySem.Value.none, kwdefaults := PySem.Value.none, pyModule := PySem.Value.str (PySem.Str.ofString "threadslide.words") 187, code := PySem.Value.ref 20 } }),
  (27, { cls := PySem.Value.type "code", data := PySem.Data.fields #[PySem.Value.str (PySem.Str.ofString "is_link") 197, PySem.Value.str (PySem.Str.ofString "is_link") 198, PySem.Value.str (PySem.Str.ofString "/claim/cut.py") 199, PySem.Value.int 6 0, PySem.Value.int 1 0, PySem.Value.int 0 0, PySem.Value.int 0 0, PySem.Value.int 3 0, PySem.Value.ref 22, PySem.Value.bool true, PySem.Value.int 181 0, PySem.Value.ref 23, PySem.Value.none, PySem.Value.ref 24, PySem.Value.ref 25, PySem.Value.ref 26, PySem.Value.int 201 0, PySem.Value.int 6 0, PySem.Value.str (PySem.Str.ofString "/claim/cut.py") 202] }),
  (28, { cls := PySem.Value.type "function", data := PySem.Data.func { name := PySem.Str.ofString "is_link", qualname := PySem.Str.ofString "is_link", params := (dP 2), body := .stmts (dB 2), scope := (dS 2), globals := 3, closure := [], defaults := PySem.Value.none, kwdefaults := PySem.Value.none, pyModule := PySem.Value.str (PySem.Str.ofString "threadslide.words") 187, code := PySem.Value.ref 27 } }),
  (34, { cls := PySem.Value.type "code", data := PySem.Data.fields #[PySem.Value.str (PySem.Str.ofString "told_by") 204, PySem.Value.str (PySem.Str.ofString "told_by") 205, PySem.Value.str (PySem.Str.ofString "/claim/cut.py") 206, PySem.Value.int 8 0, PySem.Value.int 1 0, PySem.Value.int 0 0, PySem.Value.int 0 0, PySem.Value.int 3 0, PySem.Value.ref 29, PySem.Value.bool true, PySem.Value.int 181 0, PySem.Value.ref 30, PySem.Value.none, PySem.Value.ref 31, PySem.Value.ref 32, PySem.Value.ref 33, PySem.Value.int 208 0, PySem.Value.int 8 0, PySem.Value.str (PySem.Str.ofString "/claim/cut.py") 209] }),
  (35, { cls := PySem.Value.type "function", data := PySem.Data.func { name := PySem.Str.ofString "told_by", qualname := PySem.Str.ofString "told_by", params := (dP 3), body := .stmts (dB 3), scope := (dS 3), globals := 3, closure := [], defaults := PySem.Value.none, kwdefaults := PySem.Value.none, pyModule := PySem.Value.str (PySem.Str.ofString "threadslide.words") 187, code := PySem.Value.ref 34 } }),
  (41, { cls := PySem.Value.type "code", data := PySem.Data.fields #[PySem.Value.str (PySem.Str.ofString "fields_of") 211, PySem.Value.str (PySem.Str.ofString "fields_of") 212, PySem.Value.str (PySem.Str.ofString "/claim/cut.py") 213, PySem.Value.int 10 0, PySem.Value.int 1 0, PySem.Value.int 0 0, PySem.Value.int 0 0, PySem.Value.int 3 0, PySem.Value.ref 36, PySem.Value.bool true, PySem.Value.int 181 0, PySem.Value.ref 37, PySem.Value.none, PySem.Value.ref 38, PySem.Value.ref 39, PySem.Value.ref 40, PySem.Value.int 215 0, PySem.Value.int 10 0, PySem.Value.str (PySem.Str.ofString "/claim/cut.py") 216] }),
  (42, { cls := PySem.Value.type "function", data := PySem.Data.func { name := PySem.Str.ofString "fields_of", qualname := PySem.Str.ofString "fields_of", params := (dP 4), body := .stmts (dB 4), scope := (dS 4), globals := 3, closure := [], defaults := PySem.Value.none, kwdefaults := PySem.Value.none, pyModule := PySem.Value.str (PySem.Str.ofString "threadslide.words") 187, code := PySem.Value.ref 41 } }),
  (48, { cls := PySem.Value.type "code", data := PySem.Data.fields #[PySem.Value.str (PySem.Str.ofString "is_marked") 218, PySem.Value.str (PySem.Str.ofString "is_marked") 219, PySem.Value.str (PySem.Str.ofString "/claim/cut.py") 220, PySem.Value.int 12 0, PySem.Value.int 1 0, PySem.Value.int 0 0, PySem.Value.int 0 0, PySem.Value.int 3 0, PySem.Value.ref 43, PySem.Value.bool true, PySem.Value.int 181 0, PySem.Value.ref 44, PySem.Value.none, PySem.Value.ref 45, PySem.Value.ref 46, PySem.Value.ref 47, PySem.Value.int 222 0, PySem.Value.int 12 0, PySem.Value.str (PySem.Str.ofString "/claim/cut.py") 223] }),
  (49, { cls := PySem.Value.type "function", data := PySem.Data.func { name := PySem.Str.ofString "is_marked", qualname := PySem.Str.ofString "is_marked", params := (dP 5), body := .stmts (dB 5), scope := (dS 5), globals := 3, closure := [], defaults := PySem.Value.none, kwdefaults := PySem.Value.none, pyModule := PySem.Value.str (PySem.Str.ofString "threadslide.words") 187, code := PySem.Value.ref 48 } }),
  (55, { cls := PySem.Value.type "code", data := PySem.Data.fields #[PySem.Value.str (PySem.Str.ofString "heads") 227, PySem.Value.str (PySem.Str.ofString "heads") 228, PySem.Value.str (PySem.Str.ofString "/claim/cut.py") 229, PySem.Value.int 15 0, PySem.Value.int 2 0, PySem.Value.int 0 0, PySem.Value.int 0 0, PySem.Value.int 3 0, PySem.Value.ref 50, PySem.Value.bool true, PySem.Value.int 181 0, PySem.Value.ref 51, PySem.Value.none, PySem.Value.ref 52, PySem.Value.ref 53, PySem.Value.ref 54, PySem.Value.int 234 0, PySem.Value.int 15 0, PySem.Value.str (PySem.Str.ofString "/claim/cut.py") 235] }),
  (56, { cls := PySem.Value.type "function", data := PySem.Data.func { name := PySem.Str.ofString "heads", qualname := PySem.Str.ofString "heads", params := (dP 7), body := .stmts (dB 7), scope := (dS 7), globals := 3, closure := [], defaults := PySem.Value.none, kwdefaults := PySem.Value.none, pyModule := PySem.Value.str (PySem.Str.ofString "threadslide.sliding") 225, code := PySem.Value.ref 55 } }),
  (62, { cls := PySem.Value.type "code", data := PySem.Data.fields #[PySem.Value.str (PySem.Str.ofString "with_mark") 237, PySem.Value.str (PySem.Str.ofString "with_mark") 238, PySem.Value.str (PySem.Str.ofString "/claim/cut.py") 239, PySem.Value.int 22 0, PySem.Value.int 2 0, PySem.Value.int 0 0, PySem.Value.int 0 0, PySem.Value.int 3 0, PySem.Value.ref 57, PySem.Value.bool true, PySem.Value.int 181 0, PySem.Value.ref 58, PySem.Value.none, PySem.Value.ref 59, PySem.Value.ref 60, PySem.Value.ref 61, PySem.Value.int 243 0, PySem.Value.int 22 0, PySem.Value.str (PySem.Str.ofString "/claim/cut.py") 244] }),
  (63, { cls := PySem.Value.type "function", data := PySem.Data.func { name := PySem.Str.ofString "with_mark", qualname := PySem.Str.ofString "with_mark", params := (dP 8), body := .stmts (dB 8), scope := (dS 8), globals := 3, closure := [], defaults := PySem.Value.none, kwdefaults := PySem.Value.none, pyModule := PySem.Value.str (PySem.Str.ofString "threadslide.sliding") 225, code := PySem.Value.ref 62 } }),
  (69, { cls := PySem.Value.type "code", data := PySem.Data.fields #[PySem.Value.str (PySem.Str.ofString "marked") 246, PySem.Value.str (PySem.Str.ofString "marked") 247, PySem.Value.str (PySem.Str.ofString "/claim/cut.py") 248, PySem.Value.int 26 0, PySem.Value.int 2 0, PySem.Value.int 0 0, PySem.Value.int 0 0, PySem.Value.int 3 0, PySem.Value.ref 64, PySem.Value.bool true, PySem.Value.int 181 0, PySem.Value.ref 65, PySem.Value.none, PySem.Value.ref 66, PySem.Value.ref 67, PySem.Value.ref 68, PySem.Value.int 255 0, PySem.Value.int 26 0, PySem.Value.str (PySem.Str.ofString "/claim/cut.py") 256] }),
  (70, { cls := PySem.Value.type "function", data := PySem.Data.func { name := PySem.Str.ofString "marked", qualname := PySem.Str.ofString "marked", params := (dP 9), body := .stmts (dB 9), scope := (dS 9), globals := 3, closure := [], defaults := PySem.Value.none, kwdefaults := PySem.Value.none, pyModule := PySem.Value.str (PySem.Str.ofString "threadslide.sliding") 225, code := PySem.Value.ref 69 } }),
  (76, { cls := PySem.Value.type "code", data := PySem.Data.fields #[PySem.Value.str (PySem.Str.ofString "_law_at") 260, PySem.Value.str (PySem.Str.ofString "_law_at") 261, PySem.Value.str (PySem.Str.ofString "/claim/cut.py") 262, PySem.Value.int 37 0, PySem.Value.int 2 0, PySem.Value.int 0 0, PySem.Value.int 0 0, PySem.Value.int 3 0, PySem.Value.ref 71, PySem.Value.bool true, PySem.Value.int 181 0, PySem.Value.ref 72, PySem.Value.none, PySem.Value.ref 73, PySem.Value.ref 74, PySem.Value.ref 75, PySem.Value.int 265 0, PySem.Value.int 37 0, PySem.Value.str (PySem.Str.ofString "/claim/cut.py") 266] }),
  (77, { cls := PySem.Value.type "function", data := PySem.Data.func { name := PySem.Str.ofString "_law_at", qualname := PySem.Str.ofString "_law_at", params := (dP 11), body := .stmts (dB 11), scope := (dS 11), globals := 3, closure := [], defaults := PySem.Value.none, kwdefaults := PySem.Value.none, pyModule := PySem.Value.str (PySem.Str.ofString "law_uf060004_04") 258, code := PySem.Value.ref 76 } }),
  (83, { cls := PySem.Value.type "code", data := PySem.Data.fields #[PySem.Value.str (PySem.Str.ofString "_law_is_int") 268, PySem.Value.str (PySem.Str.ofString "_law_is_int") 269, PySem.Value.str (PySem.Str.ofString "/claim/cut.py") 270, PySem.Value.int 39 0, PySem.Value.int 1 0, PySem.Value.int 0 0, PySem.Value.int 0 0, PySem.Value.int 3 0, PySem.Value.ref 78, PySem.Value.bool true, PySem.Value.int 181 0, PySem.Value.ref 79, PySem.Value.none, PySem.Value.ref 80, PySem.Value.ref 81, PySem.Value.ref 82, PySem.Value.int 272 0, PySem.Value.int 39 0, PySem.Value.str (PySem.Str.ofString "/claim/cut.py") 273] }),
  (84, { cls := PySem.Value.type "function", data := PySem.Data.func { name := PySem.Str.ofString "_law_is_int", qualname := PySem.Str.ofString "_law_is_int", params := (dP 12), body := .stmts (dB 12), scope := (dS 12), globals := 3, closure := [], defaults := PySem.Value.none, kwdefaults := PySem.Value.none, pyModule := PySem.Value.str (PySem.Str.ofString "law_uf060004_04") 258, code := PySem.Value.ref 83 } }),
  (88, { cls := PySem.Value.type "code", data := PySem.Data.fields #[PySem.Value.str (PySem.Str.ofString "_law_words_are") 275, PySem.Value.str (PySem.Str.ofString "_law_words_are") 276, PySem.Value.str (PySem.Str.ofString "/claim/cut.py") 277, PySem.Value.int 41 0, PySem.Value.int 2 0, PySem.Value.int 0 0, PySem.Value.int 0 0, PySem.Value.int 3 0, PySem.Value.ref 85, PySem.Value.bool true, PySem.Value.int 181 0, PySem.Value.ref 86, PySem.Value.none, PySem.Value.none, PySem.Value.none, PySem.Value.ref 87, PySem.Value.int 278 0, PySem.Value.int 41 0, PySem.Value.str (PySem.Str.ofString "/claim/cut.py") 279] }),
  (89, { cls := PySem.Value.type "function", data := PySem.Data.func { name := PySem.Str.ofString "_law_words_are", qualname := PySem.Str.ofString "_law_words_are", params := (dP 13), body := .stmts (dB 13), scope := (dS 13), globals := 3, closure := [], defaults := PySem.Value.none, kwdefaults := PySem.Value.none, pyModule := PySem.Value.str (PySem.Str.ofString "law_uf060004_04") 258, code := PySem.Value.ref 88 } }),
  (95, { cls := PySem.Value.type "code", data := PySem.Data.fields #[PySem.Value.str (PySem.Str.ofString "_law_number") 281, PySem.Value.str (PySem.Str.ofString "_law_number") 282, PySem.Value.str (PySem.Str.ofString "/claim/cut.py") 283, PySem.Value.int 45 0, PySem.Value.int 1 0, PySem.Value.int 0 0, PySem.Value.int 0 0, PySem.Value.int 3 0, PySem.Value.ref 90, PySem.Value.bool true, PySem.Value.int 181 0, PySem.Value.ref 91, PySem.Value.none, PySem.Value.ref 92, PySem.Value.ref 93, PySem.Value.ref 94, PySem.Value.int 285 0, PySem.Value.int 45 0, PySem.Value.str (PySem.Str.ofString "/claim/cut.py") 286] }),
  (96, { cls := PySem.Value.type "function", data := PySem.Data.func { name := PySem.Str.ofString "_law_number", qualname := PySem.Str.ofString "_law_number", params := (dP 14), body := .stmts (dB 14), scope := (dS 14), globals := 3, closure := [], defaults := PySem.Value.none, kwdefaults := PySem.Value.none, pyModule := PySem.Value.str (PySem.Str.ofString "law_uf060004_04") 258, code := PySem.Value.ref 95 } }),
  (102, { cls := PySem.Value.type "code", data := PySem.Data.fields #[PySem.Value.str (PySem.Str.ofString "_law_sizes") 288, PySem.Value.str (PySem.Str.ofString "_law_sizes") 289, PySem.Value.str (PySem.Str.ofString "/claim/cut.py") 290, PySem.Value.int 51 0, PySem.Value.int 2 0, PySem.Value.int 0 0, PySem.Value.int 0 0, PySem.Value.int 3 0, PySem.Value.ref 97, PySem.Value.bool true, PySem.Value.int 181 0, PySem.Value.ref 98, PySem.Value.none, PySem.Value.ref 99, PySem.Value.ref 100, PySem.Value.ref 101, PySem.Value.int 298 0, PySem.Value.int 51 0, PySem.Value.str (PySem.Str.ofString "/claim/cut.py") 299] }),
  (103, { cls := PySem.Value.type "function", data := PySem.Data.func { name := PySem.Str.ofString "_law_sizes", qualname := PySem.Str.ofString "_law_sizes", params := (dP 15), body := .stmts (dB 15), scope := (dS 15), globals := 3, closure := [], defaults := PySem.Value.none, kwdefaults := PySem.Value.none, pyModule := PySem.Value.str (PySem.Str.ofString "law_uf060004_04") 258, code := PySem.Value.ref 102 } }),
  (107, { cls := PySem.Value.type "code", data := PySem.Data.fields #[PySem.Value.str (PySem.Str.ofString "_law_boxes") 301, PySem.Value.str (PySem.Str.ofString "_law_boxes") 302, PySem.Value.str (PySem.Str.ofString "/claim/cut.py") 303, PySem.Value.int 63 0, PySem.Value.int 2 0, PySem.Value.int 0 0, PySem.Value.int 0 0, PySem.Value.int 3 0, PySem.Value.ref 104, PySem.Value.bool true, PySem.Value.int 181 0, PySem.Value.ref 105, PySem.Value.none, PySem.Value.none, PySem.Value.none, PySem.Value.ref 106, PySem.Value.int 304 0, PySem.Value.int 63 0, PySem.Value.str (PySem.Str.ofString "/claim/cut.py") 305] }),
  (108, { cls := PySem.Value.type "function", data := PySem.Data.func { name := PySem.Str.ofString "_law_boxes", qualname := PySem.Str.ofString "_law_boxes", params := (dP 16), body := .stmts (dB 16), scope := (dS 16), globals := 3, closure := [], defaults := PySem.Value.none, kwdefaults := PySem.Value.none, pyModule := PySem.Value.str (PySem.Str.ofString "law_uf060004_04") 258, code := PySem.Value.ref 107 } }),
  (114, { cls := PySem.Value.type "code", data := PySem.Data.fields #[PySem.Value.str (PySem.Str.ofString "_law_places") 307, PySem.Value.str (PySem.Str.ofString "_law_places") 308, PySem.Value.str (PySem.Str.ofString "/claim/cut.py") 309, PySem.Value.int 81 0, PySem.Value.int 1 0, PySem.Value.int 0 0, PySem.Value.int 0 0, PySem.Value.int 3 0, PySem.Value.ref 109, PySem.Value.bool true, PySem.Value.int 181 0, PySem.Value.ref 110, PySem.Value.none, PySem.Value.ref 111, PySem.Value.ref 112, PySem.Value.ref 113, PySem.Value.int 314 0, PySem.Value.int 81 0, PySem.Value.str (PySem.Str.ofString "/claim/cut.py") 315] }),
  (115, { cls := PySem.Value.type "function", data := PySem.Data.func { name := PySem.Str.ofString "_law_places", qualname := PySem.Str.ofString "_law_places", params := (dP 17), body := .stmts (dB 17), scope := (dS 17), globals := 3, closure := [], defaults := PySem.Value.none, kwdefaults := PySem.Value.none, pyModule := PySem.Value.str (PySem.Str.ofString "law_uf060004_04") 258, code := PySem.Value.ref 114 } }),
  (121, { cls := PySem.Value.type "code", data := PySem.Data.fields #[PySem.Value.str (PySem.Str.ofString "_law_row") 317, PySem.Value.str (PySem.Str.ofString "_law_row") 318, PySem.Value.str (PySem.Str.ofString "/claim/cut.py") 319, PySem.Value.int 88 0, PySem.Value.int 3 0, PySem.Value.int 0 0, PySem.Value.int 0 0, PySem.Value.int 3 0, PySem.Value.ref 116, PySem.Value.bool true, PySem.Value.int 181 0, PySem.Value.ref 117, PySem.Value.none, PySem.Value.ref 118, PySem.Value.ref 119, PySem.Value.ref 120, PySem.Value.int 326 0, PySem.Value.int 88 0, PySem.Value.str (PySem.Str.ofString "/claim/cut.py") 327] }),
  (122, { cls := PySem.Value.type "function", data := PySem.Data.func { name := PySem.Str.ofString "_law_row", qualname := PySem.Str.ofString "_law_row", params := (dP 18), body := .stmts (dB 18), scope := (dS 18), globals := 3, closure := [], defaults := PySem.Value.none, kwdefaults := PySem.Value.none, pyModule := PySem.Value.str (PySem.Str.ofString "law_uf060004_04") 258, code := PySem.Value.ref 121 } }),
  (128, { cls := PySem.Value.type "code", data := PySem.Data.fields #[PySem.Value.str (PySem.Str.ofString "_law_alive") 329, PySem.Value.str (PySem.Str.ofString "_law_alive") 330, PySem.Value.str (PySem.Str.ofString "/claim/cut.py") 331, PySem.Value.int 98 0, PySem.Value.int 1 0, PySem.Value.int 0 0, PySem.Value.int 0 0, PySem.Value.int 3 0, PySem.Value.ref 123, PySem.Value.bool true, PySem.Value.int 181 0, PySem.Value.ref 124, PySem.Value.none, PySem.Value.ref 125, PySem.Value.ref 126, PySem.Value.ref 127, PySem.Value.int 336 0, PySem.Value.int 98 0, PySem.Value.str (PySem.Str.ofString "/claim/cut.py") 337] }),
  (129, { cls := PySem.Value.type "function", data := PySem.Data.func { name := PySem.Str.ofString "_law_alive", qualname := PySem.Str.ofString "_law_alive", params := (dP 19), body := .stmts (dB 19), scope := (dS 19), globals := 3, closure := [], defaults := PySem.Value.none, kwdefaults := PySem.Value.none, pyModule := PySem.Value.str (PySem.Str.ofString "law_uf060004_04") 258, code := PySem.Value.ref 128 } }),
  (133, { cls := PySem.Value.type "code", data := PySem.Data.fields #[PySem.Value.str (PySem.Str.ofString "law") 339, PySem.Value.str (PySem.Str.ofString "law") 340, PySem.Value.str (PySem.Str.ofString "/claim/cut.py") 341, PySem.Value.int 106 0, PySem.Value.int 1 0, PySem.Value.int 0 0, PySem.Value.int 0 0, PySem.Value.int 3 0, PySem.Value.ref 130, PySem.Value.bool true, PySem.Value.int 181 0, PySem.Value.ref 131, PySem.Value.none, PySem.Value.none, PySem.Value.none, PySem.Value.ref 132, PySem.Value.int 342 0, PySem.Value.int 106 0, PySem.Value.str (PySem.Str.ofString "/claim/cut.py") 343] }),
  (134, { cls := PySem.Value.type "function", data := PySem.Data.func { name := PySem.Str.ofString "law", qualname := PySem.Str.ofString "law", params := (dP 20), body := .stmts (dB 20), scope := (dS 20), globals := 3, closure := [], defaults := PySem.Value.none, kwdefaults := PySem.Value.none, pyModule := PySem.Value.str (PySem.Str.ofString "law_uf060004_04") 258, code := PySem.Value.ref 133 } })]
noncomputable def kas : List Addr := [3, 20, 21, 27, 28, 34, 35, 41, 42, 48, 49, 55, 56, 62, 63, 69, 70, 76, 77, 83, 84, 88, 89, 95, 96, 102, 103, 107, 108, 114, 115, 121, 122, 128, 129, 133, 134]
noncomputable def fns : List (Str × Addr) := [("head_word", 21), ("is_link", 28), ("told_by", 35), ("fields_of", 42), ("is_marked", 49), ("heads", 56), ("with_mark", 63), ("marked", 70), ("_law_at", 77), ("_law_is_int", 84), ("_law_words_are", 89), ("_law_number", 96), ("_law_sizes", 103), ("_law_boxes", 108), ("_law_places", 115), ("_law_row", 122), ("_law_alive", 129), ("law", 134)]
noncomputable def gl0 : List (Str × Value) := fns.map (fun p => (p.1, Value.ref p.2)) ++ bt
noncomputable def T0 : Tbl := ⟨fns, stdB, stdT⟩
noncomputable abbrev cx0 (w : World) (s₁ : Shared) (sa : Addr) (ns : List Int) : Cx := ⟨PySem.Challenge.pw_uf060004_04, w, s₁.heap, fun a => if a = sa then some (intsV ns) else none, fun x => gl0.lookup x⟩
theorem glob0 {w : World} {s₁ : Shared} {p : Program} {loose : List Str} {mean : ExcName → Option Value} {mg mb : Str → Option Value} (T : Top p loose mean mg mb s₁.heap) (KX : (kk w.params).In s₁.heap) : GT.all s₁.heap gl0 := by
  refine ⟨glob_K T KX (by kernel_rfl), glob_K T KX (by kernel_rfl), glob_K T KX (by kernel_rfl), glob_K T KX (by kernel_rfl), glob_K T KX (by kernel_rfl), glob_K T KX (by kernel_rfl), glob_K T KX (by kernel_rfl), glob_K T KX (by kernel_rfl), glob_K T KX (by kernel_rfl), glob_K T KX (by kernel_rfl), glob_K T KX (by kernel_rfl), glob_K T KX (by kernel_rfl), glob_K T KX (by kernel_rfl), glob_K T KX (by kernel_rfl), glob_K T KX (by kernel_rfl), glob_K T KX (by kernel_rfl), glob_K T KX (by kernel_rfl), glob_K T KX (by kernel_rfl),
    glob_B T KX (by kernel_rfl) (by decide +kernel) (by decide), glob_B T KX (by kernel_rfl) (by decide +kernel) (by decide), glob_B T KX (by kernel_rfl) (by decide +kernel) (by decide), glob_B T KX (by kernel_rfl) (by decide +kernel) (by decide), glob_B T KX (by kernel_rfl) (by decide +kernel) (by decide), glob_B T KX (by kernel_rfl) (by decide +kernel) (by decide), glob_B T KX (by kernel_rfl) (by decide +kernel) (by decide), glob_B T KX (by kernel_rfl) (by decide +kernel) (by decide), glob_B T KX (by kernel_rfl) (by decide +kernel) (by decide), glob_B T KX (by kernel_rfl) (by decide +kernel) (by decide), trivial⟩
section
variable {w : World} {s₁ : Shared} {sa : Addr} {ns : List Int}
theorem d_head_word (KX : (kk w.params).In s₁.heap) : Def (cx0 w s₁ sa ns) 21 ["many", "marked"] (bodyOf (fdAt (kk w.params) 21)) (fdAt (kk w.params) 21).scope := def_of KX (by kernel_rfl) _ (arity2 fun a b => by kernel_rfl)
theorem d_is_link (KX : (kk w.params).In s₁.heap) : Def (cx0 w s₁ sa ns) 28 ["word"] (bodyOf (fdAt (kk w.params) 28)) (fdAt (kk w.params) 28).scope := def_of KX (by kernel_rfl) _ (arity1 fun a => by kernel_rfl)
theorem d_told_by (KX : (kk w.params).In s₁.heap) : Def (cx0 w s₁ sa ns) 35 ["word"] (bodyOf (fdAt (kk w.params) 35)) (fdAt (kk w.params) 35).scope := def_of KX (by kernel_rfl) _ (arity1 fun a => by kernel_rfl)
theorem d_fields_of (KX : (kk w.params).In s₁.heap) : Def (cx0 w s₁ sa ns) 42 ["head"] (bodyOf (fdAt (kk w.params) 42)) (fdAt (kk w.params) 42).scope := def_of KX (by kernel_rfl) _ (arity1 fun a => by kernel_rfl)
theorem d_is_marked (KX : (kk w.params).In s₁.heap) : Def (cx0 w s₁ sa ns) 49 ["head"] (bodyOf (fdAt (kk w.params) 49)) (fdAt (kk w.params) 49).scope := def_of KX (by kernel_rfl) _ (arity1 fun a => by kernel_rfl)
theorem d_heads (KX : (kk w.params).In s₁.heap) : Def (cx0 w s₁ sa ns) 56 ["row", "used"] (bodyOf (fdAt (kk w.params) 56)) (fdAt (kk w.params) 56).scope := def_of KX (by kernel_rfl) _ (arity2 fun a b => by kernel_rfl)
theorem d_with_mark (KX : (kk w.params).In s₁.heap) : Def (cx0 w s₁ sa ns) 63 ["row", "at"] (bodyOf (fdAt (kk w.params) 63)) (fdAt (kk w.params) 63).scope := def_of KX (by kernel_rfl) _ (arity2 fun a b => by kernel_rfl)
theorem d_marked (KX : (kk w.params).In s₁.heap) : Def (cx0 w s₁ sa ns) 70 ["row", "used"] (bodyOf (fdAt (kk w.params) 70)) (fdAt (kk w.params) 70).scope := def_of KX (by kernel_rfl) _ (arity2 fun a b => by kernel_rfl)
theorem d_law_at (KX : (kk w.params).In s₁.heap) : Def (cx0 w s₁ sa ns) 77 ["_law_script", "_law_place"] (bodyOf (fdAt (kk w.params) 77)) (fdAt (kk w.params) 77).scope := def_of KX (by kernel_rfl) _ (arity2 fun a b => by kernel_rfl)
theorem d_law_is_int (KX : (kk w.params).In s₁.heap) : Def (cx0 w s₁ sa ns) 84 ["_law_value"] (bodyOf (fdAt (kk w.params) 84)) (fdAt (kk w.params) 84).scope := def_of KX (by kernel_rfl) _ (arity1 fun a => by kernel_rfl)
theorem d_law_words_are (KX : (kk w.params).In s₁.heap) : Def (cx0 w s₁ sa ns) 89 ["_law_found", "_law_due"] (bodyOf (fdAt (kk w.params) 89)) (fdAt (kk w.params) 89).scope := def_of KX (by kernel_rfl) _ (arity2 fun a b => by kernel_rfl)
theorem d_law_number (KX : (kk w.params).In s₁.heap) : Def (cx0 w s₁ sa ns) 96 ["_law_seed"] (bodyOf (fdAt (kk w.params) 96)) (fdAt (kk w.params) 96).scope := def_of KX (by kernel_rfl) _ (arity1 fun a => by kernel_rfl)
theorem d_law_sizes (KX : (kk w.params).In s₁.heap) : Def (cx0 w s₁ sa ns) 103 ["_law_script", "_law_at_here"] (bodyOf (fdAt (kk w.params) 103)) (fdAt (kk w.params) 103).scope := def_of KX (by kernel_rfl) _ (arity2 fun a b => by kernel_rfl)
theorem d_law_boxes (KX : (kk w.params).In s₁.heap) : Def (cx0 w s₁ sa ns) 108 ["_law_script", "_law_at_here"] (bodyOf (fdAt (kk w.params) 108)) (fdAt (kk w.params) 108).scope := def_of KX (by kernel_rfl) _ (arity2 fun a b => by kernel_rfl)
theorem d_law_places (KX : (kk w.params).In s₁.heap) : Def (cx0 w s₁ sa ns) 115 ["_law_boxes_here"] (bodyOf (fdAt (kk w.params) 115)) (fdAt (kk w.params) 115).scope := def_of KX (by kernel_rfl) _ (arity1 fun a => by kernel_rfl)
theorem d_law_row (KX : (kk w.params).In s₁.heap) : Def (cx0 w s₁ sa ns) 122 ["_law_boxes_here", "_law_goals", "_law_spare"] (bodyOf (fdAt (kk w.params) 122)) (fdAt (kk w.params) 122).scope := def_of KX (by kernel_rfl) _ (arity3 fun a b c => by kernel_rfl)
theorem d_law_alive (KX : (kk w.params).In s₁.heap) : Def (cx0 w s₁ sa ns) 129 ["_law_boxes_here"] (bodyOf (fdAt (kk w.params) 129)) (fdAt (kk w.params) 129).scope := def_of KX (by kernel_rfl) _ (arity1 fun a => by kernel_rfl)
theorem d_law (KX : (kk w.params).In s₁.heap) : Def (cx0 w s₁ sa ns) 134 ["_law_script"] (bodyOf (fdAt (kk w.params) 134)) (fdAt (kk w.params) 134).scope := def_of KX (by kernel_rfl) _ (arity1 fun a => by kernel_rfl)
end
theorem walk0 {w : World} {s₁ : Shared} {p : Program} {loose : List Str} {mean : ExcName → Option Value} {mg mb : Str → Option Value} (T : Top p loose mean mg mb s₁.heap) (hseer : s₁.heap.NoSeer) (KX : (kk w.params).In s₁.heap)
    {sa : Addr} {vs : List Value} {ns : List Int} (hW : Well w.params s₁.heap (.ref sa) (ofPy (PyData.list (ns.map PyData.int)))) (hL : s₁.heap.IsList sa vs.toArray) (hI : IntsAre vs ns) (hlay : (PyData.list (ns.map PyData.int)).layable0 = true) (hlen : ns.length ≤ 63) :
    CallP (cx0 w s₁ sa ns) 9 134 [.ref sa] (fun _ => none) fun v _ => v = .bool true := by
  have C : (cx0 w s₁ sa ns).OK := cx_ok T hseer (glob0 T KX) hW hL hI rfl
  have TO : Tbl.OK (cx0 w s₁ sa ns) T0 := tbl_ok KX rfl (by kernel_rfl) (by kernel_rfl) (by kernel_rfl) (by kernel_rfl) (by kernel_rfl)
  have hbits : ∀ v, (v ∈ ns ∨ v = 0) → Builtin.Int.intBits v ≤ 1048576 := fun v h => h.elim (fun h => intBits_le_of_item h hlay) (fun h => by subst h; decide)
  have s_told : ∀ n, Fn1 (cx0 w s₁ sa ns) (n + 1) 35 fun w => .int (w.fdiv 2) := fun n w' H Q h => call_intro C TO (d_told_by KX) (rest := []) (ms := m_told_by) (by decide) (by kernel_rfl) (by kernel_rfl) rfl (told_ms h)
  have s_islink : ∀ n, Fn1 (cx0 w s₁ sa ns) (n + 1) 28 fun w => .bool (w.fmod 2 == 1) := fun n p H Q h => call_intro C TO (d_is_link KX) (rest := []) (ms := m_is_link) (by decide) (by kernel_rfl) (by kernel_rfl) rfl (islink_ms h)
  have s_fields : ∀ n, Fn1 (cx0 w s₁ sa ns) (n + 1) 42 fun w => .int (w.fdiv 4) := fun n p H Q h => call_intro C TO (d_fields_of KX) (rest := []) (ms := m_fields_of) (by decide) (by kernel_rfl) (by kernel_rfl) rfl (fields_ms h)
  have s_ismarked : ∀ n, Fn1 (cx0 w s₁ sa ns) (n + 1) 49 fun w => .bool ((w.fdiv 2).fmod 2 == 1) := fun n p H Q h => call_intro C TO (d_is_marked KX) (rest := []) (ms := m_is_marked) (by decide) (by kernel_rfl) (by kernel_rfl) rfl (ismarked_ms h)
  have s_headw : ∀ n (p : Int) (b : Bool) (H : HP) (Q : V → HP → Prop), Q (.int (4 * p + 2 * (if b then 1 else 0))) H → CallP (cx0 w s₁ sa ns) (n + 1) 21 [.int p, .bool b] H Q := fun n p b H Q h => call_intro C TO (d_head_word KX) (rest := []) (ms := m_head_word) (by decide) (by kernel_rfl) (by kernel_rfl) rfl (headw_ms h)
  have s_withmark : ∀ n, WithMarkSpec (cx0 w s₁ sa ns) (n + 2) 63 := fun n row xs p w' H Q h1 h2 h3 h4 => call_intro C TO (d_with_mark KX) (rest := ["found"]) (ms := m_with_mark) (by decide) (by kernel_rfl) (by kernel_rfl) rfl (withmark_ms (s_headw n) (s_fields n) h1 h2 h3 h4)
  have s_heads : ∀ n, HeadsSpec (cx0 w s₁ sa ns) (n + 2) 56 := fun n row xs B H Q h1 h2 h3 h4 => call_intro C TO (d_heads KX) (rest := ["found", "at"]) (ms := m_heads) (by decide) (by kernel_rfl) (by kernel_rfl) rfl (heads_ms (s_fields n) h1 h2 h3 h4)
  have s_marked : ∀ n, MarkedSpec (cx0 w s₁ sa ns) (n + 3) 70 := fun n row xs B used H Q h1 h2 h3 h4 h5 => call_intro C TO (d_marked KX) (rest := ["found", "waiting", "at", "word"]) (ms := m_marked) (by decide) (by kernel_rfl) (by kernel_rfl) rfl (marked_ms (s_withmark n) (s_fields (n + 1)) (s_islink (n + 1)) (s_ismarked (n + 1)) (s_told (n + 1)) h1 h2 h3 h4 h5)
  have s_at : ∀ n, AtSpec (cx0 w s₁ sa ns) (n + 1) 77 sa ns := fun n p H Q h1 h2 h3 => call_intro C TO (d_law_at KX) (rest := []) (ms := m_law_at) (by decide) (by kernel_rfl) (by kernel_rfl) rfl (at_ms h1 (by omega) h2 fun v hv => h3 v (hbits v hv))
  have s_isint : ∀ n v H Q, Q (.bool true) H → CallP (cx0 w s₁ sa ns) (n + 1) 84 [.int v] H Q := fun n v H Q h => call_intro C TO (d_law_is_int KX) (rest := []) (ms := m_law_is_int) (by decide) (by kernel_rfl) (by kernel_rfl) rfl (isint_ms h)
  have s_words : ∀ n, WordsSpec (cx0 w s₁ sa ns) (n + 2) 89 := fun n fa da xs H Q h1 h2 h3 h4 => call_intro C TO (d_law_words_are KX) (rest := []) (ms := m_law_words_are) (by decide) (by kernel_rfl) (by kernel_rfl) rfl (words_ms (s_isint n) h1 h2 h3 h4)
  have s_num : ∀ n, NumSpec (cx0 w s₁ sa ns) (n + 1) 96 := fun n s H Q h1 h2 => call_intro C TO (d_law_number KX) (rest := []) (ms := m_law_number) (by decide) (by kernel_rfl) (by kernel_rfl) rfl (number_ms h1 h2)
  have s_sizes : ∀ n, SizesSpec (cx0 w s₁ sa ns) (n + 2) 103 sa ns := fun n q H Q h1 h2 h3 => call_intro C TO (d_law_sizes KX) (rest := ["_law_head", "_law_many", "_law_sizes_here", "_law_k", "_law_seed"]) (ms := m_law_sizes) (by decide) (by kernel_rfl) (by kernel_rfl) rfl (sizes_ms (s_at n) h1 h2 h3)
  have s_boxes : ∀ n, BoxesSpec (cx0 w s₁ sa ns) (n + 3) 108 sa ns := fun n q H Q h1 h2 h3 => call_intro C TO (d_law_boxes KX) (rest := ["_law_sizes_here", "_law_head", "_law_many", "_law_step", "_law_k", "_law_boxes_here", "_law_fields", "_law_j", "_law_seed"]) (ms := m_law_boxes) (by decide) (by kernel_rfl) (by kernel_rfl) rfl (boxes_ms (s_sizes n) (s_at (n + 1)) (s_num (n + 1)) h1 h2 h3)
  have s_places : ∀ n, PlacesSpec (cx0 w s₁ sa ns) (n + 1) 115 := fun n ba B H Q h1 h2 h3 => call_intro C TO (d_law_places KX) (rest := ["_law_found", "_law_at_here", "_law_fields"]) (ms := m_law_places) (by decide) (by kernel_rfl) (by kernel_rfl) rfl (places_ms h1 h2 h3)
  have s_row : ∀ n, RowSpec (cx0 w s₁ sa ns) (n + 1) 122 := fun n ba ga B gs G sp H Q h1 h2 h3 h4 h5 h6 h7 => call_intro C TO (d_law_row KX) (rest := ["_law_row_here", "_law_fields", "_law_thing"]) (ms := m_law_row) (by decide) (by kernel_rfl) (by kernel_rfl) rfl (row_ms h1 h2 h3 h4 h5 h6 h7)
  have s_alive : ∀ n, AliveSpec (cx0 w s₁ sa ns) (n + 1) 129 := fun n ba B H Q h1 h2 h3 h4 h5 => call_intro C TO (d_law_alive KX) (rest := ["_law_found", "_law_turn", "_law_thing"]) (ms := m_law_alive) (by decide) (by kernel_rfl) (by kernel_rfl) rfl (alive_ms h1 h2 h3 h4 h5)
  refine call_intro C TO (d_law KX) (rest := ["_law_boxes_here", "_law_places_here", "_law_row_here", "_law_used", "_law_handed", "_law_due", "_law_k", "_law_found"]) (ms := m_law4) (by decide) (by kernel_rfl) (by kernel_rfl) rfl ?_
  exact law4_ms (s_boxes 5) (s_places 7) (s_row 7) (s_at 7) (s_words 6) (s_heads 6) (s_alive 7) (s_marked 5) (by simp [lk]) fun _ => rfl
end Mine

theorem PySem.Challenge.cw_uf060004_04_holds : PySem.Challenge.rw_uf060004_04.Holds := by
  w_on
  o_law
  o_head (kHook Mine.kk Mine.kas (fun _ => rfl))
  (case hw => w_witness2)
  intro w s₀ s₁ mg mb G Y fa o pm cd doc dV kV ho hd hcd hD hmg hg args vals as hpre hlay hrd hwl hlo
  have KX := kIn_of Y
  refine Ground.open G ?_
  intro T B D TE TW
  wrow_args hpre hlay hrd hwl hlo
  refine enter_call ?_
  rename_i ns _ _ hlay _ _ _ _ sa vs _ hL _ hW _ hI _ hlen _
  have hfa : fa = 134 := by
    have h1 : mg ("law" : Str) = some (.ref fa) := hmg
    have h2 : mg ("law" : Str) = some (.ref 134) := mg_of KX T.g (by kernel_rfl)
    rw [h1] at h2; cases h2; rfl
  subst hfa
  exact Mine.law_end (cx := Mine.cx0 w s₁ sa ns) rfl hg (by decide) (Mine.walk0 T (T.seer (by decide +kernel)) KX hW hL hI hlay (by omega))

