import PyProof.Rows.All
import Wide.All
import OpenK.AllK
import Wide.FinOn
import KE.IntBitsLaws
import PySem.Challenge.RW_uf060004_03
set_option Elab.async false
section
namespace Mine
open PySem PyProof.Rows

/-- abstract values: python values without tokens -/
inductive V where
  | unb | none | bool (b : Bool) | int (i : Int) | str (x : Str) | ref (a : Addr) | ty (n : String) | bi (n : String) | other
  deriving DecidableEq

def abs : Value → V
  | .none => .none
  | .bool b => .bool b
  | .int i _ => .int i
  | .str x _ => .str x
  | .ref a => .ref a
  | .type n => .ty n
  | .builtin n => .bi n
  | _ => .other

/-- abstract objects -/
inductive O where
  | list (vs : List V)
  | tup (vs : List V)
  | dict (es : List (Int × V))
  | inst (C dx : Addr)
  | flds (fs : List (Str × V))

def Rep (h : Heap) (a : Addr) : O → Prop
  | .list vs => ∃ items n, h.get? a = some { cls := .type "list", data := .seq items n } ∧ items.toList.map abs = vs
  | .tup vs => ∃ items n, h.get? a = some { cls := .type "tuple", data := .seq items n } ∧ items.toList.map abs = vs
  | _ => False

theorem Rep.get {h : Heap} {a : Addr} : ∀ {o : O}, Rep h a o → ∃ ob, h.get? a = some ob
  | .list _, ⟨_, _, e, _⟩ => ⟨_, e⟩
  | .tup _, ⟨_, _, e, _⟩ => ⟨_, e⟩

theorem Rep.of_eq {h h' : Heap} {a : Addr} (e : h'.get? a = h.get? a) : ∀ {o : O}, Rep h a o → Rep h' a o
  | .list _, ⟨i, n, q, m⟩ => ⟨i, n, e.trans q, m⟩
  | .tup _, ⟨i, n, q, m⟩ => ⟨i, n, e.trans q, m⟩

theorem Rep.keep {h h' : Heap} {a : Addr} (k : ∀ o, h.get? a = some o → h'.get? a = some o) {o : O} (r : Rep h a o) : Rep h' a o := by
  obtain ⟨ob, e⟩ := r.get
  exact r.of_eq ((k _ e).trans e.symm)

abbrev HP := Addr → Option O

def upd (H : HP) (a : Addr) (o : O) : HP := fun b => if b = a then some o else H b

theorem upd_same (H : HP) (a : Addr) (o : O) : upd H a o a = some o := by simp [upd]
theorem upd_ne {H : HP} {a b : Addr} (o : O) (h : b ≠ a) : upd H a o b = H b := by simp [upd, h]
theorem upd_upd (H : HP) (a : Addr) (o o' : O) : upd (upd H a o) a o' = upd H a o' := by
  funext b; by_cases h : b = a <;> simp [upd, h]

def LE (H H' : HP) : Prop := ∀ a o, H a = some o → H' a = some o
theorem LE.refl (H : HP) : LE H H := fun _ _ e => e
theorem LE.trans {A B C : HP} (x : LE A B) (y : LE B C) : LE A C := fun a o e => y a o (x a o e)
theorem LE.upd {H H' : HP} (x : LE H H') (a : Addr) (o : O) : LE (Mine.upd H a o) (Mine.upd H' a o) := by
  intro b o' e
  by_cases h : b = a
  · subst h; rw [upd_same] at e ⊢; exact e
  · rw [upd_ne _ h] at e ⊢; exact x _ _ e
theorem LE.fresh {H : HP} {a : Addr} (h : H a = Option.none) (o : O) : LE H (Mine.upd H a o) := by
  intro b o' e
  by_cases hb : b = a
  · subst hb; rw [h] at e; cases e
  · rw [upd_ne _ hb]; exact e

/-- the fixed surroundings of a run -/
structure Cx where
  prog : Program
  w : World
  base : Heap
  Z : Addr → Option (List V)
  gl : Str → Option Value

/-- what a global name means -/
def GlobAt (h : Heap) (x : Str) (v : Value) : Prop :=
  (∃ mg, h.Ns mainGlobals mg ∧ mg x = some v) ∨ ∃ mg mb, h.Ns mainGlobals mg ∧ mg x = none ∧ h.Ns builtinsNs mb ∧ mb x = some v

structure Cx.OK (cx : Cx) : Prop where
  nolimit : cx.base.NoLimit
  seer : cx.base.NoSeer
  tree : cx.prog.given.tree = none
  glob : ∀ x v, cx.gl x = some v → GlobAt cx.base x v
  z : ∀ a vs, cx.Z a = some vs → Rep cx.base a (.list vs)

def getL : List V → Nat → V
  | [], _ => .unb
  | a :: _, 0 => a
  | _ :: l, n + 1 => getL l n
def setL : List V → Nat → V → List V
  | [], _, _ => []
  | _ :: l, 0, v => v :: l
  | a :: l, n + 1, v => a :: setL l n v

theorem setL_length : ∀ (l : List V) (i : Nat) (v : V), (setL l i v).length = l.length
  | [], _, _ => rfl
  | _ :: _, 0, _ => rfl
  | _ :: l, n + 1, v => by simp [setL, setL_length l n v]
theorem getL_setL_same : ∀ (l : List V) (i : Nat) (v : V), i < l.length → getL (setL l i v) i = v
  | _ :: _, 0, _, _ => rfl
  | _ :: l, n + 1, v, h => getL_setL_same l n v (Nat.lt_of_succ_lt_succ h)
theorem getL_setL_ne : ∀ (l : List V) (i j : Nat) (v : V), i ≠ j → getL (setL l i v) j = getL l j
  | [], _, _, _, _ => rfl
  | _ :: _, 0, 0, _, h => absurd rfl h
  | _ :: _, 0, _ + 1, _, _ => rfl
  | _ :: _, _ + 1, 0, _, _ => rfl
  | _ :: l, n + 1, m + 1, v, h => getL_setL_ne l n m v (fun e => h (by rw [e]))

/-- a frame: its environment and the names of its places -/
structure Fm where
  env : Env
  names : List (Option Str)

def Fm.own (fm : Fm) (a : Addr) : Prop := a = fm.env.locals ∨ ∃ x, fm.env.cells.lookup x = some a

def VarAt (env : Env) (h : Heap) (x : Str) (v : Option Value) : Prop :=
  (env.kindOf x = some .local ∧ ∃ m, h.Ns env.locals m ∧ m x = v) ∨ (env.kindOf x = some .cell ∧ ∃ c, env.cells.lookup x = some c ∧ h.IsCell c v)

structure Fm.OK (cx : Cx) (fm : Fm) : Prop where
  kind : fm.env.scope.kind = .function
  globals : fm.env.globals = mainGlobals
  builtins : fm.env.builtins = builtinsNs
  cellsNe : ∀ x c, fm.env.cells.lookup x = some c → c ≠ fm.env.locals
  cellsInj : ∀ x y c, fm.env.cells.lookup x = some c → fm.env.cells.lookup y = some c → x = y
  inj : ∀ (i j : Nat) (x : Str), fm.names[i]? = some (some x) → fm.names[j]? = some (some x) → i = j
  above : ∀ a, fm.own a → cx.base.get? a = none
  cellAt : ∀ x, fm.env.kindOf x = some .cell → ∃ c, fm.env.cells.lookup x = some c

structure FR (fm : Fm) (μ : List V) (h : Heap) : Prop where
  len : μ.length = fm.names.length
  live : ∀ a, fm.own a → ∃ o, h.get? a = some o
  ns : ∃ m, h.Ns fm.env.locals m
  var : ∀ (i : Nat) (x : Str), fm.names[i]? = some (some x) → ∃ ov, VarAt fm.env h x ov ∧ (getL μ i = .unb ∨ ∃ v, ov = some v ∧ abs v = getL μ i)

/-- what is said of the heap alone -/
structure HS (cx : Cx) (H : HP) (s : Shared) : Prop where
  hr : ∀ a o, H a = some o → Rep s.heap a o
  ext : ∀ b o, cx.base.get? b = some o → s.heap.get? b = some o
  low : ∀ a o, H a = some o → cx.base.get? a = none

structure SR (cx : Cx) (fm : Fm) (H : HP) (μ : List V) (s : Shared) : Prop extends HS cx H s where
  fr : FR fm μ s.heap
  own : ∀ a o, H a = some o → ¬ fm.own a

/-- what stays: all that is neither in the abstract heap nor in ow -/
structure Kept (ow : Addr → Prop) (s : Shared) (H : HP) (s' : Shared) (H' : HP) : Prop where
  keep : ∀ b o, s.heap.get? b = some o → H b = none → ¬ ow b → s'.heap.get? b = some o
  dom : ∀ a o, s.heap.get? a = some o → H a = none → ¬ ow a → H' a = none
  os : s'.os = s.os
  gens : s'.gens = s.gens

abbrev KE (s : Shared) (H : HP) (s' : Shared) (H' : HP) : Prop := Kept (fun _ => False) s H s' H'

theorem Kept.refl (ow : Addr → Prop) (s : Shared) (H : HP) : Kept ow s H s H := ⟨fun _ _ e _ _ => e, fun _ _ _ e _ => e, rfl, rfl⟩
theorem Kept.trans {ow : Addr → Prop} {s s₁ s₂ : Shared} {H H₁ H₂ : HP} (x : Kept ow s H s₁ H₁) (y : Kept ow s₁ H₁ s₂ H₂) : Kept ow s H s₂ H₂ :=
  ⟨fun b o e n w => y.keep b o (x.keep b o e n w) (x.dom b o e n w) w,
    fun a o e n w => y.dom a o (x.keep a o e n w) (x.dom a o e n w) w, y.os.trans x.os, y.gens.trans x.gens⟩
theorem Kept.mono {ow ow' : Addr → Prop} (h : ∀ a, ow a → ow' a) {s s' : Shared} {H H' : HP} (x : Kept ow s H s' H') : Kept ow' s H s' H' :=
  ⟨fun b o e n w => x.keep b o e n (fun q => w (h b q)), fun b o e n w => x.dom b o e n (fun q => w (h b q)), x.os, x.gens⟩
theorem KE.any {s s' : Shared} {H H' : HP} (x : KE s H s' H') (ow : Addr → Prop) : Kept ow s H s' H' := x.mono fun _ q => q.elim

theorem HS.toks {cx : Cx} {H : HP} {s : Shared} (S : HS cx H s) (n : Nat) : HS cx H { s with toks := n } := ⟨S.hr, S.ext, S.low⟩
theorem HS.le {cx : Cx} {H H' : HP} {s : Shared} (S : HS cx H' s) (l : LE H H') : HS cx H s :=
  ⟨fun a o e => S.hr a o (l a o e), S.ext, fun a o e => S.low a o (l a o e)⟩
theorem SR.le {cx : Cx} {fm : Fm} {H H' : HP} {μ : List V} {s : Shared} (S : SR cx fm H' μ s) (l : LE H H') : SR cx fm H μ s :=
  ⟨S.toHS.le l, S.fr, fun a o e => S.own a o (l a o e)⟩
theorem Kept.le {ow : Addr → Prop} {s s' : Shared} {H H₁ H₂ : HP} (x : Kept ow s H s' H₂) (l : LE H₁ H₂) : Kept ow s H s' H₁ :=
  ⟨x.keep, fun a ob q n w => (by
    cases e : H₁ a with
    | none => rfl
    | some o => exact absurd (l a o e) (by rw [x.dom a ob q n w]; simp)), x.os, x.gens⟩

theorem lookup_mem {α β : Type} [BEq α] [LawfulBEq α] {x : α} {c : β} : ∀ {l : List (α × β)}, l.lookup x = some c → (x, c) ∈ l
  | (y, d) :: l, e => by
    rw [List.lookup_cons] at e
    cases h : x == y with
    | true => rw [h] at e; cases e; rw [eq_of_beq h]; exact List.mem_cons_self
    | false => rw [h] at e; exact List.mem_cons_of_mem _ (lookup_mem e)

theorem VarAt.keep {env : Env} {h h' : Heap} {x : Str} {v : Option Value}
    (k : ∀ b o, (b = env.locals ∨ ∃ y, env.cells.lookup y = some b) → h.get? b = some o → h'.get? b = some o) (w : VarAt env h x v) : VarAt env h' x v := by
  rcases w with ⟨k1, m, ⟨o, es, ep, e, hd⟩, hm⟩ | ⟨k1, c, hc, o, e, hd⟩
  · exact .inl ⟨k1, m, ⟨o, es, ep, k _ _ (.inl rfl) e, hd⟩, hm⟩
  · exact .inr ⟨k1, c, hc, o, k _ _ (.inr ⟨x, hc⟩) e, hd⟩

theorem FR.keep {fm : Fm} {μ : List V} {h h' : Heap} (F : FR fm μ h) (k : ∀ b o, fm.own b → h.get? b = some o → h'.get? b = some o) : FR fm μ h' :=
  ⟨F.len, fun a q => (let ⟨o, e⟩ := F.live a q; ⟨o, k a o q e⟩), by obtain ⟨m, o, es, ep, e, hd⟩ := F.ns; exact ⟨m, o, es, ep, k _ _ (.inl rfl) e, hd⟩, fun i x e => by
    obtain ⟨ov, w, q⟩ := F.var i x e
    exact ⟨ov, w.keep (fun b o => k b o), q⟩⟩

/-- the frame goes on where an expression has been reckoned -/
theorem SR.step {cx : Cx} {fm : Fm} {H H' : HP} {μ : List V} {s s' : Shared} (S : SR cx fm H μ s) (S' : HS cx H' s') (k : KE s H s' H') : SR cx fm H' μ s' := by
  have hn : ∀ b, fm.own b → H b = none := fun b q => by
    cases e : H b with
    | none => rfl
    | some o => exact absurd q (S.own b o e)
  refine ⟨S', S.fr.keep (fun b o q e => k.keep b o e (hn b q) id), fun a o e q => ?_⟩
  obtain ⟨ob, l⟩ := S.fr.live a q
  rw [k.dom a ob l (hn a q) id] at e
  cases e

/-- a heap that has grown: nothing that stood is changed -/
theorem HS.grow {cx : Cx} {H : HP} {s : Shared} (S : HS cx H s) {h' : Heap} (k : ∀ b o, s.heap.get? b = some o → h'.get? b = some o) (n : Nat) :
    HS cx H { s with heap := h', toks := n } :=
  ⟨fun a o e => (S.hr a o e).keep (k a), fun b o e => k b o (S.ext b o e), S.low⟩
theorem KE.grow {s : Shared} {H : HP} {h' : Heap} (k : ∀ b o, s.heap.get? b = some o → h'.get? b = some o) (n : Nat) :
    KE s H { s with heap := h', toks := n } H := ⟨fun b o e _ _ => k b o e, fun _ _ _ e _ => e, rfl, rfl⟩
theorem KE.toks (s : Shared) (H : HP) (n : Nat) : KE s H { s with toks := n } H := ⟨fun _ _ e _ _ => e, fun _ _ _ e _ => e, rfl, rfl⟩

def Fresh (cx : Cx) (H : HP) (r : Addr) : Prop := H r = none ∧ cx.base.get? r = none ∧ cx.Z r = none

theorem HS.none_of {cx : Cx} {H : HP} {s : Shared} (S : HS cx H s) {r : Addr} (h : s.heap.get? r = none) : H r = none := by
  cases e : H r with
  | none => rfl
  | some o =>
    obtain ⟨ob, q⟩ := (S.hr r o e).get
    rw [h] at q; cases q
theorem HS.base_none {cx : Cx} {H : HP} {s : Shared} (S : HS cx H s) {r : Addr} (h : s.heap.get? r = none) : cx.base.get? r = none := by
  cases e : cx.base.get? r with
  | none => rfl
  | some o => rw [S.ext r o e] at h; cases h
theorem HS.fresh {cx : Cx} (C : cx.OK) {H : HP} {s : Shared} (S : HS cx H s) {r : Addr} (h : s.heap.get? r = none) : Fresh cx H r :=
  ⟨S.none_of h, S.base_none h, by
    cases e : cx.Z r with
    | none => rfl
    | some vs =>
      obtain ⟨ob, q⟩ := (C.z r vs e).get
      rw [S.base_none h] at q; cases q⟩
theorem get_size (h : Heap) : h.get? h.objs.size = none := by
  cases e : h.get? h.objs.size with
  | none => rfl
  | some o => exact absurd (Heap.lt_size e) (Nat.lt_irrefl _)

/-- a new object that the abstract heap takes up -/
theorem HS.alloc {cx : Cx} {H : HP} {s : Shared} (S : HS cx H s) {h' : Heap} {r : Addr} {o : O} (k : ∀ b o, s.heap.get? b = some o → h'.get? b = some o)
    (hr : s.heap.get? r = none) (R : Rep h' r o) (n : Nat) : HS cx (upd H r o) { s with heap := h', toks := n } := by
  have G := S.grow k n
  refine ⟨fun a o' e => ?_, G.ext, fun a o' e => ?_⟩
  · by_cases h : a = r
    · subst h; rw [upd_same] at e; cases e; exact R
    · rw [upd_ne _ h] at e; exact G.hr a o' e
  · by_cases h : a = r
    · subst h; exact S.base_none hr
    · rw [upd_ne _ h] at e; exact G.low a o' e
theorem KE.alloc {s : Shared} {H : HP} {h' : Heap} {r : Addr} {o : O} (k : ∀ b o, s.heap.get? b = some o → h'.get? b = some o)
    (hr : s.heap.get? r = none) (n : Nat) : KE s H { s with heap := h', toks := n } (upd H r o) :=
  ⟨fun b o e _ _ => k b o e, fun a ob l e _ => by rw [upd_ne _ (fun q => by subst q; rw [hr] at l; cases l)]; exact e, rfl, rfl⟩

/-- an object of the abstract heap is changed -/
theorem HS.change {cx : Cx} {H : HP} {s : Shared} (S : HS cx H s) {h' : Heap} {a : Addr} {o o' : O} (ha : H a = some o) (sb : ∀ b ob, b ≠ a → s.heap.get? b = some ob → h'.get? b = some ob) (R : Rep h' a o') (n : Nat) :
    HS cx (upd H a o') { s with heap := h', toks := n } := by
  refine ⟨fun b o1 e => ?_, fun b ob e => ?_, fun b o1 e => ?_⟩
  · by_cases h : b = a
    · subst h; rw [upd_same] at e; cases e; exact R
    · rw [upd_ne _ h] at e; exact (S.hr b o1 e).keep (fun ob => sb b ob h)
  · exact sb b ob (fun q => by subst q; rw [S.low _ o ha] at e; cases e) (S.ext b ob e)
  · by_cases h : b = a
    · subst h; exact S.low _ _ ha
    · rw [upd_ne _ h] at e; exact S.low b o1 e
theorem KE.change {s : Shared} {H : HP} {h' : Heap} {a : Addr} {o o' : O} (ha : H a = some o) (sb : ∀ b ob, b ≠ a → s.heap.get? b = some ob → h'.get? b = some ob) (n : Nat) :
    KE s H { s with heap := h', toks := n } (upd H a o') :=
  ⟨fun b ob e hb _ => sb b ob (fun x => by subst x; rw [ha] at hb; cases hb) e,
    fun b _ _ e _ => by rw [upd_ne _ (fun x => by subst x; rw [ha] at e; cases e)]; exact e, rfl, rfl⟩

/-- a machine's own object, outside of the abstract heap, is changed (an iterator) -/
theorem SR.aside {cx : Cx} {fm : Fm} {H : HP} {μ : List V} {s : Shared} (S : SR cx fm H μ s) {h' : Heap} {a : Addr} (ha : H a = none) (hw : ¬ fm.own a) (hb : cx.base.get? a = none) (sb : Heap.ExtBut a s.heap h') (n : Nat) :
    SR cx fm H μ { s with heap := h', toks := n } :=
  ⟨⟨fun b o e => (S.hr b o e).keep (fun ob q => sb b ob (fun x => by subst x; rw [ha] at e; cases e) q),
    fun b o e => sb b o (fun q => by subst q; rw [hb] at e; cases e) (S.ext b o e), S.low⟩, S.fr.keep (fun b o q e => sb b o (fun x => hw (x ▸ q)) e), S.own⟩

section
variable {cx : Cx} {fm : Fm} {H : HP} {μ : List V} {s : Shared} {M : Model} {A : Around} {E : Value → Shared → Prop}

theorem load_loc (W : fm.OK cx) (S : SR cx fm H μ s) {i : Nat} {x : Str} (hi : fm.names[i]? = some (some x)) (hb : getL μ i ≠ .unb) {Q : Value → Shared → Prop} (h : ∀ v, abs v = getL μ i → Q v s) :
    wpAny M A (loadName fm.env x) Q E s := by
  obtain ⟨ov, w, q⟩ := S.fr.var i x hi
  obtain ⟨v, rfl, hv⟩ := q.resolve_left hb
  rcases w with ⟨k1, m, hn, hm⟩ | ⟨k1, c, hc, hcell⟩
  · exact wpAny_loadName_local W.kind k1 hn hm (h v hv)
  · exact wpAny_loadName_cell W.kind k1 hc hcell (h v hv)

theorem ns_unique {h : Heap} {a : Addr} {m m' : Str → Option Value} (x : h.Ns a m) (y : h.Ns a m') : m = m' := by
  obtain ⟨o, es, ep, e, hd, _, hm⟩ := x
  obtain ⟨o', es', ep', e', hd', _, hm'⟩ := y
  rw [e] at e'; cases e'
  rw [hd] at hd'; cases hd'
  funext n; rw [← hm n, ← hm' n]

theorem store_loc (W : fm.OK cx) (S : SR cx fm H μ s) {i : Nat} {x : Str} (hi : fm.names[i]? = some (some x)) {v : Value} {Q : Unit → Shared → Prop}
    (h : ∀ s', SR cx fm H (setL μ i (abs v)) s' → Kept fm.own s H s' H → Q () s') : wpAny M A (storeName fm.env x v) Q E s := by
  obtain ⟨ov, w, q⟩ := S.fr.var i x hi
  have hil : i < μ.length := by rw [S.fr.len]; exact (List.getElem?_eq_some_iff.mp hi).1
  -- the rest, for any own address that is changed
  have rest : ∀ (a : Addr) (h' : Heap) (tk : Nat), fm.own a → Heap.SameBut a s.heap h' → (∃ o, h'.get? a = some o) → (∃ m, h'.Ns fm.env.locals m) →
      (∀ j y, fm.names[j]? = some (some y) → ∃ ov, VarAt fm.env h' y ov ∧ (getL (setL μ i (abs v)) j = .unb ∨ ∃ v', ov = some v' ∧ abs v' = getL (setL μ i (abs v)) j)) →
      SR cx fm H (setL μ i (abs v)) { s with heap := h', toks := tk } ∧ Kept fm.own s H { s with heap := h', toks := tk } H := by
    intro a h' tk ha sb hla hns hvar
    refine ⟨⟨⟨fun b o e => ?_, fun b o e => ?_, S.low⟩, ⟨by rw [setL_length]; exact S.fr.len, fun b q => ?_, hns, hvar⟩, S.own⟩,
      fun b o e _ hw => (sb.2 b (fun x => hw (x ▸ ha))).trans e, fun _ _ _ e _ => e, rfl, rfl⟩
    · exact (S.hr b o e).of_eq (sb.2 b (fun x => S.own b o e (x ▸ ha)))
    · exact (sb.2 b (fun q => by subst q; rw [W.above _ ha] at e; cases e)).trans (S.ext b o e)
    · by_cases h : b = a
      · subst h; exact hla
      · obtain ⟨o, e⟩ := S.fr.live b q
        exact ⟨o, (sb.2 b h).trans e⟩
  rcases w with ⟨k1, m, hn, hm⟩ | ⟨k1, c, hc, hcell⟩
  · refine wpAny_storeName_local k1 hn (fun h' hn' sb => ?_) (by rw [W.kind]; rfl)
    obtain ⟨a1, a2⟩ := rest fm.env.locals h' (s.toks + 1) (.inl rfl) sb (let ⟨o, _, _, e, _⟩ := hn'; ⟨o, e⟩) ⟨_, hn'⟩ (fun j y hj => by
      by_cases hij : i = j
      · subst hij
        rw [hi] at hj; cases hj
        exact ⟨some v, .inl ⟨k1, _, hn', by simp⟩, .inr ⟨v, rfl, (getL_setL_same μ i _ hil).symm⟩⟩
      · obtain ⟨ov', w', q'⟩ := S.fr.var j y hj
        refine ⟨ov', ?_, by rw [getL_setL_ne _ _ _ _ hij]; exact q'⟩
        have hxy : y ≠ x := fun e => hij (W.inj i j x hi (e ▸ hj))
        rcases w' with ⟨k2, m2, hn2, hm2⟩ | ⟨k2, c2, hc2, o, e2, hd2⟩
        · exact .inl ⟨k2, _, hn', by rw [if_neg hxy, ns_unique hn hn2]; exact hm2⟩
        · exact .inr ⟨k2, c2, hc2, o, (sb.2 c2 (W.cellsNe y c2 hc2)).trans e2, hd2⟩)
    exact h _ a1 a2
  · refine wpAny_storeName_cell W.kind k1 hc hcell (fun h' hc' sb => ?_)
    have hcl := W.cellsNe x c hc
    have ns' : ∀ m, s.heap.Ns fm.env.locals m → h'.Ns fm.env.locals m := fun m ⟨o, es, ep, e, r⟩ => ⟨o, es, ep, (sb.2 _ (Ne.symm hcl)).trans e, r⟩
    obtain ⟨a1, a2⟩ := rest c h' s.toks (.inr ⟨x, hc⟩) sb (let ⟨o, e, _⟩ := hc'; ⟨o, e⟩) (by obtain ⟨m, hm⟩ := S.fr.ns; exact ⟨m, ns' m hm⟩) (fun j y hj => by
      by_cases hij : i = j
      · subst hij
        rw [hi] at hj; cases hj
        exact ⟨some v, .inr ⟨k1, c, hc, hc'⟩, .inr ⟨v, rfl, (getL_setL_same μ i _ hil).symm⟩⟩
      · obtain ⟨ov', w', q'⟩ := S.fr.var j y hj
        refine ⟨ov', ?_, by rw [getL_setL_ne _ _ _ _ hij]; exact q'⟩
        have hxy : y ≠ x := fun e => hij (W.inj i j x hi (e ▸ hj))
        rcases w' with ⟨k2, m2, hn2, hm2⟩ | ⟨k2, c2, hc2, o, e2, hd2⟩
        · exact .inl ⟨k2, m2, ns' m2 hn2, hm2⟩
        · exact .inr ⟨k2, c2, hc2, o, (sb.2 c2 (fun e => hxy (W.cellsInj y x c (e ▸ hc2) hc))).trans e2, hd2⟩)
    exact h _ a1 a2
end
end Mine
end

section
namespace Mine
open PySem PyProof.Rows

inductive BF where
  | len | list | int | sum | max | min | abs | sorted | repr
  deriving DecidableEq
inductive Mth where
  | append | pop | clear | extend
  deriving DecidableEq

mutual
inductive ME where
  | cint (i : Int) | cbool (b : Bool) | cnone | cstr (x : Str)
  | loc (i : Nat)
  | bin (op : Operator) (l r : ME)
  | not (e : ME)
  | neg (e : ME)
  | cmp (l : ME) (op : CmpOp) (r : ME)
  | cmp2 (l : ME) (o1 : CmpOp) (m : ME) (o2 : CmpOp) (r : ME)
  | bop (op : BoolOp) (es : MEs)
  | ife (c t e : ME)
  | callf (f : Addr) (args : MEs)
  | callb (b : BF) (args : MEs)
  | isi (e : ME) (t : String)
  | meth (o : ME) (m : Mth) (args : MEs)
  | sub (o i : ME)
  | slice (o lo hi : ME)
  | list (es : MEs)
  | tup (es : MEs)
  | comp (elt it cond : ME)
  | compR (elt a b cond : ME)
  | rng (a b : ME)
  | slc (a b : ME)
  | attr (o : ME) (x : Str)
inductive MEs where
  | nil
  | cons (e : ME) (es : MEs)
end

mutual
inductive MS where
  | assign (i : Nat) (e : ME)
  | setSub (o i v : ME)
  | expr (e : ME)
  | ite (c : ME) (t e : MSs)
  | for_ (i : Nat) (it : ME) (body : MSs)
  | forR (i : Nat) (a b : ME) (body : MSs)
  | while_ (c : ME) (body : MSs)
  | ret (e : ME)
  | retN
inductive MSs where
  | nil
  | cons (s : MS) (r : MSs)
end

/-- where a function may be called, with room for n frames more -/
structure ACall (A : Around) (n : Nat) : Prop where
  handled : A.handled = none
  depth : A.depth + n < 850
  units : A.units + 16 * n < 9000
  frames : ∃ l, A.frames = some l
/-- within a frame -/
structure AOK (A : Around) (n : Nat) : Prop extends ACall A n where
  top : ∃ env outer, A.frames = some (env :: outer) ∧ env.scope.isGenerator = false ∧ env.scope.isCoroutine = false ∧ env.builtins = builtinsNs ∧ env.globals = mainGlobals

/-- a call of the function at f keeps its word -/
def CallP (cx : Cx) (n : Nat) (f : Addr) (args : List V) (H : HP) (Q : V → HP → Prop) : Prop :=
  ∀ (A : Around) (s : Shared) (vs : List Value), ACall A n → HS cx H s → vs.map Mine.abs = args →
    codeAny (model cx.prog cx.w) A (.call (.ref f) ⟨vs, []⟩) (fun r s' => ∃ v H', r = .ok (.ret v) ∧ HS cx H' s' ∧ KE s H s' H' ∧ Q (Mine.abs v) H') s

/-- what stands at an address: the call's own, or the script -/
def lk (cx : Cx) (H : HP) (a : Addr) : Option O :=
  match H a with
  | some o => some o
  | none => (cx.Z a).map O.list
def lst (cx : Cx) (H : HP) (a : Addr) : Option (List V) :=
  match lk cx H a with
  | some (.list vs) => some vs
  | _ => none
def sq (cx : Cx) (H : HP) (a : Addr) : Option (List V) :=
  match lk cx H a with
  | some (.list vs) => some vs
  | some (.tup vs) => some vs
  | _ => none

def asInt : V → Option Int
  | .int i => some i
  | _ => none
def asInts : List V → Option (List Int)
  | [] => some []
  | .int i :: r => (asInts r).map (i :: ·)
  | _ => none
def intsV (l : List Int) : List V := l.map V.int

theorem asInts_ints : ∀ l : List Int, asInts (intsV l) = some l
  | [] => rfl
  | i :: l => by simp [intsV, asInts]; exact asInts_ints l

/-- python's cut of a list -/
def cutLo (n : Nat) : V → Option Nat
  | .none => some 0
  | .int i => some (if i < 0 then (i + n).toNat else min i.toNat n)
  | _ => none
def cutHi (n : Nat) : V → Option Nat
  | .none => some n
  | .int i => some (if i < 0 then (i + n).toNat else min i.toNat n)
  | _ => none
def cut (vs : List V) (lo hi : Nat) : List V := (vs.take hi).drop lo

def new (cx : Cx) (H : HP) (o : O) (Q : V → HP → Prop) : Prop := ∀ r, Fresh cx H r → Q (.ref r) (upd H r o)

def binP (cx : Cx) (op : Operator) (a b : V) (H : HP) (Q : V → HP → Prop) : Prop :=
  match op, a, b with
  | .Add, .int a, .int b => Q (.int (a + b)) H
  | .Sub, .int a, .int b => Q (.int (a - b)) H
  | .Mult, .int a, .int b => IntMulOk a b ∧ Q (.int (a * b)) H
  | .FloorDiv, .int a, .int b => b ≠ 0 ∧ Q (.int (a.fdiv b)) H
  | .Mod, .int a, .int b => b ≠ 0 ∧ Q (.int (a.fmod b)) H
  | .Pow, .int a, .int n => 0 ≤ n ∧ (Builtin.Int.intBits a : Int) * n ≤ 2 ^ 27 ∧ Q (.int (a ^ n.toNat)) H
  | .Add, .ref a, .ref b => match lst cx H a, lst cx H b with
    | some xs, some ys => xs.length + ys.length ≤ 16777216 ∧ new cx H (.list (xs ++ ys)) Q
    | _, _ => False
  | .Mult, .ref a, .int n => match lst cx H a with
    | some xs => -16777216 < n ∧ n < 16777216 ∧ xs.length * n.toNat ≤ 16777216 ∧ new cx H (.list (List.replicate n.toNat xs).flatten) Q
    | none => False
  | _, _, _ => False

/-- what stands there, read n deep -/
def rdV (cx : Cx) (H : HP) : Nat → V → Option PyData
  | _, .none => some .none
  | _, .bool b => some (.bool b)
  | _, .int i => some (.int i)
  | n + 1, .ref a => match lk cx H a with
    | some (.list vs) => (vs.mapM (rdV cx H n)).map .list
    | some (.tup vs) => (vs.mapM (rdV cx H n)).map .tuple
    | _ => none
  | _, _ => none

def cmpP (cx : Cx) (op : CmpOp) (a b : V) (H : HP) : Option Bool :=
  match op, a, b with
  | .Lt, .int a, .int b => some (decide (a < b))
  | .LtE, .int a, .int b => some (decide (a ≤ b))
  | .Gt, .int a, .int b => some (decide (b < a))
  | .GtE, .int a, .int b => some (decide (b ≤ a))
  | .Eq, .int a, .int b => some (a == b)
  | .NotEq, .int a, .int b => some (a != b)
  | .Eq, .bool a, .bool b => some (a == b)
  | .NotEq, .bool a, .bool b => some (a != b)
  | .Eq, .str a, .str b => some (a == b)
  | .NotEq, .str a, .str b => some (a != b)
  | .Eq, .ref a, .ref b => match rdV cx H 8 (.ref a), rdV cx H 8 (.ref b) with
    | some d, some e => some (PyData.eqv d e)
    | _, _ => none
  | .NotEq, .ref a, .ref b => match rdV cx H 8 (.ref a), rdV cx H 8 (.ref b) with
    | some d, some e => some (!PyData.eqv d e)
    | _, _ => none
  | .Is, .int _, .bool _ => some false
  | .IsNot, .int _, .bool _ => some true
  | .Is, .bool a, .bool b => some (a == b)
  | .IsNot, .bool a, .bool b => some (a != b)
  | .In, .int x, .ref a => match sq cx H a with
    | some vs => (asInts vs).map fun l => l.contains x
    | none => none
  | .NotIn, .int x, .ref a => match sq cx H a with
    | some vs => (asInts vs).map fun l => !l.contains x
    | none => none
  | _, _, _ => none

def isiP (H : HP) (v : V) (t : String) : Option Bool :=
  match v, t with
  | .int _, "int" => some true
  | .bool _, "int" => some true
  | .ref a, "list" => match H a with
    | some (.list _) => some true
    | some (.tup _) => some false
    | _ => none
  | .ref a, "tuple" => match H a with
    | some (.list _) => some false
    | some (.tup _) => some true
    | _ => none
  | _, _ => none

def callbP (cx : Cx) (b : BF) (args : List V) (H : HP) (Q : V → HP → Prop) : Prop :=
  match b, args with
  | .len, [.ref a] => match sq cx H a with
    | some vs => vs.length ≤ 16777216 ∧ Q (.int vs.length) H
    | none => False
  | .list, [.ref a] => match sq cx H a with
    | some vs => vs.length ≤ 16777216 ∧ new cx H (.list vs) Q
    | none => False
  | .int, [.bool b] => Q (.int (if b then 1 else 0)) H
  | .sum, [.ref a] => match lst cx H a with
    | some vs => match asInts vs with
      | some l => PySem.SumFits l ∧ Q (.int l.sum) H
      | none => False
    | none => False
  | .max, [.int a, .int b] => Q (.int (if b > a then b else a)) H
  | .min, [.int a, .int b] => Q (.int (if b < a then b else a)) H
  | _, _ => False

def methP (o : V) (m : Mth) (args : List V) (H : HP) (Q : V → HP → Prop) : Prop :=
  match m, o, args with
  | .append, .ref a, [v] => match H a with
    | some (.list vs) => vs.length ≤ 16777216 ∧ Q .none (upd H a (.list (vs ++ [v])))
    | _ => False
  | .pop, .ref a, [] => match H a with
    | some (.list vs) => match vs.getLast? with
      | some v => vs.length ≤ 16777216 ∧ Q v (upd H a (.list vs.dropLast))
      | none => False
    | _ => False
  | _, _, _ => False

def listAt (o : V) (H : HP) : Prop := match o with
  | .ref a => match H a with
    | some (.list _) => True
    | _ => False
  | _ => False

def subP (cx : Cx) (o i : V) (H : HP) (Q : V → HP → Prop) : Prop :=
  match o, i with
  | .ref a, .int i => match sq cx H a with
    | some vs => 0 ≤ i ∧ vs.length ≤ 16777216 ∧ (match vs[i.toNat]? with | some v => Q v H | none => False)
    | none => False
  | _, _ => False

def sliceP (cx : Cx) (o lo hi : V) (H : HP) (Q : V → HP → Prop) : Prop :=
  match o with
  | .ref a => match lst cx H a with
    | some vs => match cutLo vs.length lo, cutHi vs.length hi with
      | some l, some h => vs.length ≤ 16777216 ∧ new cx H (.list (cut vs l h)) Q
      | _, _ => False
    | none => False
  | _ => False

/-- what a loop runs over: its items, and the list that has to stay -/
def IterP (cx : Cx) (o : V) (H : HP) (Q : List V → (HP → Prop) → HP → Prop) : Prop :=
  match o with
  | .ref a => match lk cx H a with
    | some (.list vs) => vs.length ≤ 16777216 ∧ Q vs (fun H' => lk cx H' a = some (.list vs)) H
    | some (.tup vs) => vs.length ≤ 16777216 ∧ Q vs (fun H' => lk cx H' a = some (.tup vs)) H
    | _ => False
  | _ => False

def rangeL (a b : Int) : List Int := (List.range (b - a).toNat).map fun (k : Nat) => a + (k : Int)

def RngP (x y : V) (Q : List V → Prop) : Prop := match x, y with
  | .int x, .int y => (-1152921504606846976 < x ∧ x < 1152921504606846976) ∧ (-1152921504606846976 < y ∧ y < 1152921504606846976) ∧ Q (intsV (rangeL x y))
  | _, _ => False

def setSubP (o i v : V) (H : HP) (Q : HP → Prop) : Prop :=
  match o, i with
  | .ref a, .int i => match H a with
    | some (.list vs) => 0 ≤ i ∧ vs.length ≤ 16777216 ∧ i.toNat < vs.length ∧ Q (upd H a (.list (vs.set i.toNat v)))
    | _ => False
  | _, _ => False

def TruthP (v : V) (Q : Bool → Prop) : Prop := match v with
  | .bool b => Q b
  | _ => False

/-- a loop of a comprehension by what holds of it -/
def CompP (cx : Cx) (items : List V) (st : HP → Prop) (H₀ : HP) (turn : V → HP → (Option V → HP → Prop) → Prop) (Q : V → HP → Prop) : Prop :=
  items.length ≤ 16777216 ∧ ∃ I : List V → List V → HP → Prop, I [] [] H₀ ∧ (∀ done acc H₁, I done acc H₁ → st H₁) ∧
    (∀ done x rest acc H₁, items = done ++ x :: rest → I done acc H₁ → turn x H₁ fun ov H₂ => ∃ H₃, LE H₃ H₂ ∧ I (done ++ [x]) (acc ++ ov.toList) H₃) ∧
    (∀ acc H₁, I items acc H₁ → new cx H₁ (.list acc) Q)

mutual
def mwpE (cx : Cx) (n : Nat) : ME → List V → HP → (V → HP → Prop) → Prop
  | .cint i, _, H, Q => Q (.int i) H
  | .cbool b, _, H, Q => Q (.bool b) H
  | .cnone, _, H, Q => Q .none H
  | .cstr x, _, H, Q => Q (.str x) H
  | .loc i, μ, H, Q => getL μ i ≠ .unb ∧ Q (getL μ i) H
  | .bin op l r, μ, H, Q => mwpE cx n l μ H fun a H => mwpE cx n r μ H fun b H => binP cx op a b H Q
  | .not e, μ, H, Q => mwpE cx n e μ H fun v H => TruthP v fun b => Q (.bool (!b)) H
  | .neg e, μ, H, Q => mwpE cx n e μ H fun v H => match v with | .int i => Q (.int (-i)) H | _ => False
  | .cmp l op r, μ, H, Q => mwpE cx n l μ H fun a H => mwpE cx n r μ H fun b H => match cmpP cx op a b H with | some c => Q (.bool c) H | none => False
  | .cmp2 l o1 m o2 r, μ, H, Q => mwpE cx n l μ H fun a H => mwpE cx n m μ H fun b H => match cmpP cx o1 a b H with
      | some d => (d = true → mwpE cx n r μ H fun c H => match cmpP cx o2 b c H with | some d => Q (.bool d) H | none => False) ∧ (d = false → Q (.bool false) H)
      | none => False
  | .bop op es, μ, H, Q => mwpB cx n op es μ H Q
  | .ife c t e, μ, H, Q => mwpE cx n c μ H fun v H => TruthP v fun b => (b = true → mwpE cx n t μ H Q) ∧ (b = false → mwpE cx n e μ H Q)
  | .callf f args, μ, H, Q => mwpEs cx n args μ H fun vs H => CallP cx n f vs H Q
  | .callb b args, μ, H, Q => mwpEs cx n args μ H fun vs H => callbP cx b vs H Q
  | .isi e t, μ, H, Q => mwpE cx n e μ H fun v H => match isiP H v t with | some b => Q (.bool b) H | none => False
  | .meth o m args, μ, H, Q => mwpE cx n o μ H fun ov H => listAt ov H ∧ mwpEs cx n args μ H fun vs H => methP ov m vs H Q
  | .sub o i, μ, H, Q => mwpE cx n o μ H fun ov H => mwpE cx n i μ H fun iv H => subP cx ov iv H Q
  | .slice o lo hi, μ, H, Q => mwpE cx n o μ H fun ov H => mwpE cx n lo μ H fun l H => mwpE cx n hi μ H fun h H => sliceP cx ov l h H Q
  | .list es, μ, H, Q => mwpEs cx n es μ H fun vs H => vs.length ≤ 16777216 ∧ new cx H (.list vs) Q
  | .tup es, μ, H, Q => mwpEs cx n es μ H fun vs H => vs.length ≤ 16777216 ∧ new cx H (.tup vs) Q
  | .comp elt it cond, μ, H, Q => mwpE cx n it μ H fun v H => IterP cx v H fun items st H₀ => CompP cx items st H₀ (fun x H₁ K =>
      mwpE cx n cond (μ ++ [x]) H₁ fun c H₂ => TruthP c fun b => (b = true → mwpE cx n elt (μ ++ [x]) H₂ fun v H₃ => K (some v) H₃) ∧ (b = false → K none H₂)) Q
  | .compR elt a b cond, μ, H, Q => mwpE cx n a μ H fun x H => mwpE cx n b μ H fun y H => RngP x y fun items => CompP cx items (fun _ => True) H (fun x H₁ K =>
      mwpE cx n cond (μ ++ [x]) H₁ fun c H₂ => TruthP c fun b => (b = true → mwpE cx n elt (μ ++ [x]) H₂ fun v H₃ => K (some v) H₃) ∧ (b = false → K none H₂)) Q
  | .rng _ _, _, _, _ => False
  | .slc _ _, _, _, _ => False
  | .attr _ _, _, _, _ => False
def mwpEs (cx : Cx) (n : Nat) : MEs → List V → HP → (List V → HP → Prop) → Prop
  | .nil, _, H, Q => Q [] H
  | .cons e es, μ, H, Q => mwpE cx n e μ H fun v H => mwpEs cx n es μ H fun vs H => Q (v :: vs) H
def mwpB (cx : Cx) (n : Nat) (op : BoolOp) : MEs → List V → HP → (V → HP → Prop) → Prop
  | .nil, _, _, _ => False
  | .cons e .nil, μ, H, Q => mwpE cx n e μ H Q
  | .cons e es, μ, H, Q => mwpE cx n e μ H fun v H => TruthP v fun b =>
      (b = (op == .And) → mwpB cx n op es μ H Q) ∧ (b = (op == .Or) → Q (.bool b) H)
end

/-- a for by what holds of it -/
def ForP (items : List V) (st : HP → Prop) (μ₀ : List V) (H₀ : HP) (turn : V → List V → HP → (List V → HP → Prop) → Prop) (N : List V → HP → Prop) : Prop :=
  ∃ I : List V → List V → HP → Prop, I [] μ₀ H₀ ∧ (∀ done μ H, I done μ H → st H) ∧
    (∀ done x rest μ H, items = done ++ x :: rest → I done μ H → turn x μ H fun μ' H' => ∃ H₃, LE H₃ H' ∧ I (done ++ [x]) μ' H₃) ∧
    (∀ μ H, I items μ H → N μ H)

mutual
def mwpS (cx : Cx) (n : Nat) : MS → List V → HP → (List V → HP → Prop) → (V → HP → Prop) → Prop
  | .assign i e, μ, H, N, _ => mwpE cx n e μ H fun v H => N (setL μ i v) H
  | .setSub o i v, μ, H, N, _ => mwpE cx n v μ H fun vv H => mwpE cx n o μ H fun ov H => mwpE cx n i μ H fun iv H => setSubP ov iv vv H fun H => N μ H
  | .expr e, μ, H, N, _ => mwpE cx n e μ H fun _ H => N μ H
  | .ite c t e, μ, H, N, R => mwpE cx n c μ H fun v H => TruthP v fun b => (b = true → mwpSs cx n t μ H N R) ∧ (b = false → mwpSs cx n e μ H N R)
  | .for_ i it body, μ, H, N, R => mwpE cx n it μ H fun v H => IterP cx v H fun items st H₀ => ForP items st μ H₀ (fun x μ H K => mwpSs cx n body (setL μ i x) H K R) N
  | .forR i a b body, μ, H, N, R => mwpE cx n a μ H fun x H => mwpE cx n b μ H fun y H => RngP x y fun items => ForP items (fun _ => True) μ H (fun x μ H K => mwpSs cx n body (setL μ i x) H K R) N
  | .while_ c body, μ, H, N, R => ∃ I : Nat → List V → HP → Prop, (∃ k, I k μ H) ∧ ∀ k μ H, I k μ H → mwpE cx n c μ H fun v H => TruthP v fun b =>
      (b = true → mwpSs cx n body μ H (fun μ' H' => ∃ H₃, LE H₃ H' ∧ ∃ m, m < k ∧ I m μ' H₃) R) ∧ (b = false → N μ H)
  | .ret e, μ, H, _, R => mwpE cx n e μ H R
  | .retN, _, H, _, R => R .none H
def mwpSs (cx : Cx) (n : Nat) : MSs → List V → HP → (List V → HP → Prop) → (V → HP → Prop) → Prop
  | .nil, μ, H, N, _ => N μ H
  | .cons s r, μ, H, N, R => mwpS cx n s μ H (fun μ H => mwpSs cx n r μ H N R) R
end
end Mine
end

section
namespace Mine
open PySem PyProof.Rows

def EP (cx : Cx) (s : Shared) (H : HP) (Q : V → HP → Prop) : Value → Shared → Prop := fun v s' => ∃ H', HS cx H' s' ∧ KE s H s' H' ∧ Q (abs v) H'

theorem EP.from {cx : Cx} {s s₁ : Shared} {H H₁ : HP} {Q : V → HP → Prop} (k : KE s H s₁ H₁) {v : Value} {s' : Shared} (h : EP cx s₁ H₁ Q v s') : EP cx s H Q v s' := by
  obtain ⟨H', a, b, c⟩ := h
  exact ⟨H', a, k.trans b, c⟩
theorem ep_from {cx : Cx} {s s₁ : Shared} {H H₁ : HP} {Q : V → HP → Prop} {M : Model} {A : Around} {E : Value → Shared → Prop} {t : Sem Value} (k : KE s H s₁ H₁) (h : wpAny M A t (EP cx s₁ H₁ Q) E s₁) : wpAny M A t (EP cx s H Q) E s₁ :=
  wpAny_mono h (fun _ _ x => x.from k) fun _ _ e => e

theorem abs_none {v : Value} (h : abs v = .none) : v = .none := by cases v <;> simp [abs] at h; rfl
theorem abs_bool {v : Value} {b : Bool} (h : abs v = .bool b) : v = .bool b := by cases v <;> simp [abs] at h; rw [h]
theorem abs_int {v : Value} {i : Int} (h : abs v = .int i) : ∃ t, v = .int i t := by cases v <;> simp [abs] at h; rw [h]; exact ⟨_, rfl⟩
theorem abs_str {v : Value} {x : Str} (h : abs v = .str x) : ∃ t, v = .str x t := by cases v <;> simp [abs] at h; rw [h]; exact ⟨_, rfl⟩
theorem abs_ref {v : Value} {a : Addr} (h : abs v = .ref a) : v = .ref a := by cases v <;> simp [abs] at h; rw [h]

section
variable {cx : Cx} {H : HP} {s : Shared} {A : Around} {E : Value → Shared → Prop} {n : Nat}

theorem lk_rep (C : cx.OK) (S : HS cx H s) {a : Addr} {o : O} (h : lk cx H a = some o) : Rep s.heap a o := by
  unfold lk at h
  split at h
  · rename_i e; cases h; exact S.hr a _ e
  · obtain ⟨vs, e, rfl⟩ := Option.map_eq_some_iff.mp h
    exact (C.z a vs e).keep (S.ext a)
theorem lst_get (C : cx.OK) (S : HS cx H s) {a : Addr} {vs : List V} (h : lst cx H a = some vs) : ∃ items k, IsL s.heap a items k ∧ items.toList.map abs = vs := by
  unfold lst at h
  split at h
  · rename_i e; cases h
    exact lk_rep C S e
  · cases h
theorem sq_get (C : cx.OK) (S : HS cx H s) {a : Addr} {vs : List V} (h : sq cx H a = some vs) :
    ∃ (T : String) (items : Array Value) (k : Nat), s.heap.get? a = some { cls := .type T, data := .seq items k } ∧ (T = "list" ∨ T = "tuple") ∧ items.toList.map abs = vs := by
  unfold sq at h
  split at h
  · rename_i e; cases h
    obtain ⟨i, k, q, m⟩ := lk_rep C S e
    exact ⟨_, i, k, q, .inl rfl, m⟩
  · rename_i e; cases h
    obtain ⟨i, k, q, m⟩ := lk_rep C S e
    exact ⟨_, i, k, q, .inr rfl, m⟩
  · cases h

theorem size_of {items : Array Value} {vs : List V} (h : items.toList.map abs = vs) : items.size = vs.length := by rw [← h]; simp

/-- a new list, at the heap's end -/
theorem ep_push (C : cx.OK) (S : HS cx H s) {Q : V → HP → Prop} {o : O} (h : new cx H o Q) {ob : Obj} (R : ∀ h : Heap, h.get? s.heap.objs.size = some ob → Rep h s.heap.objs.size o) (hf : ob.isFreed = false) (tk : Nat) :
    EP cx s H Q (.ref s.heap.objs.size) { s with heap := s.heap.push ob, toks := tk } := by
  have k : ∀ b o', s.heap.get? b = some o' → (s.heap.push ob).get? b = some o' := fun b o' e => Heap.get?_push_of_some _ e
  exact ⟨_, S.alloc k (get_size _) (R _ (Heap.get?_push_size _ hf)) tk, KE.alloc k (get_size _) tk, h _ (S.fresh C (get_size _))⟩
theorem rep_list {h : Heap} {a : Addr} {items : Array Value} {k : Nat} {vs : List V} (e : h.get? a = some { cls := .type "list", data := .seq items k }) (m : items.toList.map abs = vs) : Rep h a (.list vs) := ⟨items, k, e, m⟩
theorem rep_tup {h : Heap} {a : Addr} {items : Array Value} {k : Nat} {vs : List V} (e : h.get? a = some { cls := .type "tuple", data := .seq items k }) (m : items.toList.map abs = vs) : Rep h a (.tup vs) := ⟨items, k, e, m⟩

theorem ep_same {Q : V → HP → Prop} (S : HS cx H s) {v : Value} (tk : Nat) (h : Q (abs v) H) : EP cx s H Q v { s with toks := tk } := ⟨H, S.toks tk, KE.toks s H tk, h⟩
theorem ep_here {Q : V → HP → Prop} (S : HS cx H s) {v : Value} (h : Q (abs v) H) : EP cx s H Q v s := ⟨H, S, Kept.refl _ s H, h⟩
theorem ep_grow {Q : V → HP → Prop} (S : HS cx H s) {v : Value} {h' : Heap} {tk : Nat} (k : ∀ b o, s.heap.get? b = some o → h'.get? b = some o) (h : Q (abs v) H) :
    EP cx s H Q v { s with heap := h', toks := tk } := ⟨H, S.grow k tk, KE.grow k tk, h⟩

theorem replicate_fold (items : Array Value) (m : Nat) : (List.foldl (fun x1 x2 => x1 ++ x2) #[] (List.replicate m items)).toList = (List.replicate m items.toList).flatten := by
  have : ∀ (l : List (Array Value)) (acc : Array Value), (List.foldl (fun x1 x2 => x1 ++ x2) acc l).toList = acc.toList ++ (l.map Array.toList).flatten := by
    intro l
    induction l with
    | nil => intro acc; simp
    | cons x l ih => intro acc; rw [List.foldl_cons, ih]; simp
  rw [this]; simp

theorem pylong_room (C : cx.OK) (hA : AOK A n) (S : HS cx H s) : PylongRoom (model cx.prog cx.w) A s := by
  obtain ⟨env, outer, hf, h1, h2, h3, h4⟩ := hA.top
  refine PylongRoom.of (C.nolimit.keeps S.ext) ?_ (SeerAt.of (C.seer.keeps S.ext) C.tree hf h1 h2 h3 h4)
  have := hA.depth
  unfold recursionLimit Builtin.pylongFrames
  omega

theorem bin_ok (C : cx.OK) (hA : AOK A n) (S : HS cx H s) {op : Operator} {a b : Value} {Q : V → HP → Prop} (h : binP cx op (abs a) (abs b) H Q) :
    wpAny (model cx.prog cx.w) A (binaryOp op a b) (EP cx s H Q) E s := by
  generalize hva : abs a = va at h
  generalize hvb : abs b = vb at h
  unfold binP at h
  split at h
  · obtain ⟨t, rfl⟩ := abs_int hva; obtain ⟨u, rfl⟩ := abs_int hvb
    exact PyProof.Rows.add_int (ep_same S _ h)
  · obtain ⟨t, rfl⟩ := abs_int hva; obtain ⟨u, rfl⟩ := abs_int hvb
    exact PyProof.Rows.sub_int (ep_same S _ h)
  · obtain ⟨t, rfl⟩ := abs_int hva; obtain ⟨u, rfl⟩ := abs_int hvb
    exact PyProof.Rows.mul_int (ep_same S _ h.2) h.1
  · obtain ⟨t, rfl⟩ := abs_int hva; obtain ⟨u, rfl⟩ := abs_int hvb
    exact PyProof.Rows.floordiv_int h.1 (ep_same S _ h.2) (Or.inr (pylong_room C hA S))
  · obtain ⟨t, rfl⟩ := abs_int hva; obtain ⟨u, rfl⟩ := abs_int hvb
    exact PyProof.Rows.mod_int' h.1 (ep_same S _ h.2)
  · obtain ⟨t, rfl⟩ := abs_int hva; obtain ⟨u, rfl⟩ := abs_int hvb
    exact PyProof.Rows.pow_int h.1 h.2.1 (ep_same S _ h.2.2)
  · have := abs_ref hva; subst this; have := abs_ref hvb; subst this
    split at h
    · rename_i xs ys hx hy
      obtain ⟨i1, k1, e1, m1⟩ := lst_get C S hx
      obtain ⟨i2, k2, e2, m2⟩ := lst_get C S hy
      refine PySem.P.add_list e1 e2 (ep_push C S h.2 (fun h e => rep_list e (by simp [m1, m2])) rfl _) ?_
      rw [size_of m1, size_of m2, sizeLine_eq]; exact h.1
    · exact h.elim
  · rename_i x
    have := abs_ref hva; subst this; obtain ⟨u, rfl⟩ := abs_int hvb
    split at h
    · rename_i xs hx
      obtain ⟨hn0, hn, hsz, h⟩ := h
      obtain ⟨i1, k1, e1, m1⟩ := lst_get C S hx
      rw [← size_of m1] at hsz
      refine wpAny_binaryOp_repeat_ref (T := "list") (U := "int") (by decide) ⟨_, e1, rfl⟩ (fun s' => typeIs_int s' x u) noFill_list_mul F.fills_int_mul F.slot_int_rmul repeat_list F.slot_int_index.lookup
          (call_meets F.slot_int_rmul (typeIs_int s x u) F.entry_int_rmul (F.args_int_rmul_2 _ _) (int___rmul___int_list x u _ i1 k1)
            ⟨e1, rfl, ⟨_, e1, rfl⟩, call_meets F.slot_list_mul ⟨_, e1, rfl⟩ F.entry_list_mul (F.args_list_mul_2 _ _)
              (AutoListH.list___mul___list_int_3 _ i1 k1 x u (by simp [Builtin.List.listFitsIndex]; omega) (by omega) (by simp [Builtin.List.listTooLong, sizeLine]; omega))
              ⟨e1, ?_⟩⟩)
      refine ep_push C S h (fun h e => rep_list e ?_) rfl _
      rw [replicate_fold, ← m1]
      split
      · rename_i he
        have : i1 = #[] := by simpa using he
        subst this; simp
      · simp [List.map_flatten]
    · exact h.elim
  · exact h.elim
end
end Mine
end

section
namespace Mine
open PySem PyProof.Rows PySem.SeqAt

theorem asInts_some : ∀ {vs : List V} {l : List Int}, asInts vs = some l → vs = intsV l
  | [], l, h => by cases h; rfl
  | .int i :: r, l, h => by
    simp only [asInts, Option.map_eq_some_iff] at h
    obtain ⟨l', h1, rfl⟩ := h
    simp only [intsV, List.map_cons]; rw [asInts_some h1]; rfl
  | .unb :: _, _, h => by cases h
  | .none :: _, _, h => by cases h
  | .bool _ :: _, _, h => by cases h
  | .str _ :: _, _, h => by cases h
  | .ref _ :: _, _, h => by cases h
  | .ty _ :: _, _, h => by cases h
  | .bi _ :: _, _, h => by cases h
  | .other :: _, _, h => by cases h

def hits (x : Int) : Value → Bool
  | .int i _ => i == x
  | _ => false

theorem any_hits {x : Int} : ∀ {items : List Value} {l : List Int}, items.map abs = intsV l → items.any (hits x) = l.contains x
  | [], [], _ => rfl
  | [], _ :: _, h => by cases h
  | _ :: _, [], h => by cases h
  | v :: r, i :: l, h => by
    simp only [intsV, List.map_cons, List.cons.injEq] at h
    obtain ⟨t, rfl⟩ := abs_int h.1
    rw [List.any_cons, List.contains_cons, any_hits (l := l) (by simpa [intsV] using h.2)]
    simp only [hits]
    rw [Bool.beq_comm]
theorem mem_int {items : List Value} {l : List Int} (h : items.map abs = intsV l) {y : Value} (hy : y ∈ items) : ∃ i t, y = .int i t := by
  have : abs y ∈ intsV l := by rw [← h]; exact List.mem_map_of_mem hy
  simp only [intsV, List.mem_map] at this
  obtain ⟨i, _, e⟩ := this
  obtain ⟨t, q⟩ := abs_int e.symm
  exact ⟨i, t, q⟩

section
variable {cx : Cx} {H : HP} {s : Shared} {A : Around} {E : Value → Shared → Prop} {n : Nat}

theorem ACall.room {n : Nat} (hA : ACall A n) : A.units + 64 < cLine := by
  have := hA.units
  unfold cLine; omega

theorem rdV_reads (C : cx.OK) (S : HS cx H s) : ∀ (n : Nat) (v : Value) (d : PyData), rdV cx H n (abs v) = some d → (∃ as, Reads s.heap v d as) ∧ d.canLay0 = true ∧ d.depth ≤ n := by
  intro n
  induction n with
  | zero =>
    intro v d h
    generalize hv : abs v = va at h
    unfold rdV at h
    split at h
    · have := abs_none hv; subst this; cases h; exact ⟨⟨_, .none⟩, rfl, Nat.le_refl _⟩
    · have := abs_bool hv; subst this; cases h; exact ⟨⟨_, .bool _⟩, rfl, Nat.le_refl _⟩
    · obtain ⟨t, rfl⟩ := abs_int hv; cases h; exact ⟨⟨_, .int _ _⟩, rfl, Nat.le_refl _⟩
    · rename_i e; cases e
    · cases h
  | succ n ih =>
    have all : ∀ (vs : List Value) (ds : List PyData), (vs.map abs).mapM (rdV cx H n) = some ds → (∃ as, ReadsAll s.heap vs ds as) ∧ PyData.canLayAll0 ds = true ∧ PyData.depthAll ds ≤ n := by
      intro vs
      induction vs with
      | nil => intro ds h; simp at h; subst h; exact ⟨⟨_, .nil⟩, rfl, Nat.zero_le _⟩
      | cons v vs ihv =>
        intro ds h
        simp only [List.map_cons, List.mapM_cons, Option.pure_def, Option.bind_eq_bind, Option.bind_eq_some_iff] at h
        obtain ⟨d, h1, es, h2, h3⟩ := h
        cases h3
        obtain ⟨⟨as, r⟩, c, dp⟩ := ih v d h1
        obtain ⟨⟨bs, rs⟩, cs, dps⟩ := ihv es h2
        refine ⟨⟨_, .cons r rs⟩, by simp [PyData.canLayAll0, c, cs], ?_⟩
        simp only [PyData.depthAll]; omega
    intro v d h
    generalize hv : abs v = va at h
    unfold rdV at h
    split at h
    · have := abs_none hv; subst this; cases h; exact ⟨⟨_, .none⟩, rfl, Nat.zero_le _⟩
    · have := abs_bool hv; subst this; cases h; exact ⟨⟨_, .bool _⟩, rfl, Nat.zero_le _⟩
    · obtain ⟨t, rfl⟩ := abs_int hv; cases h; exact ⟨⟨_, .int _ _⟩, rfl, Nat.zero_le _⟩
    · rename_i m a e
      cases e
      have := abs_ref hv; subst this
      split at h
      · rename_i vs hl
        obtain ⟨ds, e1, rfl⟩ := Option.map_eq_some_iff.mp h
        obtain ⟨items, k, e, m⟩ := lst_get C S (show lst cx H a = some vs by simp [lst, hl])
        rw [← m] at e1
        obtain ⟨⟨as, r⟩, c, dp⟩ := all _ _ e1
        exact ⟨⟨_, .list e rfl rfl r⟩, by simpa [PyData.canLay0] using c, by simp only [PyData.depth]; omega⟩
      · rename_i vs hl
        obtain ⟨ds, e1, rfl⟩ := Option.map_eq_some_iff.mp h
        have hH : H a = some (.tup vs) := by
          unfold lk at hl
          split at hl
          · rename_i q; rw [q]; exact hl
          · simp at hl
        obtain ⟨items, k, e, m⟩ := S.hr _ _ hH
        rw [← m] at e1
        obtain ⟨⟨as, r⟩, c, dp⟩ := all _ _ e1
        exact ⟨⟨_, .tuple e rfl rfl r⟩, by simpa [PyData.canLay0] using c, by simp only [PyData.depth]; omega⟩
      · cases h
    · cases h

theorem cmp_ok (C : cx.OK) (hu : A.units + 64 < cLine) (S : HS cx H s) {op : CmpOp} {a b : Value} {c : Bool} {Q : V → HP → Prop} (h : cmpP cx op (abs a) (abs b) H = some c) (hQ : Q (.bool c) H) :
    wpAny (model cx.prog cx.w) A (compareOp op a b) (EP cx s H Q) E s := by
  generalize hva : abs a = va at h
  generalize hvb : abs b = vb at h
  have fin : EP cx s H Q (.bool c) s := ep_here S hQ
  unfold cmpP at h
  split at h
  · obtain ⟨t, rfl⟩ := abs_int hva; obtain ⟨u, rfl⟩ := abs_int hvb; cases h
    exact PyProof.Rows.lt_int fin
  · obtain ⟨t, rfl⟩ := abs_int hva; obtain ⟨u, rfl⟩ := abs_int hvb; cases h
    exact PyProof.Rows.le_int fin
  · obtain ⟨t, rfl⟩ := abs_int hva; obtain ⟨u, rfl⟩ := abs_int hvb; cases h
    exact PyProof.Rows.gt_int fin
  · obtain ⟨t, rfl⟩ := abs_int hva; obtain ⟨u, rfl⟩ := abs_int hvb; cases h
    exact PyProof.Rows.ge_int fin
  · obtain ⟨t, rfl⟩ := abs_int hva; obtain ⟨u, rfl⟩ := abs_int hvb; cases h
    exact PyProof.Rows.eq_int fin
  · obtain ⟨t, rfl⟩ := abs_int hva; obtain ⟨u, rfl⟩ := abs_int hvb; cases h
    exact PyProof.Rows.ne_int fin
  · have := abs_bool hva; subst this; have := abs_bool hvb; subst this; cases h
    exact PyProof.Rows.eq_bool fin
  · have := abs_bool hva; subst this; have := abs_bool hvb; subst this; cases h
    exact PyProof.Rows.ne_bool fin
  · obtain ⟨t, rfl⟩ := abs_str hva; obtain ⟨u, rfl⟩ := abs_str hvb; cases h
    exact PyProof.Rows.eq_str fin
  · obtain ⟨t, rfl⟩ := abs_str hva; obtain ⟨u, rfl⟩ := abs_str hvb; cases h
    exact PyProof.Rows.ne_str fin
  · have := abs_ref hva; subst this; have := abs_ref hvb; subst this
    split at h
    · rename_i d e hd he; cases h
      obtain ⟨⟨as, r⟩, c, dp⟩ := rdV_reads C S 8 (.ref _) d hd
      obtain ⟨⟨bs, r'⟩, c', dp'⟩ := rdV_reads C S 8 (.ref _) e he
      exact eq_dataH r r' (by simp only [shaped, c, Bool.true_and]; exact decide_eq_true (by omega)) (by simp only [shaped, c', Bool.true_and]; exact decide_eq_true (by omega)) hu fin
    · cases h
  · have := abs_ref hva; subst this; have := abs_ref hvb; subst this
    split at h
    · rename_i d e hd he; cases h
      obtain ⟨⟨as, r⟩, c, dp⟩ := rdV_reads C S 8 (.ref _) d hd
      obtain ⟨⟨bs, r'⟩, c', dp'⟩ := rdV_reads C S 8 (.ref _) e he
      exact ne_dataH r r' (by simp only [shaped, c, Bool.true_and]; exact decide_eq_true (by omega)) (by simp only [shaped, c', Bool.true_and]; exact decide_eq_true (by omega)) hu fin
    · cases h
  · obtain ⟨t, rfl⟩ := abs_int hva; have := abs_bool hvb; subst this; cases h
    exact wpAny_is_other rfl (by simp) fin
  · obtain ⟨t, rfl⟩ := abs_int hva; have := abs_bool hvb; subst this; cases h
    exact wpAny_isNot_other rfl (by simp) fin
  · have := abs_bool hva; subst this; have := abs_bool hvb; subst this; cases h
    exact wpAny_is_plain rfl (by
      rename_i x y
      have : ((Value.bool x == Value.bool y) : Bool) = (x == y) := by cases x <;> cases y <;> decide
      rw [this]; exact fin)
  · have := abs_bool hva; subst this; have := abs_bool hvb; subst this; cases h
    exact wpAny_isNot_plain rfl (by
      rename_i x y
      have : (!(Value.bool x == Value.bool y) : Bool) = (x != y) := by cases x <;> cases y <;> decide
      rw [this]; exact fin)
  · rename_i x a'
    obtain ⟨t, rfl⟩ := abs_int hva; have := abs_ref hvb; subst this
    split at h
    · rename_i vs hvs
      obtain ⟨l, hl, rfl⟩ := Option.map_eq_some_iff.mp h
      obtain ⟨T, items, k, e, hT, m⟩ := sq_get C S hvs
      have hi := asInts_some hl
      rw [hi] at m
      have hany : items.any (hits x) = l.contains x := by rw [← any_hits m, ← Array.any_toList]
      have he : ∀ y, y ∈ items → EqAt A.in1 s y (.int x t) (hits x y) := fun y hy => by
        obtain ⟨i, u, rfl⟩ := mem_int m (Array.mem_toList_iff.mpr hy)
        exact EqAt.int_int i u x t
      rcases hT with rfl | rfl
      · exact in_listAt (hits x) ⟨_, e, rfl, k, rfl⟩ he (by rw [hany]; exact fin)
      · exact in_tupleAt (hits x) ⟨_, e, rfl, k, rfl⟩ he (by rw [hany]; exact fin)
    · cases h
  · rename_i x a'
    obtain ⟨t, rfl⟩ := abs_int hva; have := abs_ref hvb; subst this
    split at h
    · rename_i vs hvs
      obtain ⟨l, hl, rfl⟩ := Option.map_eq_some_iff.mp h
      obtain ⟨T, items, k, e, hT, m⟩ := sq_get C S hvs
      have hi := asInts_some hl
      rw [hi] at m
      have hany : items.any (hits x) = l.contains x := by rw [← any_hits m, ← Array.any_toList]
      have he : ∀ y, y ∈ items → EqAt A.in1 s y (.int x t) (hits x y) := fun y hy => by
        obtain ⟨i, u, rfl⟩ := mem_int m (Array.mem_toList_iff.mpr hy)
        exact EqAt.int_int i u x t
      rcases hT with rfl | rfl
      · exact notIn_listAt (hits x) ⟨_, e, rfl, k, rfl⟩ he (by rw [hany]; exact fin)
      · exact notIn_tupleAt (hits x) ⟨_, e, rfl, k, rfl⟩ he (by rw [hany]; exact fin)
    · cases h
  · cases h

theorem isi_ok (S : HS cx H s) {v : Value} {t : String} {b : Bool} {Q : V → HP → Prop} (h : isiP H (abs v) t = some b) (hQ : Q (.bool b) H) :
    wpAny (model cx.prog cx.w) A (call (.builtin "isinstance") [v, .type t]) (EP cx s H Q) E s := by
  generalize hv : abs v = va at h
  have fin : EP cx s H Q (.bool b) s := ep_here S hQ
  have fin1 : EP cx s H Q (.bool b) { s with toks := s.toks + 1 } := ep_same S _ hQ
  unfold isiP at h
  split at h
  · obtain ⟨t, rfl⟩ := abs_int hv; cases h; exact IsiPair.int_int fin
  · have := abs_bool hv; subst this; cases h; exact IsiPair.bool_int fin
  · have := abs_ref hv; subst this
    split at h
    · rename_i e; cases h
      obtain ⟨i, k, q, m⟩ := S.hr _ _ e
      exact IsiPair.list_list q rfl fin
    · rename_i e; cases h
      obtain ⟨i, k, q, m⟩ := S.hr _ _ e
      exact IsiPair.tuple_list q rfl fin1
    · cases h
  · have := abs_ref hv; subst this
    split at h
    · rename_i e; cases h
      obtain ⟨i, k, q, m⟩ := S.hr _ _ e
      exact IsiPair.list_tuple q rfl fin1
    · rename_i e; cases h
      obtain ⟨i, k, q, m⟩ := S.hr _ _ e
      exact IsiPair.tuple_tuple q rfl fin
    · cases h
  · cases h
end
end Mine
end

section
namespace Mine
open PySem PyProof.Rows PySem.SeqAt

theorem range_pick {α : Type} (xs : List α) : ∀ (c l : Nat), ((List.range c).map fun k => l + k).filterMap (fun i => xs[i]?) = (xs.drop l).take c := by
  intro c
  induction c with
  | zero => intro l; simp
  | succ c ih =>
    intro l
    rw [List.range_succ_eq_map, List.map_cons, List.map_map]
    have e : ((fun k => l + k) ∘ Nat.succ) = fun k => (l + 1) + k := by funext k; simp only [Function.comp]; omega
    rw [e, List.filterMap_cons, ih (l + 1)]
    simp only [Nat.add_zero]
    cases h : xs[l]? with
    | none =>
      have hl : xs.length ≤ l := List.getElem?_eq_none_iff.mp h
      simp [List.drop_eq_nil_of_le hl, List.drop_eq_nil_of_le (Nat.le_succ_of_le hl)]
    | some x =>
      obtain ⟨hl, hx⟩ := List.getElem?_eq_some_iff.mp h
      simp only
      rw [List.drop_eq_getElem_cons hl, List.take_succ_cons, hx]

def partOf : V → Option (Option Int)
  | .none => some none
  | .int i => some (some i)
  | _ => none

theorem isPart_of {v : Value} {x : Option Int} (h : partOf (abs v) = some x) : IsPart v x := by
  cases v <;> simp [abs, partOf] at h <;> subst h <;> constructor

theorem slice_cut {items : Array Value} {vs : List V} (m : items.toList.map abs = vs) {lo hi : V} {l h : Nat} (hl : cutLo vs.length lo = some l) (hh : cutHi vs.length hi = some h) :
    ∃ pl ph, partOf lo = some pl ∧ partOf hi = some ph ∧ (slicePick items pl ph none).toList.map abs = cut vs l h := by
  have hn := size_of m
  have key : ∀ pl ph, (sliceBounds pl ph none items.size).1 = (l : Int) → (sliceBounds pl ph none items.size).2.1 = (h : Int) → (sliceBounds pl ph none items.size).2.2 = 1 →
      (slicePick items pl ph none).toList.map abs = cut vs l h := by
    intro pl ph e1 e2 e3
    unfold slicePick
    rw [e1, e2, e3]
    have er : sliceRange (l : Int) (h : Int) 1 = (List.range (h - l)).map fun k => l + k := by
      unfold sliceRange
      simp only [show (1 : Int) > 0 from by decide, if_true, Int.one_mul]
      have ec : (if (l : Int) < h then ((h : Int) - l + 1 - 1) / 1 else 0).toNat = h - l := by
        split <;> omega
      rw [ec]
      congr 1
    rw [er]
    have := range_pick items.toList (h - l) l
    simp only [Array.getElem?_toList] at this
    show List.map abs (List.filterMap (fun i => items[i]?) _) = _
    rw [this, ← m]
    unfold cut
    rw [List.map_take, List.map_drop, List.drop_take]
  rw [← hn] at hl hh
  cases lo <;> simp only [cutLo, Option.some.injEq, reduceCtorEq] at hl <;> cases hi <;> simp only [cutHi, Option.some.injEq, reduceCtorEq] at hh
  · exact ⟨none, none, rfl, rfl, key _ _ (by simp [sliceBounds]; omega) (by simp [sliceBounds]; omega) rfl⟩
  · rename_i j
    exact ⟨none, some j, rfl, rfl, key _ _ (by simp [sliceBounds]; omega) (by simp [sliceBounds]; split at hh <;> (rename_i hj; simp only [hj]; try simp only [if_true, if_false]) <;> omega) rfl⟩
  · rename_i i
    exact ⟨some i, none, rfl, rfl, key _ _ (by simp [sliceBounds]; split at hl <;> (rename_i hj; simp only [hj]; try simp only [if_true, if_false]) <;> omega) (by simp [sliceBounds]; omega) rfl⟩
  · rename_i i j
    exact ⟨some i, some j, rfl, rfl, key _ _ (by simp [sliceBounds]; split at hl <;> (rename_i hj; simp only [hj]; try simp only [if_true, if_false]) <;> omega) (by simp [sliceBounds]; split at hh <;> (rename_i hj; simp only [hj]; try simp only [if_true, if_false]) <;> omega) rfl⟩

def BF.val : BF → Value
  | .len => .builtin "len"
  | .list => .type "list"
  | .int => .type "int"
  | .sum => .builtin "sum"
  | .max => .builtin "max"
  | .min => .builtin "min"
  | .abs => .builtin "abs"
  | .sorted => .builtin "sorted"
  | .repr => .builtin "repr"

theorem intItems_of : ∀ {vs : List Value} {l : List Int}, vs.map abs = intsV l → ∃ xs : Array (Int × Tok), vs.toArray = intItems xs ∧ xs.toList.map (·.1) = l
  | [], [], _ => ⟨#[], by simp [intItems], rfl⟩
  | [], _ :: _, h => by cases h
  | _ :: _, [], h => by cases h
  | v :: r, i :: l, h => by
    simp only [intsV, List.map_cons, List.cons.injEq] at h
    obtain ⟨t, rfl⟩ := abs_int h.1
    obtain ⟨xs, e, q⟩ := intItems_of (vs := r) (l := l) (by simpa [intsV] using h.2)
    refine ⟨((i, t) :: xs.toList).toArray, ?_, by simp [q]⟩
    have e' : r = (intItems xs).toList := by rw [← e]
    rw [e']; simp [intItems]

section
variable {cx : Cx} {H : HP} {s : Shared} {A : Around} {E : Value → Shared → Prop} {n : Nat}

theorem callb_ok (C : cx.OK) (hA : AOK A n) (S : HS cx H s) {b : BF} {vs : List Value} {Q : V → HP → Prop} (h : callbP cx b (vs.map abs) H Q) :
    wpAny (model cx.prog cx.w) A (call b.val vs) (EP cx s H Q) E s := by
  generalize hvs : vs.map abs = as at h
  have one : ∀ {x : V}, vs.map abs = [x] → ∃ v, vs = [v] ∧ abs v = x := by
    intro x e
    match vs, e with
    | [v], e => exact ⟨v, rfl, by simpa using e⟩
  have two : ∀ {x y : V}, vs.map abs = [x, y] → ∃ v w, vs = [v, w] ∧ abs v = x ∧ abs w = y := by
    intro x y e
    match vs, e with
    | [v, w], e => simp at e; exact ⟨v, w, rfl, e.1, e.2⟩
  unfold callbP at h
  split at h
  · obtain ⟨v, rfl, hv⟩ := one hvs
    have := abs_ref hv; subst this
    split at h
    · rename_i xs hx
      obtain ⟨T, items, k, e, hT, m⟩ := sq_get C S hx
      have hsz := size_of m
      have q : EP cx s H Q (.int items.size (s.toks + 1)) { s with toks := s.toks + 1 + 1 } := ep_same S _ (by rw [hsz]; exact h.2)
      rcases hT with rfl | rfl
      · exact PyProof.Rows.len_list ⟨_, e, rfl, k, rfl⟩ (by rw [hsz]; have := h.1; omega) q
      · exact PyProof.Rows.len_tuple ⟨_, e, rfl, k, rfl⟩ (by rw [hsz]; have := h.1; omega) q
    · exact h.elim
  · obtain ⟨v, rfl, hv⟩ := one hvs
    have := abs_ref hv; subst this
    split at h
    · rename_i xs hx
      obtain ⟨T, items, k, e, hT, m⟩ := sq_get C S hx
      refine call_list_seq _ hT e rfl rfl (fun h' c' hk hD => ?_) (by rw [size_of m, sizeLine_eq]; exact h.1)
      exact ⟨_, S.alloc hk (get_size _) (rep_list hD m) s.toks, KE.alloc hk (get_size _) s.toks, h.2 _ (S.fresh C (get_size _))⟩
    · exact h.elim
  · obtain ⟨v, rfl, hv⟩ := one hvs
    have := abs_bool hv; subst this
    exact call_int_bool (ep_same S _ h)
  · obtain ⟨v, rfl, hv⟩ := one hvs
    have := abs_ref hv; subst this
    split at h
    · rename_i xs hx
      split at h
      · rename_i l hl
        obtain ⟨items, k, e, m⟩ := lst_get C S hx
        rw [asInts_some hl] at m
        obtain ⟨ps, e1, e2⟩ := intItems_of m
        have e3 : items = intItems ps := by rw [← e1]
        subst e3
        refine sum_intList hA.handled e.isList (fun j hj => ?_) fun h' tk t' hk => ?_
        · have := h.1 j (by rw [← e2]; simpa using hj)
          rw [numAt_eq, preSum_eq, e2]; exact this
        · refine ep_grow S hk ?_
          rw [preSum_eq, List.take_of_length_le (by simp), e2]; exact h.2
      · exact h.elim
    · exact h.elim
  · obtain ⟨v, w, rfl, hv, hw⟩ := two hvs
    obtain ⟨t, rfl⟩ := abs_int hv; obtain ⟨u, rfl⟩ := abs_int hw
    refine max_two_ints hA.handled fun h' tk hk => ep_grow S hk ?_
    split at h <;> rename_i c
    · rw [if_pos c]; exact h
    · rw [if_neg c]; exact h
  · obtain ⟨v, w, rfl, hv, hw⟩ := two hvs
    obtain ⟨t, rfl⟩ := abs_int hv; obtain ⟨u, rfl⟩ := abs_int hw
    refine min_two_ints hA.handled fun h' tk hk => ep_grow S hk ?_
    split at h <;> rename_i c
    · rw [if_pos c]; exact h
    · rw [if_neg c]; exact h
  · exact h.elim
end
end Mine
end

section
namespace Mine
open PySem PyProof.Rows PySem.SeqAt

def notSlice : Expr → Bool
  | .Slice .. => false
  | _ => true
theorem notSlice_sub {e : Expr} (h : notSlice e = true) (o i : Value) : subscripted e false o i = operate [o, i] (getItem o i) := by
  cases e <;> first | rfl | (simp [notSlice] at h)

section
variable {cx : Cx} {H : HP} {s : Shared} {A : Around} {E : Value → Shared → Prop} {n : Nat}

theorem item_of {items : Array Value} {vs : List V} (m : items.toList.map abs = vs) {j : Nat} {v : V} (h : vs[j]? = some v) : ∃ x, items[j]? = some x ∧ abs x = v := by
  rw [← m, List.getElem?_map] at h
  obtain ⟨x, e, q⟩ := Option.map_eq_some_iff.mp h
  exact ⟨x, by simpa using e, q⟩

theorem sub_ok (C : cx.OK) (S : HS cx H s) {value slice : Expr} (hsl : notSlice slice = true) {o i : Value} {Q : V → HP → Prop} (h : subP cx (abs o) (abs i) H Q) :
    wpAny (model cx.prog cx.w) A (subscriptTail value slice o i) (EP cx s H Q) E s := by
  generalize ho : abs o = ao at h
  generalize hi : abs i = ai at h
  unfold subP at h
  split at h
  · rename_i a k
    have := abs_ref ho; subst this
    obtain ⟨u, rfl⟩ := abs_int hi
    split at h
    · rename_i vs hvs
      obtain ⟨h0, hlen, h⟩ := h
      split at h
      · rename_i v hv
        obtain ⟨T, items, kk, e, hT, m⟩ := sq_get C S hvs
        obtain ⟨x, hx, hxa⟩ := item_of m hv
        have hlt : k.toNat < vs.length := (List.getElem?_eq_some_iff.mp hv).1
        have fin : EP cx s H Q x s := ep_here S (by rw [hxa]; exact h)
        rcases hT with rfl | rfl
        · have hL : s.heap.IsList a items := ⟨_, e, rfl, kk, rfl⟩
          exact tail_any hL.typeIs slot_list_getitem.lookup (wpAny_getItem_list hL h0 (by omega) hx fin) (notSlice_sub hsl _ _)
        · have hT : IsTup s.heap a items.toList.toArray := ⟨_, e, rfl, kk, rfl⟩
          refine item_tupleT hT (by omega) (by omega) (j := k.toNat) ?_ (by simpa using hx) fin (notSlice_sub hsl _ _)
          have hsz : items.toList.length = vs.length := by rw [← m]; simp
          unfold seqIndex?
          rw [hsz]
          simp only [show ¬ k < 0 from by omega, if_false]
          rw [if_pos (by simp only [Bool.and_eq_true, decide_eq_true_eq]; omega)]
      · exact h.elim
    · exact h.elim
  · exact h.elim

theorem slice_ok (C : cx.OK) (S : HS cx H s) {value : Expr} {lo hi : Option Expr} {p : Pos} {o l u : Value} {Q : V → HP → Prop} (h : sliceP cx (abs o) (abs l) (abs u) H Q) :
    wpAny (model cx.prog cx.w) A (subscriptTail value (.Slice lo hi none p) o (.ref s.heap.objs.size)) (EP cx s H Q) E
      { s with heap := s.heap.push { cls := .type "slice", data := .fields #[l, u, .none] } } := by
  generalize ho : abs o = ao at h
  unfold sliceP at h
  split at h
  · rename_i a
    have := abs_ref ho; subst this
    split at h
    · rename_i vs hvs
      split at h
      · rename_i cl ch e1 e2
        obtain ⟨items, k, e, m⟩ := lst_get C S hvs
        obtain ⟨pl, ph, q1, q2, q3⟩ := slice_cut m e1 e2
        have k1 : ∀ b ob, s.heap.get? b = some ob → (s.heap.push { cls := .type "slice", data := .fields #[l, u, .none] }).get? b = some ob := fun b ob x => Heap.get?_push_of_some _ x
        have S' := S.grow k1 s.toks
        have hL : (s.heap.push { cls := .type "slice", data := .fields #[l, u, .none] }).IsList a items := ⟨_, k1 _ _ e, rfl, k, rfl⟩
        refine ep_from (KE.grow k1 s.toks) ?_
        refine tail_any (s := { s with heap := s.heap.push { cls := .type "slice", data := .fields #[l, u, .none] } }) hL.typeIs slot_list_getitem.lookup
          (wpAny_getItem_list_slice hL ⟨_, Heap.get?_push_size _ rfl, rfl, rfl⟩ (isPart_of q1) (isPart_of q2) .none (by simp) ?_ (by rw [size_of m, sizeLine_eq]; exact h.1)) rfl
        have nw : new cx H (.list (cut vs cl ch)) Q := h.2
        exact ep_push C S' nw (fun h e => rep_list e q3) rfl _
      · exact h.elim
    · exact h.elim
  · exact h.elim

/-- after a store: nothing is handed on -/
def UP (cx : Cx) (s : Shared) (H : HP) (Q : HP → Prop) : Unit → Shared → Prop := fun _ s' => ∃ H', HS cx H' s' ∧ KE s H s' H' ∧ Q H'

theorem setItem_plain {l : Addr} {items : Array Value} {c : Nat} {k : Int} {t : Tok} {v : Value} {Q : Unit → Shared → Prop} (hl : IsL s.heap l items c)
    (h0 : 0 ≤ k) (hfit : k < 2 ^ 63) (hn : k < items.size)
    (hQ : ∀ h', IsL h' l (items.setIfInBounds k.toNat v) c → Heap.SameBut l s.heap h' → Q () { s with heap := h' }) :
    wpAny (model cx.prog cx.w) A (setItem (.ref l) (.int k t) v) Q E s := by
  have hT : s.TypeIs (.ref l) "list" := ⟨_, hl, rfl⟩
  unfold setItem
  refine wpAny_holding (wpAny_bind (wpAny_sequenceKey hT (by decide) ?_))
  refine wpAny_bind (wpAny_callSpecial?_slot (name := Str.ofString "__setitem__") hT slot_list_setitem (wpAny_call_entry slot_list_setitem hT entry_list_setitem ?_ (args_list_setitem _ _ _)))
  show wpAny _ _ (Builtin.List.listSubscript? (.int k t) >>= _) _ _ s
  refine wpAny_bind (wpAny_listSubscript_int (fitsIndex_of h0 hfit) ?_)
  clear hfit
  obtain ⟨j, rfl⟩ := Int.eq_ofNat_of_zero_le h0
  have hj : j < items.size := by omega
  have hx' : items[j]? = some items[j] := Array.getElem?_eq_getElem hj
  have hnew : IsL (s.heap.update l (Obj.mapSeq (·.setIfInBounds j v))) l (items.setIfInBounds j v) c := by
    have := hl.update (fun xs => xs.setIfInBounds j v)
    simpa using this
  show wpAny _ _ ((seqItemAt l j >>= fun r => pure (r.map (j, ·))) >>= _) _ _ s
  refine wpAny_bind (wpAny_bind (wpAny_seqItemAt hl rfl (wpAny_pure ?_)))
  rw [hx']
  show wpAny _ _ (setSeqItemAt l j v >>= _) _ _ s
  refine wpAny_bind (wpAny_setSeqItemAt hl rfl ?_)
  have fin : Q () { s with heap := s.heap.update l (Obj.mapSeq (·.setIfInBounds j v)) } := hQ _ hnew (Heap.SameBut.update ..)
  first
    | exact wpAny_pure ⟨.none, rfl, wpAny_pure fin⟩
    | exact wpAny_bind (wpAny_pure (wpAny_pure ⟨.none, rfl, wpAny_pure fin⟩))

theorem setSub_ok (S : HS cx H s) {o i v : Value} {Q : HP → Prop} (h : setSubP (abs o) (abs i) (abs v) H Q) :
    wpAny (model cx.prog cx.w) A (setItem o i v) (UP cx s H Q) E s := by
  generalize ho : abs o = ao at h
  generalize hi : abs i = ai at h
  unfold setSubP at h
  split at h
  · rename_i a k
    have := abs_ref ho; subst this
    obtain ⟨u, rfl⟩ := abs_int hi
    split at h
    · rename_i vs hvs
      obtain ⟨h0, hlen, hlt, h⟩ := h
      obtain ⟨items, c, e, m⟩ := S.hr _ _ hvs
      have hsz := size_of m
      refine setItem_plain e h0 (by omega) (by omega) fun h' hL sb => ?_
      exact ⟨_, S.change hvs (fun b ob hb q => (sb.2 b hb).trans q) (rep_list hL (by rw [Array.toList_setIfInBounds, List.map_set, m])) s.toks, KE.change hvs (fun b ob hb q => (sb.2 b hb).trans q) s.toks, h⟩
    · exact h.elim
  · exact h.elim
end
end Mine
end

section
namespace Mine
open PySem PyProof.Rows PySem.SeqAt

structure Tbl where
  fns : List (Str × Addr)
  bfs : List (Str × BF)
  tys : List (Str × String)

structure Tbl.OK (cx : Cx) (T : Tbl) : Prop where
  fn : ∀ x f, T.fns.lookup x = some f → cx.gl x = some (.ref f) ∧ ∃ o fd, cx.base.get? f = some o ∧ o.data = .func fd
  bf : ∀ x b, T.bfs.lookup x = some b → cx.gl x = some b.val
  ty : ∀ x t, T.tys.lookup x = some t → cx.gl x = some (.type t)
  isi : cx.gl "isinstance" = some (.builtin "isinstance")
  rng : cx.gl "range" = some (.type "range")

def isGlob (sc : Scope) (x : Str) : Bool := sc.names.lookup x == some .globalImplicit && !(x == ("__debug__" : Str))

def idx : List (Option Str) → Str → Option Nat
  | [], _ => none
  | some y :: r, x => if y == x then some 0 else (idx r x).map (· + 1)
  | none :: r, x => (idx r x).map (· + 1)

theorem idx_some : ∀ {nm : List (Option Str)} {x : Str} {i : Nat}, idx nm x = some i → nm[i]? = some (some x)
  | some y :: r, x, i, h => by
    unfold idx at h
    split at h
    · rename_i e; cases h; rw [eq_of_beq e]; rfl
    · obtain ⟨j, e, rfl⟩ := Option.map_eq_some_iff.mp h
      rw [List.getElem?_cons_succ]; exact idx_some e
  | none :: r, x, i, h => by
    unfold idx at h
    obtain ⟨j, e, rfl⟩ := Option.map_eq_some_iff.mp h
    rw [List.getElem?_cons_succ]; exact idx_some e

def mthOf (x : Str) : Option Mth :=
  if x == ("append" : Str) then some .append else if x == ("pop" : Str) then some .pop else if x == ("clear" : Str) then some .clear else if x == ("extend" : Str) then some .extend else none

def headOf : Expr → Option Str
  | .Name x _ => some x
  | _ => none
def plainBase : Expr → Bool
  | .Call .. => false
  | _ => true

def attrFits : Expr → Pos → Bool
  | .Attribute o _ apos, pos => apos.endLine == pos.line && plainBase o
  | _, _ => false

/-- the scope within a comprehension -/
def relabelS (scope outer : Scope) : Scope :=
  { scope with names := scope.names.map fun (n, k) => if (k == .free && outer.kind == .function && outer.names.lookup n == some .cell) then (n, .cell) else (n, k) }
def compNames (scope : Scope) (nm : List (Option Str)) (x : Str) : List (Option Str) :=
  nm.map (fun o => o.filter fun y => scope.names.lookup y == some .free) ++ [some x]
def compScopeOk (scope outer : Scope) (x : Str) : Bool :=
  scope.kind == .function && scope.names.lookup x == some .local && outer.kind == .function &&
  scope.names.all fun y => y.2 != .cell && (y.2 != .local || scope.names.lookup y.1 == some .local) && (y.2 != .free || (outer.names.lookup y.1 == some .cell && scope.names.lookup y.1 == some .free))

mutual
def compE (T : Tbl) (sc : Scope) (nm : List (Option Str)) : Expr → Option ME
  | .Constant c _ _ => match c with
    | .int i => some (.cint i)
    | .bool b => some (.cbool b)
    | .none => some .cnone
    | .str x => some (.cstr x)
    | _ => none
  | .Name x _ => if x == ("__debug__" : Str) then none else (idx nm x).map .loc
  | .BinOp l op r _ => match compE T sc nm l, compE T sc nm r with
    | some a, some b => some (.bin op a b)
    | _, _ => none
  | .UnaryOp op e _ => match op, compE T sc nm e with
    | .Not, some a => some (.not a)
    | .USub, some a => some (.neg a)
    | _, _ => none
  | .Compare l ops cs _ => match compE T sc nm l, compEs T sc nm cs, ops with
    | some a, some (.cons b .nil), [op] => some (.cmp a op b)
    | some a, some (.cons b (.cons c .nil)), [o1, o2] => some (.cmp2 a o1 b o2 c)
    | _, _, _ => none
  | .BoolOp op es _ => match compEs T sc nm es with
    | some (.cons a as) => some (.bop op (.cons a as))
    | _ => none
  | .IfExp c t e _ => match compE T sc nm c, compE T sc nm t, compE T sc nm e with
    | some a, some b, some d => some (.ife a b d)
    | _, _, _ => none
  | .Call f args kws pos => match headOf f, compE T sc nm f, compEs T sc nm args, kws with
    | some x, _, as, [] => if isGlob sc x then
        match T.fns.lookup x, as with
        | some a, some (.cons e es) => some (.callf a (.cons e es))
        | some _, _ => none
        | none, as => if x == ("isinstance" : Str) then
            match compIsi T sc nm args with
            | some (e, t) => some (.isi e t)
            | none => none
          else match as with
            | some (.cons e es) => if x == ("range" : Str) then
                match es with
                | .nil => some (.rng (.cint 0) e)
                | .cons e2 .nil => some (.rng e e2)
                | _ => none
              else match T.bfs.lookup x with
                | some b => some (.callb b (.cons e es))
                | none => none
            | _ => none
      else none
    | none, some (.attr a m), some es, [] => if attrFits f pos && decide (args.length < 2) then
        match mthOf m with
        | some mm => some (.meth a mm es)
        | none => none
      else none
    | _, _, _, _ => none
  | .Attribute o m _ => match compE T sc nm o with
    | some a => some (.attr a m)
    | none => none
  | .Subscript v i _ => match compE T sc nm v, compE T sc nm i with
    | some a, some (.slc lo hi) => some (.slice a lo hi)
    | some a, some b => some (.sub a b)
    | _, _ => none
  | .Slice lo hi st _ => match st, compO T sc nm lo, compO T sc nm hi with
    | none, some a, some b => some (.slc a b)
    | _, _, _ => none
  | .List es _ => match compEs T sc nm es with
    | some as => some (.list as)
    | none => none
  | .Tuple es _ _ => match compEs T sc nm es with
    | some as => some (.tup as)
    | none => none
  | .ListComp elt gens scope _ => match compGen T sc nm scope gens with
    | some (x, it, cond) => match compE T (relabelS scope sc) (compNames scope nm x) elt with
      | some e => match it with
        | .rng a b => some (.compR e a b cond)
        | it => some (.comp e it cond)
      | none => none
    | none => none
  | _ => none
def compEs (T : Tbl) (sc : Scope) (nm : List (Option Str)) : List Expr → Option MEs
  | [] => some .nil
  | e :: r => match compE T sc nm e, compEs T sc nm r with
    | some a, some as => some (.cons a as)
    | _, _ => none
def compIsi (T : Tbl) (sc : Scope) (nm : List (Option Str)) : List Expr → Option (ME × String)
  | [e, .Name t _] => match compE T sc nm e, T.tys.lookup t with
    | some a, some ty => if isGlob sc t then some (a, ty) else none
    | _, _ => none
  | _ => none
def compO (T : Tbl) (sc : Scope) (nm : List (Option Str)) : Option Expr → Option ME
  | none => some .cnone
  | some e => compE T sc nm e
def compGen (T : Tbl) (sc : Scope) (nm : List (Option Str)) (scope : Scope) : List Comprehension → Option (Str × ME × ME)
  | [⟨.Name x _, iter, ifs, a⟩] => if a == 0 && compScopeOk scope sc x then
      match compE T sc nm iter, compEs T (relabelS scope sc) (compNames scope nm x) ifs with
      | some it, some .nil => some (x, it, .cbool true)
      | some it, some (.cons c .nil) => some (x, it, c)
      | _, _ => none
    else none
  | _ => none
end
end Mine
end

section
namespace Mine
open PySem PyProof.Rows PySem.SeqAt

def BP (cx : Cx) (s : Shared) (H : HP) (Q : Bool → HP → Prop) : Bool → Shared → Prop := fun b s' => ∃ H', HS cx H' s' ∧ KE s H s' H' ∧ Q b H'
def LP (cx : Cx) (s : Shared) (H : HP) (Q : List V → HP → Prop) : List Value → Shared → Prop := fun vs s' => ∃ H', HS cx H' s' ∧ KE s H s' H' ∧ Q (vs.map abs) H'

theorem BP.from {cx : Cx} {s s₁ : Shared} {H H₁ : HP} {Q : Bool → HP → Prop} (k : KE s H s₁ H₁) {v : Bool} {s' : Shared} (h : BP cx s₁ H₁ Q v s') : BP cx s H Q v s' := by
  obtain ⟨H', a, b, c⟩ := h
  exact ⟨H', a, k.trans b, c⟩
theorem LP.from {cx : Cx} {s s₁ : Shared} {H H₁ : HP} {Q : List V → HP → Prop} (k : KE s H s₁ H₁) {v : List Value} {s' : Shared} (h : LP cx s₁ H₁ Q v s') : LP cx s H Q v s' := by
  obtain ⟨H', a, b, c⟩ := h
  exact ⟨H', a, k.trans b, c⟩
theorem bp_from {cx : Cx} {s s₁ : Shared} {H H₁ : HP} {Q : Bool → HP → Prop} {M : Model} {A : Around} {E : Value → Shared → Prop} {t : Sem Bool} (k : KE s H s₁ H₁) (h : wpAny M A t (BP cx s₁ H₁ Q) E s₁) : wpAny M A t (BP cx s H Q) E s₁ :=
  wpAny_mono h (fun _ _ x => x.from k) fun _ _ e => e

theorem starEach_of {T : Tbl} {sc : Scope} {nm : List (Option Str)} {e : Expr} {m : ME} (h : compE T sc nm e = some m) (r : List Expr) (env : Env) : starEach (e :: r) env = (false, eval e env) :: starEach r env := by
  cases e <;> first | rfl | (simp [compE] at h)

theorem truth_inv {v : Value} {Q : Bool → Prop} (h : TruthP (abs v) Q) : ∃ b, v = .bool b ∧ Q b := by
  cases v <;> simp [abs, TruthP] at h
  exact ⟨_, rfl, h⟩

section
variable {cx : Cx} {T : Tbl} {fm : Fm} {H : HP} {μ : List V} {s : Shared} {A : Around} {E : Value → Shared → Prop} {n : Nat}

theorem glob_name (C : cx.OK) (W : fm.OK cx) (S : HS cx H s) {M : Model} {x : Str} {pos : Pos} {v : Value} (hx : isGlob fm.env.scope x = true) (hg : cx.gl x = some v) {Q : Value → Shared → Prop} (h : Q v s) :
    wpAny M A (eval (.Name x pos) fm.env) Q E s := by
  simp only [isGlob, Bool.and_eq_true, beq_iff_eq, Bool.not_eq_true'] at hx
  refine Calls.Name_function_global W.kind hx.1 ?_ hx.2
  rcases C.glob x v hg with ⟨mg, g1, g2⟩ | ⟨mg, mb, g1, g2, g3, g4⟩
  · exact Calls.loadGlobal_global (by rw [W.globals]; exact g1.keeps S.ext) g2 h
  · exact Calls.loadGlobal_builtin (by rw [W.globals]; exact g1.keeps S.ext) g2 (by rw [W.builtins]; exact g3.keeps S.ext) g4 h

theorem callf_ok (hA : AOK A n) (S : HS cx H s) {f : Addr} {vs : List Value} {Q : V → HP → Prop} (h : CallP cx n f (vs.map abs) H Q) :
    wpAny (model cx.prog cx.w) A (call (.ref f) vs) (EP cx s H Q) E s := by
  refine wpAny_call (codeAny_mono (h A s vs hA.toACall S rfl) fun r s' hr => ?_)
  obtain ⟨v, H', rfl, a, b, c⟩ := hr
  exact ⟨H', a, b, c⟩


theorem compEs_cons {sc : Scope} {nm : List (Option Str)} {es : List Expr} {a : ME} {as : MEs} (h : compEs T sc nm es = some (.cons a as)) :
    ∃ e r, es = e :: r ∧ compE T sc nm e = some a ∧ compEs T sc nm r = some as := by
  cases es with
  | nil => simp [compEs] at h
  | cons e r =>
    unfold compEs at h
    split at h
    · rename_i a' as' h1 h2; cases h; exact ⟨e, r, rfl, h1, h2⟩
    · cases h
theorem compEs_nil {sc : Scope} {nm : List (Option Str)} {es : List Expr} (h : compEs T sc nm es = some .nil) : es = [] := by
  cases es with
  | nil => rfl
  | cons e r =>
    unfold compEs at h
    split at h <;> cases h

theorem marks_of {sc : Scope} {nm : List (Option Str)} {e : Expr} {m : ME} (h : compE T sc nm e = some m) (op : CmpOp) : behindInMarks op e = false := by
  cases e <;> first | rfl | (simp [compE] at h)
theorem base_of {o : Expr} (h : plainBase o = true) (x : Str) (env : Env) (t : Sem Value) : attributeBase o x env t = t := by
  cases o <;> first | rfl | (simp [plainBase] at h)

theorem noStar {sc : Scope} {nm : List (Option Str)} (env : Env) (pos : Pos) : ∀ {es : List Expr} {mes : MEs}, compEs T sc nm es = some mes → (backTo pos (starEach es env)).any (·.1) = false ∧ (backTo pos (starEach es env)).all (fun x => !x.1) = true
  | [], _, _ => ⟨rfl, rfl⟩
  | e :: r, mes, h => by
    unfold compEs at h
    split at h
    · rename_i a as h1 h2
      rw [starEach_of h1]
      have := noStar env pos h2
      simp only [backTo, List.map_cons, List.any_cons, List.all_cons] at this ⊢
      exact ⟨by simpa using this.1, by simpa using this.2⟩
    · cases h

theorem compare2 {M : Model} {env : Env} {l m r : Expr} {o1 o2 : CmpOp} {pos : Pos} {Q : Value → Shared → Prop} (hm : behindInMarks o2 r = false)
    (h : wpAny M A (eval l env) (fun a s₁ => wpAny M A (eval m env) (fun b s₂ => wpAny M A (compareOp o1 a b) (fun c s₃ => wpAny M A (truthy c) (fun t s₄ =>
      if t then wpAny M A (eval r env) (fun d s₅ => wpAny M A (compareOp o2 b d) Q E s₅) E s₄ else Q c s₄) E s₃) E s₂) E s₁) E s) :
    wpAny M A (eval (.Compare l [o1, o2] [m, r] pos) env) Q E s := by
  show wpAny M A (do compareChain pos (← eval l env) [o1, o2] (markedEach [o1, o2] [m, r] [eval m env, eval r env])) Q E s
  rw [markedEach_of_false _ _ _ (show lastMarks [o1, o2] [m, r] = false from hm)]
  refine wpAny_bind (wpAny_mono h (fun a s₁ h₁ => ?_) fun _ _ e => e)
  unfold compareChain
  refine wpAny_bind (wpAny_holding (wpAny_mono h₁ (fun b s₂ h₂ => ?_) fun _ _ e => e))
  refine wpAny_bind (wpAny_standAt (wpAny_bind (wpAny_holding (wpAny_mono h₂ (fun c s₃ h₃ => ?_) fun _ _ e => e))))
  refine wpAny_bind (wpAny_release (wpAny_bind (wpAny_holding (wpAny_mono h₃ (fun t s₄ h₄ => ?_) fun _ _ e => e))))
  cases t with
  | true =>
    simp only [if_true] at h₄ ⊢
    unfold compareChain
    refine wpAny_bind (wpAny_holding (wpAny_mono h₄ (fun d s₅ h₅ => wpAny_bind (wpAny_standAt ?_)) fun _ _ e => e))
    intro Γ p hΓ
    rw [Sem.wp_operate]; exact h₅ Γ p hΓ
  | false => exact wpAny_pure h₄

theorem testChain2 {M : Model} {env : Env} {l m r : Expr} {o1 o2 : CmpOp} {pos : Pos} {whole : Sem Value} {Q : Bool → Shared → Prop} (hm : behindInMarks o2 r = false)
    (h : wpAny M A (eval l env) (fun a s₁ => wpAny M A (eval m env) (fun b s₂ => wpAny M A (compareOp o1 a b) (fun c s₃ => wpAny M A (truthy c) (fun t s₄ =>
      if t then wpAny M A (eval r env) (fun d s₅ => wpAny M A (compareOp o2 b d) (fun f s₆ => wpAny M A (truthy f) Q E s₆) E s₅) E s₄ else Q false s₄) E s₃) E s₂) E s₁) E s) :
    wpAny M A (isTrue (.Compare l [o1, o2] [m, r] pos) env whole) Q E s := by
  refine isTrue_chain (wpAny_mono h (fun a s₁ h₁ => ?_) fun _ _ e => e) hm
  unfold testChain
  refine wpAny_bind (wpAny_holding (wpAny_mono h₁ (fun b s₂ h₂ => ?_) fun _ _ e => e))
  refine wpAny_bind (wpAny_standAt (wpAny_bind (wpAny_holding (wpAny_mono h₂ (fun c s₃ h₃ => ?_) fun _ _ e => e))))
  refine wpAny_bind (wpAny_release (wpAny_bind (wpAny_holding (wpAny_mono h₃ (fun t s₄ h₄ => ?_) fun _ _ e => e))))
  cases t with
  | true =>
    simp only [if_true] at h₄ ⊢
    show wpAny M A (testChain pos b [o2] [eval r env]) Q E s₄
    unfold testChain
    refine wpAny_bind (wpAny_holding (wpAny_mono h₄ (fun d s₅ h₅ => wpAny_bind (wpAny_standAt (wpAny_bind ?_))) fun _ _ e => e))
    intro Γ p hΓ
    rw [Sem.wp_operate]
    exact Sem.wp_mono _ Γ _ (fun f p' s₆ h₆ => wpAny_holding h₆) (fun _ _ _ e => e) _ _ (h₅ Γ p hΓ)
  | false => exact wpAny_pure h₄

/-- the methods of a list -/
def Mth.id : Mth → String
  | .append => "list.append"
  | .pop => "list.pop"
  | .clear => "list.clear"
  | .extend => "list.extend"
theorem mth_slot {x : Str} {m : Mth} (h : mthOf x = some m) : Slot "list" x m.id ∧ typeOf (.builtin m.id) = pure (.type "method_descriptor") := by
  unfold mthOf at h
  split at h
  · rename_i e; cases h; rw [eq_of_beq e]; exact ⟨PySem.F.slot_list_append, PySem.F.type_list_append⟩
  · split at h
    · rename_i e; cases h; rw [eq_of_beq e]; exact ⟨PySem.F.slot_list_pop, PySem.F.type_list_pop⟩
    · split at h
      · rename_i e; cases h; rw [eq_of_beq e]; exact ⟨PySem.F.slot_list_clear, PySem.F.type_list_clear⟩
      · split at h
        · rename_i e; cases h; rw [eq_of_beq e]; exact ⟨PySem.F.slot_list_extend, PySem.F.type_list_extend⟩
        · cases h

end
end Mine
end

section
namespace Mine
open PySem PyProof.Rows PySem.SeqAt

section
variable {cx : Cx} {T : Tbl} {A : Around} {E : Value → Shared → Prop} {n : Nat}

theorem listAt_inv {o : V} {H : HP} (h : listAt o H) : ∃ a vs, o = .ref a ∧ H a = some (.list vs) := by
  unfold listAt at h
  split at h
  · split at h
    · rename_i e; exact ⟨_, _, rfl, e⟩
    · exact h.elim
  · exact h.elim

theorem erase_last (xs : Array Value) : (xs.eraseIdxIfInBounds (xs.size - 1)).toList = xs.toList.dropLast := by
  rw [Array.toList_eraseIdxIfInBounds]
  rw [List.dropLast_eq_take, List.eraseIdx_eq_take_drop_succ]
  simp
  omega

theorem meth0 (C : cx.OK) {H : HP} {s : Shared} (S : HS cx H s) {a : Addr} {m : Mth} {pos : Pos} {Q : V → HP → Prop} (h : methP (.ref a) m [] H Q) :
    wpAny (model cx.prog cx.w) A (callWith pos (.builtin m.id) [.ref a] [] []) (EP cx s H Q) E s := by
  unfold methP at h
  split at h
  · rename_i e1 e2; cases e2
  · rename_i e1 _; cases e1
    split at h
    · rename_i vs hvs
      split at h
      · rename_i v hv
        obtain ⟨items, k, e, mm⟩ := S.hr _ _ hvs
        have hlast : vs[vs.length - 1]? = some v := by rw [← List.getLast?_eq_getElem?]; exact hv
        obtain ⟨y, hy, hya⟩ := item_of mm hlast
        rw [← size_of mm] at hy
        have hle : items.size ≤ sizeLine := by rw [size_of mm, sizeLine_eq]; exact h.1
        refine P.pop_list e hy ?_ hle
        have e' := IsL.update e (fun xs => xs.eraseIdxIfInBounds (items.size - 1))
        have sb : ∀ b ob, b ≠ a → s.heap.get? b = some ob → (s.heap.update a (Obj.mapSeq fun xs => xs.eraseIdxIfInBounds (items.size - 1))).get? b = some ob := fun b ob hb q => (Heap.get?_update_other _ _ (Ne.symm hb)).trans q
        exact ⟨_, S.change hvs sb (rep_list e' (by rw [erase_last, List.map_dropLast, mm])) s.toks, KE.change hvs sb s.toks, by rw [hya]; exact h.2⟩
      · exact h.elim
    · exact h.elim
  · exact h.elim
theorem meth1 (C : cx.OK) {H : HP} {s : Shared} {a : Addr} {m : Mth} {pos : Pos} {x : Sem Value} {Q : V → HP → Prop}
    (h : wpAny (model cx.prog cx.w) A x (EP cx s H fun v H => methP (.ref a) m [v] H Q) E s) :
    wpAny (model cx.prog cx.w) A (callWith pos (.builtin m.id) [.ref a] [(false, x)] []) (EP cx s H Q) E s := by
  cases m with
  | append =>
    refine P.append_list (wpAny_mono h (fun v s₁ hx => ?_) fun _ _ e => e)
    obtain ⟨H₁, S, k₁, h⟩ := hx
    simp only [methP] at h
    split at h
    · rename_i vs hvs
      obtain ⟨items, k, e, mm⟩ := S.hr _ _ hvs
      refine ⟨items, k, by rw [size_of mm, sizeLine_eq]; exact h.1, e, ?_⟩
      have e' := IsL.update e (fun xs => xs.push v)
      have sb : ∀ b ob, b ≠ a → s₁.heap.get? b = some ob → (s₁.heap.update a (Obj.mapSeq fun xs => xs.push v)).get? b = some ob := fun b ob hb q => (Heap.get?_update_other _ _ (Ne.symm hb)).trans q
      exact ⟨_, S.change hvs sb (rep_list e' (by rw [Array.toList_push, List.map_append, mm]; rfl)) s₁.toks, k₁.trans (KE.change hvs sb s₁.toks), h.2⟩
    · exact h.elim
  | pop => exact Calls.callWith_builtin rfl (Calls.evalArgs_plain (Calls.spliced_cons (wpAny_mono h (fun v s₁ hx => (let ⟨_, _, _, f⟩ := hx; f.elim)) fun _ _ e => e)))
  | clear => exact Calls.callWith_builtin rfl (Calls.evalArgs_plain (Calls.spliced_cons (wpAny_mono h (fun v s₁ hx => (let ⟨_, _, _, f⟩ := hx; f.elim)) fun _ _ e => e)))
  | extend => exact Calls.callWith_builtin rfl (Calls.evalArgs_plain (Calls.spliced_cons (wpAny_mono h (fun v s₁ hx => (let ⟨_, _, _, f⟩ := hx; f.elim)) fun _ _ e => e)))

theorem truth_ok {M : Model} {H : HP} {s : Shared} {Q : Bool → HP → Prop} {v : Value} {s' : Shared} (x : EP cx s H (fun v H => TruthP v fun b => Q b H) v s') : wpAny M A (truthy v) (BP cx s H Q) E s' := by
  obtain ⟨H₁, S₁, k₁, h₁⟩ := x
  obtain ⟨b, rfl, h₁⟩ := truth_inv h₁
  exact wpAny_truthy_bool ⟨H₁, S₁, k₁, h₁⟩

theorem slc_inv {sc : Scope} {nm : List (Option Str)} {e : Expr} {a b : ME} (h : compE T sc nm e = some (.slc a b)) : ∃ lo hi p, e = .Slice lo hi none p ∧ compO T sc nm lo = some a ∧ compO T sc nm hi = some b := by
  cases e with
  | Slice lo hi st p =>
    unfold compE at h
    split at h
    · rename_i h1 h2; cases h; exact ⟨lo, hi, p, rfl, h1, h2⟩
    · cases h
  | _ =>
    exfalso
    unfold compE at h
    (repeat' split at h) <;> first | cases h | (obtain ⟨_, _, q⟩ := Option.map_eq_some_iff.mp h; cases q)
theorem notSlice_of {sc : Scope} {nm : List (Option Str)} {e : Expr} {a : ME} (h : compE T sc nm e = some a) (hn : ∀ lo hi, a ≠ .slc lo hi) : notSlice e = true := by
  cases e with
  | Slice lo hi st p =>
    unfold compE at h
    split at h
    · cases h; exact absurd rfl (hn _ _)
    · cases h
  | _ => rfl

end
end Mine
end

section
namespace Mine
open PySem
section
variable (T : Tbl) (sc : Scope) (nm : List (Option Str))
theorem compE_Constant (c : Const) (k : Nat) (p : Pos) : compE T sc nm (.Constant c k p) = (match c with
    | .int i => some (.cint i)
    | .bool b => some (.cbool b)
    | .none => some .cnone
    | .str x => some (.cstr x)
    | _ => none) := rfl
theorem compE_Name (x : Str) (p : Pos) : compE T sc nm (.Name x p) = (if x == ("__debug__" : Str) then none else (idx nm x).map .loc) := rfl
theorem compE_BinOp (l : Expr) (op : Operator) (r : Expr) (p : Pos) : compE T sc nm (.BinOp l op r p) = (match compE T sc nm l, compE T sc nm r with
    | some a, some b => some (.bin op a b)
    | _, _ => none) := rfl
theorem compE_UnaryOp (op : UnaryOp) (e : Expr) (p : Pos) : compE T sc nm (.UnaryOp op e p) = (match op, compE T sc nm e with
    | .Not, some a => some (.not a)
    | .USub, some a => some (.neg a)
    | _, _ => none) := rfl
theorem compE_Compare (l : Expr) (ops : List CmpOp) (cs : List Expr) (p : Pos) : compE T sc nm (.Compare l ops cs p) = (match compE T sc nm l, compEs T sc nm cs, ops with
    | some a, some (.cons b .nil), [op] => some (.cmp a op b)
    | some a, some (.cons b (.cons c .nil)), [o1, o2] => some (.cmp2 a o1 b o2 c)
    | _, _, _ => none) := rfl
theorem compE_BoolOp (op : BoolOp) (es : List Expr) (p : Pos) : compE T sc nm (.BoolOp op es p) = (match compEs T sc nm es with
    | some (.cons a as) => some (.bop op (.cons a as))
    | _ => none) := rfl
theorem compE_IfExp (c : Expr) (t : Expr) (e : Expr) (p : Pos) : compE T sc nm (.IfExp c t e p) = (match compE T sc nm c, compE T sc nm t, compE T sc nm e with
    | some a, some b, some d => some (.ife a b d)
    | _, _, _ => none) := rfl
theorem compE_Call (f : Expr) (args : List Expr) (kws : List Keyword) (pos : Pos) : compE T sc nm (.Call f args kws pos) = (match headOf f, compE T sc nm f, compEs T sc nm args, kws with
    | some x, _, as, [] => if isGlob sc x then
        match T.fns.lookup x, as with
        | some a, some (.cons e es) => some (.callf a (.cons e es))
        | some _, _ => none
        | none, as => if x == ("isinstance" : Str) then
            match compIsi T sc nm args with
            | some (e, t) => some (.isi e t)
            | none => none
          else match as with
            | some (.cons e es) => if x == ("range" : Str) then
                match es with
                | .nil => some (.rng (.cint 0) e)
                | .cons e2 .nil => some (.rng e e2)
                | _ => none
              else match T.bfs.lookup x with
                | some b => some (.callb b (.cons e es))
                | none => none
            | _ => none
      else none
    | none, some (.attr a m), some es, [] => if attrFits f pos && decide (args.length < 2) then
        match mthOf m with
        | some mm => some (.meth a mm es)
        | none => none
      else none
    | _, _, _, _ => none) := rfl
theorem compE_Attribute (o : Expr) (m : Str) (p : Pos) : compE T sc nm (.Attribute o m p) = (match compE T sc nm o with
    | some a => some (.attr a m)
    | none => none) := rfl
theorem compE_Subscript (v : Expr) (i : Expr) (p : Pos) : compE T sc nm (.Subscript v i p) = (match compE T sc nm v, compE T sc nm i with
    | some a, some (.slc lo hi) => some (.slice a lo hi)
    | some a, some b => some (.sub a b)
    | _, _ => none) := rfl
theorem compE_Slice (lo : Option Expr) (hi : Option Expr) (st : Option Expr) (p : Pos) : compE T sc nm (.Slice lo hi st p) = (match st, compO T sc nm lo, compO T sc nm hi with
    | none, some a, some b => some (.slc a b)
    | _, _, _ => none) := rfl
theorem compE_List (es : List Expr) (p : Pos) : compE T sc nm (.List es p) = (match compEs T sc nm es with
    | some as => some (.list as)
    | none => none) := rfl
theorem compE_Tuple (es : List Expr) (k : Nat) (p : Pos) : compE T sc nm (.Tuple es k p) = (match compEs T sc nm es with
    | some as => some (.tup as)
    | none => none) := rfl
theorem compE_ListComp (elt : Expr) (gens : List Comprehension) (scope : Scope) (p : Pos) : compE T sc nm (.ListComp elt gens scope p) = (match compGen T sc nm scope gens with
    | some (x, it, cond) => match compE T (relabelS scope sc) (compNames scope nm x) elt with
      | some e => match it with
        | .rng a b => some (.compR e a b cond)
        | it => some (.comp e it cond)
      | none => none
    | none => none) := rfl
end
end Mine
end

section
namespace Mine
open PySem PyProof.Rows PySem.SeqAt

section
variable {cx : Cx} {T : Tbl} {A : Around} {E : Value → Shared → Prop} {n : Nat}

/-- the expression keeps its word -/
def IE (cx : Cx) (T : Tbl) (A : Around) (E : Value → Shared → Prop) (n : Nat) (e : Expr) : Prop :=
  ∀ (me : ME) (fm : Fm) (H : HP) (μ : List V) (s : Shared) (Q : V → HP → Prop), fm.OK cx → compE T fm.env.scope fm.names e = some me →
    SR cx fm H μ s → mwpE cx n me μ H Q → wpAny (model cx.prog cx.w) A (eval e fm.env) (EP cx s H Q) E s
def IT (cx : Cx) (T : Tbl) (A : Around) (E : Value → Shared → Prop) (n : Nat) (e : Expr) : Prop :=
  ∀ (me : ME) (fm : Fm) (H : HP) (μ : List V) (s : Shared) (Q : Bool → HP → Prop), fm.OK cx → compE T fm.env.scope fm.names e = some me →
    SR cx fm H μ s → mwpE cx n me μ H (fun v H => TruthP v fun b => Q b H) → wpAny (model cx.prog cx.w) A (isTrue e fm.env (eval e fm.env)) (BP cx s H Q) E s

theorem i_Constant {c : Const} {k : Nat} {pos : Pos} : IE cx T A E n (.Constant c k pos) := by
  intro me fm H μ s Q W hc S h
  rw [compE_Constant] at hc
  split at hc <;> cases hc
  · exact wpAny_Constant_int (ep_same S.toHS _ h)
  · exact wpAny_Constant_bool (ep_here S.toHS h)
  · exact wpAny_Constant_none (ep_here S.toHS h)
  · exact wpAny_Constant_str (ep_same S.toHS _ h)
theorem i_Name {x : Str} {pos : Pos} : IE cx T A E n (.Name x pos) := by
  intro me fm H μ s Q W hc S h
  rw [compE_Name] at hc
  split at hc
  · cases hc
  · rename_i hd
    obtain ⟨i, hi, rfl⟩ := Option.map_eq_some_iff.mp hc
    rw [mwpE] at h
    exact wpAny_Name (load_loc W S (idx_some hi) h.1 fun v hv => ep_here S.toHS (by rw [hv]; exact h.2)) (by simpa using hd)
theorem i_BinOp (C : cx.OK) (hA : AOK A n) {l r : Expr} {op : Operator} {pos : Pos} (il : IE cx T A E n l) (ir : IE cx T A E n r) : IE cx T A E n (.BinOp l op r pos) := by
  intro me fm H μ s Q W hc S h
  rw [compE_BinOp] at hc
  split at hc
  · rename_i a b ha hb
    cases hc
    rw [mwpE] at h
    refine wpAny_BinOp (wpAny_mono (il a fm H μ s _ W ha S h) (fun v s₁ x => ?_) fun _ _ e => e)
    obtain ⟨H₁, S₁, k₁, h₁⟩ := x
    refine wpAny_mono (ir b fm H₁ μ s₁ _ W hb (S.step S₁ k₁) h₁) (fun v s₂ x => ?_) fun _ _ e => e
    obtain ⟨H₂, S₂, k₂, h₂⟩ := x
    exact ep_from (k₁.trans k₂) (bin_ok C hA S₂ h₂)
  · cases hc
theorem i_UnaryOp {e : Expr} {op : UnaryOp} {pos : Pos} (ie : IE cx T A E n e) : IE cx T A E n (.UnaryOp op e pos) := by
  intro me fm H μ s Q W hc S h
  rw [compE_UnaryOp] at hc
  split at hc
  · rename_i a ha
    cases hc
    rw [mwpE] at h
    refine wpAny_UnaryOp (wpAny_mono (ie a fm H μ s _ W ha S h) (fun v s₁ x => ?_) fun _ _ e => e)
    obtain ⟨H₁, S₁, k₁, h₁⟩ := x
    obtain ⟨b, rfl, h₁⟩ := truth_inv h₁
    exact PyProof.Rows.not_of (wpAny_truthy_bool ⟨H₁, S₁, k₁, h₁⟩)
  · rename_i a ha
    cases hc
    rw [mwpE] at h
    refine wpAny_UnaryOp (wpAny_mono (ie a fm H μ s _ W ha S h) (fun v s₁ x => ?_) fun _ _ e => e)
    obtain ⟨H₁, S₁, k₁, h₁⟩ := x
    split at h₁
    · rename_i i hi
      obtain ⟨t, rfl⟩ := abs_int hi
      exact PyProof.Rows.neg_int ⟨H₁, S₁.toks _, k₁.trans (KE.toks s₁ H₁ _), h₁⟩
    · exact h₁.elim
  · cases hc
theorem i_Compare (C : cx.OK) (hA : AOK A n) {l : Expr} {ops : List CmpOp} {cs : List Expr} {pos : Pos} (il : IE cx T A E n l) (ics : ∀ e ∈ cs, IE cx T A E n e) : IE cx T A E n (.Compare l ops cs pos) := by
  intro me fm H μ s Q W hc S h
  rw [compE_Compare] at hc
  split at hc
  · rename_i a b op ha hb
    cases hc
    obtain ⟨r, rest, rfl, hr, hrest⟩ := compEs_cons hb
    have := compEs_nil hrest; subst this
    rw [mwpE] at h
    refine wpAny_Compare1 (wpAny_mono (il a fm H μ s _ W ha S h) (fun v s₁ x => ?_) fun _ _ e => e) (marks_of hr _)
    obtain ⟨H₁, S₁, k₁, h₁⟩ := x
    refine wpAny_mono (ics r List.mem_cons_self b fm H₁ μ s₁ _ W hr (S.step S₁ k₁) h₁) (fun w s₂ x => ?_) fun _ _ e => e
    obtain ⟨H₂, S₂, k₂, h₂⟩ := x
    split at h₂
    · rename_i c hcmp
      exact ep_from (k₁.trans k₂) (cmp_ok C hA.room S₂ hcmp h₂)
    · exact h₂.elim
  · rename_i a b c o1 o2 ha hb
    cases hc
    obtain ⟨m, rest, rfl, hm, hrest⟩ := compEs_cons hb
    obtain ⟨r, rest, rfl, hr, hrest⟩ := compEs_cons hrest
    have := compEs_nil hrest; subst this
    rw [mwpE] at h
    refine compare2 (marks_of hr _) (wpAny_mono (il a fm H μ s _ W ha S h) (fun v s₁ x => ?_) fun _ _ e => e)
    obtain ⟨H₁, S₁, k₁, h₁⟩ := x
    refine wpAny_mono (ics m List.mem_cons_self b fm H₁ μ s₁ _ W hm (S.step S₁ k₁) h₁) (fun w s₂ x => ?_) fun _ _ e => e
    obtain ⟨H₂, S₂, k₂, h₂⟩ := x
    split at h₂
    · rename_i d hcmp
      refine wpAny_mono (cmp_ok (Q := fun v H' => v = .bool d ∧ H' = H₂) C hA.room S₂ hcmp ⟨rfl, rfl⟩) (fun t s₃ x => ?_) fun _ _ e => e
      obtain ⟨H₃, S₃, k₃, h₃, rfl⟩ := x
      have := abs_bool h₃; subst this
      refine wpAny_truthy_bool ?_
      have k := k₁.trans (k₂.trans k₃)
      cases d with
      | true =>
        simp only [if_true]
        refine wpAny_mono (ics r (List.mem_cons_of_mem _ List.mem_cons_self) c fm H₃ μ s₃ _ W hr (S.step S₃ k) (h₂.1 rfl)) (fun w2 s₄ x => ?_) fun _ _ e => e
        obtain ⟨H₄, S₄, k₄, h₄⟩ := x
        split at h₄
        · rename_i e hcmp2
          exact ep_from (k.trans k₄) (cmp_ok C hA.room S₄ hcmp2 h₄)
        · exact h₄.elim
      | false =>
        simp only [Bool.false_eq_true, if_false]
        exact ⟨H₃, S₃, k, h₂.2 rfl⟩
    · exact h₂.elim
  · cases hc
theorem i_IfExp {c t e : Expr} {pos : Pos} (ic : IT cx T A E n c) (it : IE cx T A E n t) (ie : IE cx T A E n e) : IE cx T A E n (.IfExp c t e pos) := by
  intro me fm H μ s Q W hc S h
  rw [compE_IfExp] at hc
  split at hc
  · rename_i a b d ha hb hd
    cases hc
    rw [mwpE] at h
    refine wpAny_IfExp (wpAny_mono (ic a fm H μ s (fun b' H => (b' = true → mwpE cx n b μ H Q) ∧ (b' = false → mwpE cx n d μ H Q)) W ha S h) (fun v s₁ x => ?_) fun _ _ e => e)
    obtain ⟨H₁, S₁, k₁, h₁⟩ := x
    cases v with
    | true => exact ep_from k₁ (it b fm H₁ μ s₁ Q W hb (S.step S₁ k₁) (h₁.1 rfl))
    | false => exact ep_from k₁ (ie d fm H₁ μ s₁ Q W hd (S.step S₁ k₁) (h₁.2 rfl))
  · cases hc

/-- arguments, one after the other -/
theorem sEs : ∀ (es : List Expr), (∀ e ∈ es, IE cx T A E n e) → ∀ (mes : MEs) (pos : Pos) (fm : Fm) (H : HP) (μ : List V) (s : Shared) (Q : List V → HP → Prop), fm.OK cx → compEs T fm.env.scope fm.names es = some mes →
    SR cx fm H μ s → mwpEs cx n mes μ H Q → wpAny (model cx.prog cx.w) A (spliced (backTo pos (starEach es fm.env))) (LP cx s H Q) E s
  | [], _, mes, pos, fm, H, μ, s, Q, W, hc, S, h => by
    rw [compEs] at hc
    cases hc
    exact Calls.spliced_nil ⟨H, S.toHS, Kept.refl _ s H, h⟩
  | e :: r, ih, mes, pos, fm, H, μ, s, Q, W, hc, S, h => by
    rw [compEs] at hc
    split at hc
    · rename_i a as ha has
      cases hc
      rw [mwpEs] at h
      rw [starEach_of ha]
      refine Calls.spliced_cons (wpAny_mono (ih e List.mem_cons_self a fm H μ s _ W ha S h) (fun v s₁ x => ?_) fun _ _ e => e)
      obtain ⟨H₁, S₁, k₁, h₁⟩ := x
      refine wpAny_mono (sEs r (fun e he => ih e (List.mem_cons_of_mem _ he)) as pos fm H₁ μ s₁ _ W has (S.step S₁ k₁) h₁) (fun vs s₂ x => ?_) fun _ _ e => e
      obtain ⟨H₂, S₂, k₂, h₂⟩ := x
      exact ⟨H₂, S₂, k₁.trans k₂, h₂⟩
    · cases hc

theorem i_List (C : cx.OK) {es : List Expr} {pos : Pos} (ih : ∀ e ∈ es, IE cx T A E n e) : IE cx T A E n (.List es pos) := by
  intro me fm H μ s Q W hc S h
  rw [compE_List] at hc
  split at hc
  · rename_i as hes
    cases hc
    rw [mwpE] at h
    refine List_ (wpAny_mono (sEs es ih as pos fm H μ s _ W hes S h) (fun vs s₁ x => ?_) fun _ _ e => e)
    obtain ⟨H₁, S₁, k₁, hlen, h₁⟩ := x
    exact ep_from k₁ (wpAny_newList (ep_push C S₁ h₁ (fun h e => rep_list e (by simp)) rfl _) (by rw [sizeLine_eq]; simpa using hlen))
  · cases hc
theorem i_Tuple (C : cx.OK) {es : List Expr} {k : Nat} {pos : Pos} (ih : ∀ e ∈ es, IE cx T A E n e) : IE cx T A E n (.Tuple es k pos) := by
  intro me fm H μ s Q W hc S h
  rw [compE_Tuple] at hc
  split at hc
  · rename_i as hes
    cases hc
    rw [mwpE] at h
    refine Tuple_ (wpAny_mono (sEs es ih as pos fm H μ s _ W hes S h) (fun vs s₁ x => ?_) fun _ _ e => e)
    obtain ⟨H₁, S₁, k₁, hlen, h₁⟩ := x
    exact ep_from k₁ (wpAny_newTuple (ep_push C S₁ h₁ (fun h e => rep_tup e (by simp)) rfl _) (by rw [sizeLine_eq]; simpa using hlen))
  · cases hc
end
end Mine
end

section
namespace Mine
open PySem PyProof.Rows PySem.SeqAt

section
variable {cx : Cx} {T : Tbl} {A : Around} {E : Value → Shared → Prop} {n : Nat}

theorem headOf_some {f : Expr} {x : Str} (h : headOf f = some x) : ∃ p, f = .Name x p := by
  cases f <;> simp [headOf] at h
  subst h; exact ⟨_, rfl⟩
theorem attr_inv {sc : Scope} {nm : List (Option Str)} {e : Expr} {a : ME} {m : Str} (h : compE T sc nm e = some (.attr a m)) : ∃ o p, e = .Attribute o m p ∧ compE T sc nm o = some a := by
  cases e with
  | Attribute o m' p =>
    rw [compE_Attribute] at h
    split at h
    · rename_i h1; cases h; exact ⟨o, p, rfl, h1⟩
    · cases h
  | _ =>
    exfalso
    unfold compE at h
    (repeat' split at h) <;> first | cases h | (obtain ⟨_, _, q⟩ := Option.map_eq_some_iff.mp h; cases q)

theorem callBF (C : cx.OK) (hA : AOK A n) {H : HP} {s : Shared} {Q : V → HP → Prop} {b : BF} {t : Sem Value} {ts : List (Bool × Sem Value)} {pos : Pos} (hns : ((false, t) :: ts).any (·.1) = false)
    (h : wpAny (model cx.prog cx.w) A (spliced ((false, t) :: ts)) (LP cx s H fun vs H => callbP cx b vs H Q) E s) :
    wpAny (model cx.prog cx.w) A (callWith pos b.val [] ((false, t) :: ts) []) (EP cx s H Q) E s := by
  have fin : ∀ v, b.val = v → wpAny (model cx.prog cx.w) A (evalArgs v true ((false, t) :: ts) []) (fun a s₁ => wpAny (model cx.prog cx.w) A (call v ([] ++ a.pos) a.kw) (EP cx s H Q) E s₁) E s := by
    intro v hv
    subst hv
    refine Calls.evalArgs_plain (wpAny_mono h (fun vs s₁ x => ?_) fun _ _ e => e)
    obtain ⟨H₁, S₁, k₁, h₁⟩ := x
    have := ep_from (E := E) k₁ (callb_ok (A := A) C hA S₁ h₁)
    simpa only [List.nil_append] using this
  cases b with
  | len => exact Calls.callWith_builtin (id := "len") hns (fin _ rfl)
  | list => exact PySem.callWith_type (T := "list") hns (fin _ rfl)
  | int => exact PySem.callWith_type (T := "int") hns (fin _ rfl)
  | sum => exact Calls.callWith_builtin (id := "sum") hns (fin _ rfl)
  | max => exact Calls.callWith_builtin (id := "max") hns (fin _ rfl)
  | min => exact Calls.callWith_builtin (id := "min") hns (fin _ rfl)
  | abs => exact Calls.callWith_builtin (id := "abs") hns (fin _ rfl)
  | sorted => exact Calls.callWith_builtin (id := "sorted") hns (fin _ rfl)
  | repr => exact Calls.callWith_builtin (id := "repr") hns (fin _ rfl)

theorem i_CallName (C : cx.OK) (TO : T.OK cx) (hA : AOK A n) {x : Str} {np : Pos} {args : List Expr} {pos : Pos} (ih : ∀ e ∈ args, IE cx T A E n e) : IE cx T A E n (.Call (.Name x np) args [] pos) := by
  intro me fm H μ s Q W hc S h
  rw [compE_Call] at hc
  simp only [headOf] at hc
  split at hc
  · rename_i hx
    split at hc
    · rename_i a e es hf hargs
      cases hc
      rw [mwpE] at h
      obtain ⟨hg, o, fd, ho, hd⟩ := TO.fn x a hf
      refine wpAny_Call_ofName (glob_name C W S.toHS hx hg ?_)
      have hs := sEs args ih (.cons e es) pos fm H μ s _ W hargs S h
      obtain ⟨e0, r0, rfl, h0, _⟩ := compEs_cons hargs
      refine callWith_def hd (wpAny_mono hs (fun vs s₁ x => ?_) fun _ _ e => e) (starEach_of h0 _ _)
      obtain ⟨H₁, S₁, k₁, h₁⟩ := x
      exact ⟨S₁.ext _ _ ho, ep_from k₁ (callf_ok hA S₁ h₁)⟩
    · cases hc
    · rename_i as1 as2 hf
      split at hc
      · rename_i hisi
        have hxe : x = ("isinstance" : Str) := eq_of_beq hisi
        subst hxe
        split at hc
        · rename_i e t hi
          cases hc
          unfold compIsi at hi
          split at hi
          · rename_i e0 ty0 tp
            split at hi
            · rename_i a ty h1 h2
              split at hi
              · rename_i hgt
                cases hi
                rw [mwpE] at h
                refine wpAny_Call_ofName (glob_name C W S.toHS hx TO.isi ?_)
                rw [starEach_of h1]
                refine Calls.callWith_builtin (by rfl) (Calls.evalArgs_plain (Calls.spliced_cons (wpAny_mono (ih e0 List.mem_cons_self _ fm H μ s _ W h1 S h) (fun v s₁ x => ?_) fun _ _ e => e)))
                obtain ⟨H₁, S₁, k₁, h₁⟩ := x
                refine Calls.spliced_cons (glob_name C W S₁ hgt (TO.ty _ _ h2) (Calls.spliced_nil ?_))
                split at h₁
                · rename_i b hb
                  exact ep_from k₁ (isi_ok S₁ hb h₁)
                · exact h₁.elim
              · cases hi
            · cases hi
          · cases hi
        · cases hc
      · split at hc
        · rename_i e es hargs
          split at hc
          · split at hc
            · cases hc; exact h.elim
            · cases hc; exact h.elim
            · cases hc
          · split at hc
            · rename_i b hb
              cases hc
              rw [mwpE] at h
              have hs := sEs args ih (.cons e es) pos fm H μ s _ W hargs S h
              have hns := (noStar fm.env pos hargs).1
              obtain ⟨e0, r0, rfl, h0, _⟩ := compEs_cons hargs
              refine wpAny_Call_ofName (glob_name C W S.toHS hx (TO.bf _ _ hb) ?_)
              rw [starEach_of h0] at hs hns ⊢
              exact callBF C hA hns hs
            · cases hc
        · cases hc
  · cases hc

theorem i_CallAttr (C : cx.OK) {o : Expr} {m : Str} {apos : Pos} {args : List Expr} {pos : Pos} (io : IE cx T A E n o) (ih : ∀ e ∈ args, IE cx T A E n e) : IE cx T A E n (.Call (.Attribute o m apos) args [] pos) := by
  intro me fm H μ s Q W hc S h
  rw [compE_Call] at hc
  simp only [headOf] at hc
  split at hc
  · rename_i e1 _; cases e1
  · rename_i a m' es _ hat hes _
    obtain ⟨o', p', e1, ho⟩ := attr_inv hat
    cases e1
    split at hc
    · rename_i hcond
      split at hc
      · rename_i mm hm
        cases hc
        simp only [attrFits, Bool.and_eq_true, decide_eq_true_eq] at hcond
        rw [mwpE] at h
        obtain ⟨slot, hty⟩ := mth_slot hm
        have hns := (noStar fm.env pos hes).2
        refine wpAny_Call_method (base_of hcond.1.2 _ _ _) (by rw [hns]; simp [backToKw, keywordEach]; omega) hcond.1.1 PySem.F.plainAttrs_list slot hty
          (wpAny_mono (io a fm H μ s _ W ho S h) (fun ov s₁ x => ?_) fun _ _ e => e)
        obtain ⟨H₁, S₁, k₁, hl, h₁⟩ := x
        obtain ⟨ad, vs, e1, e2⟩ := listAt_inv hl
        have := abs_ref e1; subst this
        obtain ⟨items, k, e3, _⟩ := S₁.hr _ _ e2
        refine ⟨⟨_, e3, rfl⟩, fun b hb => by cases hb; exact ⟨_, e3, rfl⟩, ?_⟩
        cases es with
        | nil =>
          have := compEs_nil hes; subst this
          rw [mwpEs] at h₁
          exact ep_from k₁ (meth0 C S₁ h₁)
        | cons e es =>
          cases es with
          | nil =>
            obtain ⟨e0, r0, rfl, h0, hr0⟩ := compEs_cons hes
            have := compEs_nil hr0; subst this
            rw [mwpEs] at h₁
            rw [starEach_of h0]
            exact ep_from k₁ (meth1 C (ih e0 List.mem_cons_self e fm H₁ μ s₁ _ W h0 (S.step S₁ k₁) h₁))
          | cons e' es' =>
            obtain ⟨e0, r0, rfl, h0, hr0⟩ := compEs_cons hes
            obtain ⟨e1, r1, rfl, h1, hr1⟩ := compEs_cons hr0
            have := hcond.2
            simp only [List.length_cons] at this
            omega
      · cases hc
    · cases hc
  · cases hc

theorem sO {e : Option Expr} (ih : ∀ x, e = some x → IE cx T A E n x) : ∀ (me : ME) (fm : Fm) (H : HP) (μ : List V) (s : Shared) (Q : V → HP → Prop), fm.OK cx → compO T fm.env.scope fm.names e = some me →
    SR cx fm H μ s → mwpE cx n me μ H Q → wpAny (model cx.prog cx.w) A (evalPart e fm.env) (EP cx s H Q) E s := by
  intro me fm H μ s Q W hc S h
  cases e with
  | none =>
    simp only [compO, Option.some.injEq] at hc
    subst hc
    exact wpAny_evalPart_none (ep_here S.toHS h)
  | some e => exact wpAny_evalPart_some (ih e rfl me fm H μ s Q W (by simpa only [compO] using hc) S h)

theorem i_Subscript (C : cx.OK) {v i : Expr} {pos : Pos} (iv : IE cx T A E n v) (ii : IE cx T A E n i) (isl : ∀ lo hi p, i = .Slice lo hi none p → (∀ x, lo = some x → IE cx T A E n x) ∧ (∀ x, hi = some x → IE cx T A E n x)) : IE cx T A E n (.Subscript v i pos) := by
  intro me fm H μ s Q W hc S h
  rw [compE_Subscript] at hc
  split at hc
  · rename_i a lo hi hv hi
    cases hc
    rw [mwpE] at h
    obtain ⟨lo', hi', p, rfl, hlo, hhi⟩ := slc_inv hi
    obtain ⟨i1, i2⟩ := isl _ _ _ rfl
    refine Subscript_ (wpAny_mono (iv a fm H μ s _ W hv S h) (fun o s₁ x => ?_) fun _ _ e => e)
    obtain ⟨H₁, S₁, k₁, h₁⟩ := x
    refine wpAny_Slice (wpAny_mono (sO i1 lo fm H₁ μ s₁ _ W hlo (S.step S₁ k₁) h₁) (fun l s₂ x => ?_) fun _ _ e => e)
    obtain ⟨H₂, S₂, k₂, h₂⟩ := x
    have k12 := k₁.trans k₂
    refine wpAny_mono (sO i2 _ fm H₂ μ s₂ _ W hhi (S.step S₂ k12) h₂) (fun u s₃ x => ?_) fun _ _ e => e
    obtain ⟨H₃, S₃, k₃, h₃⟩ := x
    refine wpAny_evalPart_none ?_
    exact wpAny_mono (slice_ok C S₃ h₃) (fun _ _ x => x.from (k12.trans k₃)) fun _ _ e => e
  · rename_i a b hnot hv hi
    cases hc
    rw [mwpE] at h
    refine Subscript_ (wpAny_mono (iv a fm H μ s _ W hv S h) (fun o s₁ x => ?_) fun _ _ e => e)
    obtain ⟨H₁, S₁, k₁, h₁⟩ := x
    refine wpAny_mono (ii b fm H₁ μ s₁ _ W hi (S.step S₁ k₁) h₁) (fun iv s₂ x => ?_) fun _ _ e => e
    obtain ⟨H₂, S₂, k₂, h₂⟩ := x
    exact ep_from (k₁.trans k₂) (sub_ok C S₂ (notSlice_of hi (fun lo hi e => hnot _ _ e)) h₂)
  · cases hc

theorem sB : ∀ (es : List Expr), (∀ e ∈ es, IE cx T A E n e) → ∀ (mes : MEs) (op : BoolOp) (pos : Pos) (fm : Fm) (H : HP) (μ : List V) (s : Shared) (Q : V → HP → Prop), fm.OK cx → compEs T fm.env.scope fm.names es = some mes →
    SR cx fm H μ s → mwpB cx n op mes μ H Q → wpAny (model cx.prog cx.w) A (boolOp pos op (evalEach es fm.env)) (EP cx s H Q) E s
  | [], _, mes, op, pos, fm, H, μ, s, Q, W, hc, S, h => by
    rw [compEs] at hc
    cases hc
    rw [mwpB] at h
    exact h.elim
  | [e], ih, mes, op, pos, fm, H, μ, s, Q, W, hc, S, h => by
    unfold compEs at hc
    split at hc
    · rename_i a as ha has
      cases hc
      rw [compEs] at has
      cases has
      rw [mwpB] at h
      exact ih e List.mem_cons_self a fm H μ s Q W ha S h
    · cases hc
  | e :: e' :: r, ih, mes, op, pos, fm, H, μ, s, Q, W, hc, S, h => by
    unfold compEs at hc
    split at hc
    · rename_i a as ha has
      cases hc
      have has' := has
      unfold compEs at has'
      split at has'
      · rename_i a' as' _ _
        cases has'
        rw [mwpB] at h
        · show wpAny _ A (do
            let v ← eval e fm.env
            standAt pos
            let t ← holding [v] (truthy v)
            match op, t with
            | .And, false | .Or, true => pure v
            | _, _ => boolOp pos op (evalEach (e' :: r) fm.env)) _ E s
          refine wpAny_bind (wpAny_mono (ih e List.mem_cons_self a fm H μ s _ W ha S h) (fun v s₁ x => ?_) fun _ _ e => e)
          obtain ⟨H₁, S₁, k₁, h₁⟩ := x
          obtain ⟨b, rfl, h₁⟩ := truth_inv h₁
          refine wpAny_bind (wpAny_standAt (wpAny_bind (wpAny_holding (wpAny_truthy_bool ?_))))
          have rec' := fun h' => ep_from (E := E) k₁ (sB (e' :: r) (fun e he => ih e (List.mem_cons_of_mem _ he)) _ op pos fm H₁ μ s₁ Q W has (S.step S₁ k₁) h')
          cases op <;> cases b
          · exact wpAny_pure ⟨H₁, S₁, k₁, h₁.2 rfl⟩
          · exact rec' (h₁.1 rfl)
          · exact rec' (h₁.1 rfl)
          · exact wpAny_pure ⟨H₁, S₁, k₁, h₁.2 rfl⟩
        · intro e; cases e
      · cases has'
    · cases hc
theorem i_BoolOp {op : BoolOp} {es : List Expr} {pos : Pos} (ih : ∀ e ∈ es, IE cx T A E n e) : IE cx T A E n (.BoolOp op es pos) := by
  intro me fm H μ s Q W hc S h
  rw [compE_BoolOp] at hc
  split at hc
  · rename_i a as hes
    cases hc
    rw [mwpE] at h
    exact sB es ih (.cons a as) op pos fm H μ s Q W hes S h
  · cases hc

theorem sTs : ∀ (es : List Expr), (∀ e ∈ es, IT cx T A E n e) → ∀ (a : ME) (as : MEs) (op : BoolOp) (fm : Fm) (H : HP) (μ : List V) (s : Shared) (Q : Bool → HP → Prop), fm.OK cx → compEs T fm.env.scope fm.names es = some (.cons a as) →
    SR cx fm H μ s → mwpB cx n op (.cons a as) μ H (fun v H => TruthP v fun b => Q b H) → wpAny (model cx.prog cx.w) A (allTrue op es fm.env) (BP cx s H Q) E s
  | [], _, a, as, op, fm, H, μ, s, Q, W, hc, S, h => by simp [compEs] at hc
  | [e], ih, a, as, op, fm, H, μ, s, Q, W, hc, S, h => by
    unfold compEs at hc
    split at hc
    · rename_i a' as' ha has
      cases hc
      rw [compEs] at has
      cases has
      rw [mwpB] at h
      have hx := ih e List.mem_cons_self a fm H μ s Q W ha S h
      cases op with
      | And =>
        refine wpAny_allTrue_And_cons (wpAny_mono hx (fun b s₁ x => ?_) fun _ _ e => e)
        cases b
        · exact x
        · exact wpAny_pure x
      | Or =>
        refine wpAny_allTrue_Or_cons (wpAny_mono hx (fun b s₁ x => ?_) fun _ _ e => e)
        cases b
        · exact wpAny_pure x
        · exact x
    · cases hc
  | e :: e' :: r, ih, a, as, op, fm, H, μ, s, Q, W, hc, S, h => by
    unfold compEs at hc
    split at hc
    · rename_i a' as' ha has
      cases hc
      have has' := has
      unfold compEs at has'
      split at has'
      · rename_i a2 as2 _ _
        cases has'
        rw [mwpB] at h
        · have hx := ih e List.mem_cons_self a fm H μ s (fun b H => (b = (op == .And) → mwpB cx n op (.cons a2 as2) μ H (fun v H => TruthP v fun b => Q b H)) ∧ (b = (op == .Or) → Q b H)) W ha S h
          have rec' := fun {s₁ H₁} (S₁ : HS cx H₁ s₁) (k₁ : KE s H s₁ H₁) h' => bp_from (E := E) k₁ (sTs (e' :: r) (fun e he => ih e (List.mem_cons_of_mem _ he)) a2 as2 op fm H₁ μ s₁ Q W has (S.step S₁ k₁) h')
          cases op with
          | And =>
            refine wpAny_allTrue_And_cons (wpAny_mono hx (fun b s₁ x => ?_) fun _ _ e => e)
            obtain ⟨H₁, S₁, k₁, h₁⟩ := x
            cases b
            · exact ⟨H₁, S₁, k₁, h₁.2 rfl⟩
            · exact rec' S₁ k₁ (h₁.1 rfl)
          | Or =>
            refine wpAny_allTrue_Or_cons (wpAny_mono hx (fun b s₁ x => ?_) fun _ _ e => e)
            obtain ⟨H₁, S₁, k₁, h₁⟩ := x
            cases b
            · exact rec' S₁ k₁ (h₁.1 rfl)
            · exact ⟨H₁, S₁, k₁, h₁.2 rfl⟩
        · intro e; cases e
      · cases has'
    · cases hc
end
end Mine
end

section
namespace Mine
open PySem PyProof.Rows PySem.SeqAt

/-- an iterator over the items, as long as st holds -/
structure Iter (cx : Cx) (A : Around) (E : Value → Shared → Prop) (it : Addr) (items : List V) (st : HP → Prop) (P : Nat → Heap → Prop) : Prop where
  next : ∀ (s : Shared) (H : HP) (i : Nat) (v : V) (Q : Option Value → Shared → Prop), HS cx H s → st H → P i s.heap → items[i]? = some v →
    (∀ h' tk x, Mine.abs x = v → P (i + 1) h' → Heap.SameBut it s.heap h' → Q (some x) { s with heap := h', toks := tk }) → wpAny (model cx.prog cx.w) A (pyNext (.ref it)) Q E s
  stop : ∀ (s : Shared) (H : HP) (Q : Option Value → Shared → Prop), HS cx H s → st H → P items.length s.heap →
    (∀ h', Heap.ExtBut it s.heap h' → Q none { s with heap := h' }) → wpAny (model cx.prog cx.w) A (pyNext (.ref it)) Q E s
  self : ∀ (s : Shared) (Q : Value → Shared → Prop), P 0 s.heap → Q (.ref it) s → wpAny (model cx.prog cx.w) A (pyIter (.ref it)) Q E s
  frame : ∀ i h h', P i h → (∀ o, h.get? it = some o → h'.get? it = some o) → P i h'
  live : ∀ i h, P i h → ∃ o, h.get? it = some o

section
variable {cx : Cx} {T : Tbl} {A : Around} {E : Value → Shared → Prop} {n : Nat}

theorem iter_list (C : cx.OK) (hh : A.handled = none) {H : HP} {s : Shared} (S : HS cx H s) {a : Addr} {vs : List V} (h : lk cx H a = some (.list vs)) {E' : Value → Shared → Prop} {Q : Value → Shared → Prop}
    (hQ : ∀ it P ob, s.heap.get? it = none → (∀ E, Iter cx A E it vs (fun H' => lk cx H' a = some (.list vs)) P) → P 0 (s.heap.push ob) → Q (.ref it) { s with heap := s.heap.push ob }) :
    wpAny (model cx.prog cx.w) A (pyIter (.ref a)) Q E' s := by
  obtain ⟨items, k, e, m⟩ := lk_rep C S h
  refine wpAny_pyIter_list (items := items) ⟨_, e, rfl, k, rfl⟩ ?_
  refine hQ _ (fun i h => h.IsListIter s.heap.objs.size a i) _ (get_size _) (fun E => ⟨?_, ?_, ?_, ?_, ?_⟩) ⟨_, Heap.get?_push_size _ rfl, rfl, rfl⟩
  · intro s' H' i v Q S' st hp hv hq
    obtain ⟨items', k', e', m'⟩ := lk_rep C S' st
    obtain ⟨x, hx, hxa⟩ := item_of m' hv
    exact wpAny_pyNext_list_item hp ⟨_, e', rfl, k', rfl⟩ hx fun h' hi sb => hq h' s'.toks x hxa hi sb
  · intro s' H' Q S' st hp hq
    obtain ⟨items', k', e', m'⟩ := lk_rep C S' st
    exact wpAny_pyNext_list_end hh hp ⟨_, e', rfl, k', rfl⟩ (by rw [← size_of m']; simp) hq
  · intro s' Q hp hq; exact wpAny_pyIter_listiter hp hq
  · rintro i h h' ⟨o, e, r⟩ hk; exact ⟨o, hk o e, r⟩
  · rintro i h ⟨o, e, r⟩; exact ⟨o, e⟩
theorem iter_tup (C : cx.OK) (hh : A.handled = none) {H : HP} {s : Shared} (S : HS cx H s) {a : Addr} {vs : List V} (h : lk cx H a = some (.tup vs)) {E' : Value → Shared → Prop} {Q : Value → Shared → Prop}
    (hQ : ∀ it P ob, s.heap.get? it = none → (∀ E, Iter cx A E it vs (fun H' => lk cx H' a = some (.tup vs)) P) → P 0 (s.heap.push ob) → Q (.ref it) { s with heap := s.heap.push ob }) :
    wpAny (model cx.prog cx.w) A (pyIter (.ref a)) Q E' s := by
  obtain ⟨items, k, e, m⟩ := lk_rep C S h
  refine wpAny_pyIter_tuple (items := items) ⟨_, e, rfl, k, rfl⟩ ?_
  refine hQ _ (fun i h => h.IsTupleIter s.heap.objs.size a i) _ (get_size _) (fun E => ⟨?_, ?_, ?_, ?_, ?_⟩) ⟨_, Heap.get?_push_size _ rfl, rfl, rfl⟩
  · intro s' H' i v Q S' st hp hv hq
    obtain ⟨items', k', e', m'⟩ := lk_rep C S' st
    obtain ⟨x, hx, hxa⟩ := item_of m' hv
    exact wpAny_pyNext_tuple_item hp ⟨_, e', rfl, k', rfl⟩ hx fun h' hi sb => hq h' s'.toks x hxa hi sb
  · intro s' H' Q S' st hp hq
    obtain ⟨items', k', e', m'⟩ := lk_rep C S' st
    exact wpAny_pyNext_tuple_end hh hp ⟨_, e', rfl, k', rfl⟩ (by rw [← size_of m']; simp) hq
  · intro s' Q hp hq; exact wpAny_pyIter_tupleiter hp hq
  · rintro i h h' ⟨o, e, r⟩ hk; exact ⟨o, hk o e, r⟩
  · rintro i h ⟨o, e, r⟩; exact ⟨o, e⟩

theorem rangeL_length (x y : Int) : (rangeL x y).length = (y - x).toNat := by simp [rangeL]
theorem rangeL_get {x y : Int} {i : Nat} {v : V} (h : (intsV (rangeL x y))[i]? = some v) : v = .int (x + i) ∧ (i : Int) < y - x := by
  simp only [intsV, rangeL, List.getElem?_map, Option.map_eq_some_iff] at h
  obtain ⟨j, ⟨k, hk, rfl⟩, rfl⟩ := h
  obtain ⟨hlt, e⟩ := List.getElem?_eq_some_iff.mp hk
  simp at e hlt
  subst e
  exact ⟨rfl, by omega⟩

theorem iter_range (hh : A.handled = none) {s : Shared} {r : Addr} {x y : Int} {t u v : Tok} (hr : IsRange s.heap r x y 1 t u v) (hx : -1152921504606846976 < x ∧ x < 1152921504606846976) (hy : -1152921504606846976 < y ∧ y < 1152921504606846976) {E' : Value → Shared → Prop} {Q : Value → Shared → Prop}
    (hQ : ∀ it P ob, s.heap.get? it = none → (∀ E, Iter cx A E it (intsV (rangeL x y)) (fun _ => True) P) → P 0 (s.heap.push ob) → Q (.ref it) { s with heap := s.heap.push ob }) :
    wpAny (model cx.prog cx.w) A (pyIter (.ref r)) Q E' s := by
  refine wpAny_pyIter_range hr ?_ ?_
  · have hs := rangeSize_one x y
    unfold Builtin.Range.small Builtin.Range.rangeFitsLong
    rw [hs]
    simp only [Bool.and_eq_true, Bool.or_eq_true, decide_eq_true_eq, beq_iff_eq, show (1 : Int) > 0 from by decide, if_true]
    split <;> omega
  · refine hQ _ (fun i h => IsRangeIter h s.heap.objs.size (x + i) (Builtin.Range.rangeSize x y 1 - i) 1) _ (get_size _) (fun E => ⟨?_, ?_, ?_, ?_, ?_⟩) ?_
    · intro s' H' i v Q S' st hp hv hq
      obtain ⟨rfl, hi⟩ := rangeL_get hv
      refine wpAny_pyNext_range_item hp ?_ fun h' hi' sb => hq h' _ _ rfl ?_ sb
      · rw [rangeSize_one]; split <;> omega
      · have e1 : x + (i : Int) + 1 = x + ((i + 1 : Nat) : Int) := by omega
        have e2 : Builtin.Range.rangeSize x y 1 - (i : Int) - 1 = Builtin.Range.rangeSize x y 1 - ((i + 1 : Nat) : Int) := by omega
        rw [e1, e2] at hi'; exact hi'
    · intro s' H' Q S' st hp hq
      refine wpAny_pyNext_range_end hh hp ?_ hq
      rw [rangeSize_one]
      simp only [intsV, List.length_map, rangeL_length]
      split <;> omega
    · intro s' Q hp hq; exact wpAny_pyIter_rangeiter hp hq
    · intro i h h' hp hk; exact hk _ hp
    · intro i h hp; exact ⟨_, hp⟩
    · have := Heap.get?_push_size s.heap (o := { cls := .type "range_iterator", data := .fields #[rawInt x, rawInt (Builtin.Range.rangeSize x y 1), rawInt 1] }) rfl
      simpa using this
end
end Mine
end

section
namespace Mine
open PySem PyProof.Rows PySem.SeqAt

section
variable {cx : Cx} {T : Tbl} {A : Around} {E : Value → Shared → Prop} {n : Nat}

theorem lookup_relabelS {outer : Scope} (y : Str) : ∀ (names : List (Str × NameKind)), (names.map fun (n, k) => if (k == NameKind.free && outer.kind == .function && outer.names.lookup n == some .cell) then (n, NameKind.cell) else (n, k)).lookup y =
    (names.lookup y).map fun k => if (k == NameKind.free && outer.kind == .function && outer.names.lookup y == some .cell) then NameKind.cell else k
  | [] => rfl
  | (n, k) :: r => by
    rw [List.map_cons, List.lookup_cons]
    have ih := lookup_relabelS (outer := outer) y r
    by_cases hy : y = n
    · subst hy
      by_cases hc : (k == NameKind.free && outer.kind == .function && outer.names.lookup y == some .cell) = true
      · simp only [if_pos hc, List.lookup_cons, beq_self_eq_true, Option.map_some]
      · simp only [if_neg hc, List.lookup_cons, beq_self_eq_true, Option.map_some]
    · have hb : (y == n) = false := beq_eq_false_iff_ne.mpr hy
      by_cases hc : (k == NameKind.free && outer.kind == .function && outer.names.lookup n == some .cell) = true
      · simp only [if_pos hc, List.lookup_cons, hb]; exact ih
      · simp only [if_neg hc, List.lookup_cons, hb]; exact ih

structure ScopeOk (scope outer : Scope) (x : Str) : Prop where
  kind : scope.kind = .function
  loc : scope.names.lookup x = some .local
  okind : outer.kind = .function
  noCell : ∀ y ∈ scope.names, y.2 ≠ .cell
  locs : ∀ y ∈ scope.names, y.2 = .local → scope.names.lookup y.1 = some .local
  free : ∀ y ∈ scope.names, y.2 = .free → outer.names.lookup y.1 = some .cell
  free' : ∀ y, scope.names.lookup y = some .free → outer.names.lookup y = some .cell

theorem scopeOk_of {scope outer : Scope} {x : Str} (h : compScopeOk scope outer x = true) : ScopeOk scope outer x := by
  simp only [compScopeOk, Bool.and_eq_true, beq_iff_eq, List.all_eq_true, bne_iff_ne, Bool.or_eq_true, decide_eq_true_eq] at h
  obtain ⟨⟨⟨h1, h2⟩, h3⟩, h4⟩ := h
  refine ⟨h1, h2, h3, fun y hy => (h4 y hy).1.1, fun y hy e => ?_, fun y hy e => ?_, fun y e => ?_⟩
  · exact ((h4 y hy).1.2).resolve_left (fun q => q e)
  · exact (((h4 y hy).2).resolve_left (fun q => q e)).1
  · exact (((h4 (y, .free) (lookup_mem e)).2).resolve_left (fun q => q rfl)).1

theorem closure_of {env : Env} : ∀ (names : List (Str × NameKind)) (acc : List (Str × Addr)), (∀ y ∈ names, y.2 = .free → ∃ c, env.cells.lookup y.1 = some c) → (∀ p ∈ acc, env.cells.lookup p.1 = some p.2) →
    ∃ cl : List (Str × Addr), (forIn names acc fun (p : Str × NameKind) (cs : List (Str × Addr)) => (if p.2 == NameKind.free then (do let c ← cellOf env p.1; pure (ForInStep.yield ((p.1, c) :: cs))) else pure (ForInStep.yield cs) : Sem (ForInStep (List (Str × Addr))))) = pure cl ∧
      (∀ p ∈ cl, env.cells.lookup p.1 = some p.2) ∧ (∀ y, ((y, NameKind.free) ∈ names ∨ ∃ c, (y, c) ∈ acc) → ∃ c, (y, c) ∈ cl)
  | [], acc, _, ha => ⟨acc, rfl, ha, fun y h => h.elim (fun q => nomatch q) id⟩
  | (nm, k) :: r, acc, h, ha => by
    by_cases hk : k = .free
    · subst hk
      obtain ⟨c, hc⟩ := h (nm, .free) List.mem_cons_self rfl
      obtain ⟨cl, e, h1, h2⟩ := closure_of r ((nm, c) :: acc) (fun y hy => h y (List.mem_cons_of_mem _ hy)) (fun p hp => by
        rcases List.mem_cons.mp hp with rfl | hp
        · exact hc
        · exact ha p hp)
      refine ⟨cl, ?_, h1, fun y hy => h2 y ?_⟩
      · rw [List.forIn_cons, ← e]
        simp only [beq_self_eq_true, if_true, cellOf, hc]
        rfl
      · rcases hy with hy | ⟨d, hd⟩
        · rcases List.mem_cons.mp hy with q | hy
          · cases q; exact .inr ⟨c, List.mem_cons_self⟩
          · exact .inl hy
        · exact .inr ⟨d, List.mem_cons_of_mem _ hd⟩
    · obtain ⟨cl, e, h1, h2⟩ := closure_of r acc (fun y hy => h y (List.mem_cons_of_mem _ hy)) ha
      refine ⟨cl, ?_, h1, fun y hy => h2 y ?_⟩
      · rw [List.forIn_cons, ← e]
        have : (k == NameKind.free) = false := beq_eq_false_iff_ne.mpr hk
        simp only [this, Bool.false_eq_true, if_false]
        rfl
      · rcases hy with hy | hd
        · rcases List.mem_cons.mp hy with q | hy
          · cases q; exact absurd rfl hk
          · exact .inl hy
        · exact .inr hd

theorem lookup_of_mem {α β : Type} [BEq α] [LawfulBEq α] {x : α} {c : β} : ∀ {l : List (α × β)}, (x, c) ∈ l → ∃ d, l.lookup x = some d
  | (y, d) :: l, h => by
    rw [List.lookup_cons]
    cases hb : x == y with
    | true => exact ⟨d, rfl⟩
    | false =>
      rcases List.mem_cons.mp h with q | h
      · cases q; simp at hb
      · exact lookup_of_mem h

/-- the closure of a comprehension -/
theorem closureFor_ok {fm : Fm} (W : fm.OK cx) {scope : Scope} {x : Str} (O : ScopeOk scope fm.env.scope x) :
    ∃ cl, closureFor scope fm.env = pure cl ∧ (∀ y c, cl.lookup y = some c → fm.env.cells.lookup y = some c) ∧ (∀ y, scope.names.lookup y = some .free → ∃ c, cl.lookup y = some c) := by
  obtain ⟨cl, e, h1, h2⟩ := closure_of (env := fm.env) scope.names [] (fun y hy q => W.cellAt y.1 (O.free y hy q)) (fun _ hp => nomatch hp)
  refine ⟨cl, ?_, fun y c q => h1 _ (lookup_mem q), fun y q => ?_⟩
  · unfold closureFor
    have : (fun (x : Str × NameKind) (r : List (Str × Addr)) => (match x with | (name, kind) => if (kind == NameKind.free) = true then do let c ← cellOf fm.env name; pure (ForInStep.yield ((name, c) :: r)) else pure (ForInStep.yield r) : Sem (ForInStep (List (Str × Addr))))) =
      fun p cs => (if p.2 == NameKind.free then (do let c ← cellOf fm.env p.1; pure (ForInStep.yield ((p.1, c) :: cs))) else pure (ForInStep.yield cs)) := by
      funext p cs; rfl
    simp only [this, e]
    rfl
  · obtain ⟨c, hc⟩ := h2 y (.inl (lookup_mem q))
    exact lookup_of_mem hc

theorem getL_append (μ : List V) (v : V) : ∀ i, i < μ.length → getL (μ ++ [v]) i = getL μ i := by
  induction μ with
  | nil => intro i h; cases h
  | cons a l ih =>
    intro i h
    cases i with
    | zero => rfl
    | succ i => exact ih i (Nat.lt_of_succ_lt_succ h)
theorem getL_last (μ : List V) (v : V) : getL (μ ++ [v]) μ.length = v := by
  induction μ with
  | nil => rfl
  | cons a l ih => exact ih

abbrev compFm (fm : Fm) (scope : Scope) (cl : List (Str × Addr)) (C : Addr) (x : Str) : Fm := ⟨compEnvC scope cl C fm.env, compNames scope fm.names x⟩

theorem compFm_names {fm : Fm} {scope : Scope} {x y : Str} {i : Nat} (h : (compNames scope fm.names x)[i]? = some (some y)) :
    (fm.names[i]? = some (some y) ∧ scope.names.lookup y = some .free) ∨ (i = fm.names.length ∧ y = x) := by
  unfold compNames at h
  by_cases hi : i < fm.names.length
  · rw [List.getElem?_append_left (by simpa using hi), List.getElem?_map, Option.map_eq_some_iff] at h
    obtain ⟨o, e, q⟩ := h
    obtain ⟨rfl, hf⟩ := Option.filter_eq_some_iff.mp q
    exact .inl ⟨e, by simpa using hf⟩
  · rw [List.getElem?_append_right (by simpa using Nat.le_of_not_lt hi)] at h
    simp only [List.length_map] at h
    have : i - fm.names.length = 0 := by
      obtain ⟨hlt, _⟩ := List.getElem?_eq_some_iff.mp h
      simpa using hlt
    rw [this] at h
    simp at h
    exact .inr ⟨by omega, h.symm⟩

theorem kindOf_comp {fm : Fm} {scope : Scope} {cl : List (Str × Addr)} {C : Addr} {x : Str} (O : ScopeOk scope fm.env.scope x) (y : Str) :
    (scope.names.lookup y = some .free → (compEnvC scope cl C fm.env).kindOf y = some .cell) ∧ (scope.names.lookup y = some .local → (compEnvC scope cl C fm.env).kindOf y = some .local) ∧
    ((compEnvC scope cl C fm.env).kindOf y = some .cell → scope.names.lookup y = some .free) := by
  have e : (compEnvC scope cl C fm.env).kindOf y = (scope.names.lookup y).map fun k => if (k == NameKind.free && fm.env.scope.kind == .function && fm.env.scope.names.lookup y == some .cell) then NameKind.cell else k :=
    lookup_relabelS (outer := fm.env.scope) y scope.names
  rw [e]
  refine ⟨fun h => ?_, fun h => ?_, fun h => ?_⟩
  · rw [h]; simp [O.okind, O.free' y h]
  · rw [h]; rfl
  · obtain ⟨k, h1, h2⟩ := Option.map_eq_some_iff.mp h
    split at h2
    · rename_i hc
      simp only [Bool.and_eq_true, beq_iff_eq] at hc
      rw [h1, hc.1.1]
    · subst h2
      exact absurd rfl (O.noCell (y, .cell) (lookup_mem h1))

theorem compFm_ok {fm : Fm} (W : fm.OK cx) {scope : Scope} {x : Str} (O : ScopeOk scope fm.env.scope x) {cl : List (Str × Addr)} {C : Addr}
    (h1 : ∀ y c, cl.lookup y = some c → fm.env.cells.lookup y = some c) (h2 : ∀ y, scope.names.lookup y = some .free → ∃ c, cl.lookup y = some c)
    (hC : ¬ fm.own C) (hb : cx.base.get? C = none) : (compFm fm scope cl C x).OK cx where
  kind := O.kind
  globals := W.globals
  builtins := W.builtins
  cellsNe := fun y c hm (e : c = C) => hC (.inr ⟨y, e ▸ h1 y c hm⟩)
  cellsInj := fun y z c e1 e2 => W.cellsInj y z c (h1 _ _ e1) (h1 _ _ e2)
  inj := fun i j y e1 e2 => by
    rcases compFm_names e1 with ⟨a1, a2⟩ | ⟨a1, a2⟩ <;> rcases compFm_names e2 with ⟨b1, b2⟩ | ⟨b1, b2⟩
    · exact W.inj i j y a1 b1
    · subst b2; rw [O.loc] at a2; cases a2
    · subst a2; rw [O.loc] at b2; cases b2
    · rw [a1, b1]
  above := fun a q => by
    rcases q with q | ⟨y, q⟩
    · rw [q]; exact hb
    · exact W.above a (.inr ⟨y, h1 y a q⟩)
  cellAt := fun y q => h2 y ((kindOf_comp (cl := cl) (C := C) O y).2.2 q)

theorem comp_frame {fm : Fm} {H : HP} {μ : List V} {s : Shared} (S : SR cx fm H μ s) {scope : Scope} {x : Str} (O : ScopeOk scope fm.env.scope x) {cl : List (Str × Addr)} {C : Addr}
    (h1 : ∀ y c, cl.lookup y = some c → fm.env.cells.lookup y = some c) (h2 : ∀ y, scope.names.lookup y = some .free → ∃ c, cl.lookup y = some c)
    {m : Str → Option Value} (hn : s.heap.Ns C m) {v : Value} (hv : m x = some v) (hH : H C = none) : SR cx (compFm fm scope cl C x) H (μ ++ [abs v]) s := by
  refine ⟨S.toHS, ⟨?_, ?_, ⟨m, hn⟩, ?_⟩, fun a o e q => ?_⟩
  · simp [compNames, S.fr.len]
  · rintro a (q | ⟨y, q⟩)
    · obtain ⟨o, es, ep, e, _⟩ := hn; exact ⟨o, by rw [q]; exact e⟩
    · exact S.fr.live a (.inr ⟨y, h1 y a q⟩)
  · intro i y hy
    rcases compFm_names hy with ⟨a1, a2⟩ | ⟨a1, a2⟩
    · obtain ⟨ov, w, q⟩ := S.fr.var i y a1
      have hil : i < μ.length := by rw [S.fr.len]; exact (List.getElem?_eq_some_iff.mp a1).1
      refine ⟨ov, ?_, by rw [getL_append _ _ _ hil]; exact q⟩
      have hk : fm.env.kindOf y = some .cell := O.free' y a2
      rcases w with ⟨k1, _⟩ | ⟨_, c, hc, hcell⟩
      · rw [hk] at k1; cases k1
      · obtain ⟨d, hd⟩ := h2 y a2
        have := h1 y d hd
        rw [hc] at this; cases this
        exact .inr ⟨(kindOf_comp O y).1 a2, c, hd, hcell⟩
    · subst a2
      refine ⟨some v, .inl ⟨(kindOf_comp O y).2.1 O.loc, m, hn, hv⟩, .inr ⟨v, rfl, ?_⟩⟩
      rw [a1, ← S.fr.len, getL_last]
  · rcases q with q | ⟨y, q⟩
    · have q' : a = C := q
      rw [q', hH] at e; cases e
    · exact S.own a o e (.inr ⟨y, h1 y a q⟩)
end
end Mine
end

section
namespace Mine
open PySem PyProof.Rows PySem.SeqAt

section
variable {cx : Cx} {T : Tbl} {A : Around} {E : Value → Shared → Prop} {n : Nat}

theorem folded_of {sc : Scope} {nm : List (Option Str)} {e : Expr} {m : ME} (h : compE T sc nm e = some m) (env : Env) (x : Value) : foldedSetIterable e env x = pure x := by
  cases e <;> first | rfl | (simp [compE] at h)

theorem Ns.keep {h h' : Heap} {a : Addr} {m : Str → Option Value} (x : h.Ns a m) (k : ∀ o, h.get? a = some o → h'.get? a = some o) : h'.Ns a m :=
  let ⟨o, es, ep, e, r⟩ := x; ⟨o, es, ep, k o e, r⟩

/-- what a comprehension's loop keeps -/
structure CI (cx : Cx) (fm : Fm) (μ : List V) (s₀ : Shared) (H₀ : HP) (it C D : Addr) (P : Nat → Heap → Prop) (H : HP) (i : Nat) (acc : List V) (s : Shared) : Prop where
  sr : SR cx fm H μ s
  ke : KE s₀ H₀ s H
  pos : P i s.heap
  itH : H it = none
  ns : ∃ m, s.heap.Ns C m
  cH : H C = none
  dl : ∃ ys, s.heap.PlainList D ys ∧ ys.toList.map abs = acc
  dH : H D = none

theorem comp_loop (C : cx.OK) {fm : Fm} {H₀ : HP} {μ : List V} {s₀ : Shared} {Q : V → HP → Prop} (W : fm.OK cx) {elt iter : Expr} {ifs : List Expr} {x : Str} {px pos : Pos} {scope : Scope}
    (O : ScopeOk scope fm.env.scope x) {cl : List (Str × Addr)} {Ca D it : Addr}
    (h1 : ∀ y c, cl.lookup y = some c → fm.env.cells.lookup y = some c) (h2 : ∀ y, scope.names.lookup y = some .free → ∃ c, cl.lookup y = some c)
    {items : List V} {st : HP → Prop} {P : Nat → Heap → Prop} (I : ∀ E, Iter cx A E it items st P)
    (turn : V → HP → (Option V → HP → Prop) → Prop)
    (hcond : ∀ (E : Value → Shared → Prop) (s : Shared) (H : HP) (v : V) (K : Option V → HP → Prop), SR cx (compFm fm scope cl Ca x) H (μ ++ [v]) s → turn v H K →
      wpAny (model cx.prog cx.w) A (forIn ifs true fun c r => if r = true then do let ok ← isTrue c (compEnvC scope cl Ca fm.env) (eval c (compEnvC scope cl Ca fm.env)); pure (ForInStep.yield ok) else pure (ForInStep.yield r))
        (fun ok s' => ∃ H', HS cx H' s' ∧ KE s H s' H' ∧ (ok = true → wpAny (model cx.prog cx.w) A (eval elt (compEnvC scope cl Ca fm.env)) (EP cx s' H' fun v H => K (some v) H) E s') ∧ (ok = false → K none H')) E s)
    (hfresh : s₀.heap.get? it = none ∧ s₀.heap.get? Ca = none ∧ s₀.heap.get? D = none ∧ Ca ≠ it ∧ D ≠ it ∧ D ≠ Ca)
    (hC : ¬ fm.own Ca ∧ cx.base.get? Ca = none) (hD : ¬ fm.own D ∧ cx.base.get? D = none ∧ cx.Z D = none) (hit : ¬ fm.own it ∧ cx.base.get? it = none)
    (hlen : items.length ≤ 16777216) (Inv : List V → List V → HP → Prop) (hst : ∀ done acc H₁, Inv done acc H₁ → st H₁)
    (hturn : ∀ done x rest acc H₁, items = done ++ x :: rest → Inv done acc H₁ → turn x H₁ fun ov H₂ => ∃ H₃, LE H₃ H₂ ∧ Inv (done ++ [x]) (acc ++ ov.toList) H₃)
    (hend : ∀ acc H₁, Inv items acc H₁ → new cx H₁ (.list acc) Q)
    {s : Shared} {H₁ : HP} (hI : Inv [] [] H₁) (hs : CI cx fm μ s₀ H₀ it Ca D P H₁ 0 [] s) {R : Result → Shared → Prop}
    (hR : ∀ s' H', HS cx H' s' → KE s₀ H₀ s' H' → Q (.ref D) H' → H' Ca = none → (∃ m, s'.heap.Ns Ca m) → R (.ok .next) s') :
    codeAny (model cx.prog cx.w) A (.compLoop (.ListComp elt [⟨.Name x px, iter, ifs, 0⟩] scope pos) 0 (.ref it) (.ref D) (compEnvC scope cl Ca fm.env)) R s := by
  refine codeAny_compLoop_tests (fun k s => ∃ done rest acc H, items = done ++ rest ∧ k = rest.length ∧ acc.length ≤ done.length ∧ Inv done acc H ∧ CI cx fm μ s₀ H₀ it Ca D P H done.length acc s) ?_ items.length
    ⟨[], items, [], H₁, rfl, rfl, Nat.le_refl _, hI, hs⟩
  rintro k s ⟨done, rest, acc, H, hitems, rfl, hacc, hInv, B⟩
  have hdl : done.length ≤ items.length := by rw [hitems, List.length_append]; omega
  cases rest with
  | nil =>
    rw [List.append_nil] at hitems
    subst hitems
    refine (I _).stop s H _ B.sr.toHS (hst _ _ _ hInv) B.pos fun h' eb => ?_
    have S' := B.sr.aside B.itH hit.1 hit.2 eb s.toks
    obtain ⟨m, hm⟩ := B.ns
    obtain ⟨ys, hys, hya⟩ := B.dl
    obtain ⟨kk, hkk⟩ := hys
    have hD' : h'.get? D = some { cls := .type "list", data := .seq ys kk } := eb D _ hfresh.2.2.2.2.1 hkk
    refine hR _ (upd H D (.list acc)) ⟨fun a o e => ?_, S'.ext, fun a o e => ?_⟩ ⟨fun b o e hb _ => ?_, fun a o e ha _ => ?_, B.ke.os, B.ke.gens⟩ (hend acc H hInv D ⟨B.dH, hD.2.1, hD.2.2⟩) (by rw [upd_ne _ (Ne.symm hfresh.2.2.2.2.2)]; exact B.cH) ⟨m, Ns.keep hm fun o e => eb Ca o hfresh.2.2.2.1 e⟩
    · by_cases h : a = D
      · subst h; rw [upd_same] at e; cases e; exact rep_list hD' hya
      · rw [upd_ne _ h] at e; exact S'.hr a o e
    · by_cases h : a = D
      · subst h; exact hD.2.1
      · rw [upd_ne _ h] at e; exact S'.low a o e
    · exact eb b o (fun q => by subst q; rw [hfresh.1] at e; cases e) (B.ke.keep b o e hb id)
    · rw [upd_ne _ (fun q => by subst q; rw [hfresh.2.2.1] at e; cases e)]
      exact B.ke.dom a o e ha id
  | cons v rest =>
    have hv : items[done.length]? = some v := by rw [hitems]; simp
    refine (I _).next s H done.length v _ B.sr.toHS (hst _ _ _ hInv) B.pos hv fun h₁ tk xv hxa hp₁ sb₁ => ?_
    -- the iterator has gone on
    have S₁ := B.sr.aside B.itH hit.1 hit.2 sb₁.extBut tk
    obtain ⟨m, hm⟩ := B.ns
    have hm₁ : h₁.Ns Ca m := Ns.keep hm fun o e => sb₁.extBut Ca o hfresh.2.2.2.1 e
    refine wpAny_assign_Name (wpAny_storeName_local (m := m) ((kindOf_comp O x).2.1 O.loc) hm₁ (fun h₂ hm₂ sb₂ => ?_) (by show (scope.kind == .class || (scope.kind == .module && _)) = false; rw [O.kind]; rfl))
    have S₂ := S₁.aside B.cH hC.1 hC.2 sb₂.extBut (tk + 1)
    have F₂ := comp_frame S₂ O h1 h2 hm₂ (v := xv) (by simp) B.cH
    rw [hxa] at F₂
    -- all that stood before the turn, but the iterator and the block's names
    have keep₂ : ∀ b o, b ≠ it → b ≠ Ca → s.heap.get? b = some o → h₂.get? b = some o := fun b o n1 n2 e => sb₂.extBut b o n2 (sb₁.extBut b o n1 e)
    have ke₂ : KE s₀ H₀ { s with heap := h₂, toks := tk + 1 } H := ⟨fun b o e hb _ => keep₂ b o (fun q => by subst q; rw [hfresh.1] at e; cases e) (fun q => by subst q; rw [hfresh.2.1] at e; cases e) (B.ke.keep b o e hb id), fun a o e ha _ => B.ke.dom a o e ha id, B.ke.os, B.ke.gens⟩
    have pos₂ : P (done.length + 1) h₂ := (I fun _ _ => False).frame _ _ _ hp₁ fun o e => sb₂.extBut it o (Ne.symm hfresh.2.2.2.1) e
    obtain ⟨oit, hoit⟩ := (I fun _ _ => False).live _ _ pos₂
    obtain ⟨ys, hys, hya⟩ := B.dl
    have hys₂ : h₂.PlainList D ys := by obtain ⟨kk, e⟩ := hys; exact ⟨kk, keep₂ D _ hfresh.2.2.2.2.1 hfresh.2.2.2.2.2 e⟩
    refine wpAny_mono (hcond _ _ _ _ _ F₂ (hturn done v rest acc H hitems hInv)) (fun ok s₃ x₃ => ?_) fun _ _ e => e
    obtain ⟨H₃, S₃, k₃, ht, hf⟩ := x₃
    -- an end of a turn, at any later heap
    have fin : ∀ (s₄ : Shared) (H₄ : HP) (acc' : List V) (ys' : Array Value), HS cx H₄ s₄ → KE { s with heap := h₂, toks := tk + 1 } H s₄ H₄ → (∃ H₅, LE H₅ H₄ ∧ Inv (done ++ [v]) acc' H₅) → acc'.length ≤ done.length + 1 →
        ys'.toList.map abs = acc' → ∀ s₅ : Shared, s₅.heap.PlainList D ys' → (∀ b o, b ≠ D → s₄.heap.get? b = some o → s₅.heap.get? b = some o) → s₅.os = s₄.os → s₅.gens = s₄.gens →
        ∃ m, m < (v :: rest).length ∧ ∃ done rest acc H, items = done ++ rest ∧ m = rest.length ∧ acc.length ≤ done.length ∧ Inv done acc H ∧ CI cx fm μ s₀ H₀ it Ca D P H done.length acc s₅ := by
      intro s₄ H₄ acc' ys' S₄ k₄ ⟨H₅, le, hI5⟩ hl hy s₅ hp5 hk5 ho5 hg5
      have S₅ := (S₂.step S₄ k₄).le le
      have dH : H₅ D = none := by
        cases e : H₅ D with
        | none => rfl
        | some o =>
          obtain ⟨kk, e2⟩ := hys₂
          have := k₄.dom D _ e2 B.dH id
          rw [le D o e] at this; cases this
      have itH : H₅ it = none := by
        cases e : H₅ it with
        | none => rfl
        | some o =>
          have := k₄.dom it _ hoit B.itH id
          rw [le it o e] at this; cases this
      have cH : H₅ Ca = none := by
        cases e : H₅ Ca with
        | none => rfl
        | some o =>
          obtain ⟨oc, _, _, e2, _⟩ := hm₂
          have := k₄.dom Ca _ e2 B.cH id
          rw [le Ca o e] at this; cases this
      have S₆ : SR cx fm H₅ μ { s₄ with heap := s₅.heap } := S₅.aside dH hD.1 hD.2.1 hk5 s₄.toks
      refine ⟨rest.length, Nat.lt_succ_self _, done ++ [v], rest, acc', H₅, by rw [hitems]; simp, rfl, by simpa using hl, hI5, ?_⟩
      have S₇ : SR cx fm H₅ μ s₅ := ⟨⟨S₆.hr, S₆.ext, S₆.low⟩, S₆.fr, S₆.own⟩
      have k5 := (ke₂.trans k₄).le le
      refine ⟨S₇, ⟨fun b o e hb q => hk5 b o (fun q => by subst q; rw [hfresh.2.2.1] at e; cases e) (k5.keep b o e hb q), k5.dom, ho5.trans k5.os, hg5.trans k5.gens⟩, ?_, itH, ?_, cH, ⟨ys', hp5, hy⟩, dH⟩
      · rw [List.length_append]
        exact (I fun _ _ => False).frame _ _ _ pos₂ fun o e => hk5 it o (Ne.symm hfresh.2.2.2.2.1) (k₄.keep it o e B.itH id)
      · obtain ⟨oc, es, ep, e, r⟩ := hm₂
        exact ⟨_, oc, es, ep, hk5 Ca oc (Ne.symm hfresh.2.2.2.2.2) (k₄.keep Ca oc e B.cH id), r⟩
    cases ok with
    | true =>
      simp only [if_true]
      refine wpAny_mono (ht rfl) (fun y s₄ x₄ => ?_) fun _ _ e => e
      obtain ⟨H₄, S₄, k₄, h₄⟩ := x₄
      have hysn : s₄.heap.PlainList D ys := by
        obtain ⟨kk, e⟩ := hys₂
        have dn := k₃.dom D _ e B.dH id
        exact ⟨kk, k₄.keep D _ (k₃.keep D _ e B.dH id) dn id⟩
      have hsz : ys.size ≤ sizeLine := by rw [size_of hya, sizeLine_eq]; omega
      refine wpAny_list_append_plain hysn (fun h' hp sb => ?_) hsz
      exact fin s₄ H₄ _ (ys.push y) S₄ (k₃.trans k₄) h₄ (by simp; omega) (by rw [Array.toList_push, List.map_append, hya]; rfl) _ hp (fun b o hb e => sb.extBut b o hb e) rfl rfl
    | false =>
      simp only [Bool.false_eq_true, if_false]
      have hysn : s₃.heap.PlainList D ys := by
        obtain ⟨kk, e⟩ := hys₂
        exact ⟨kk, k₃.keep D _ e B.dH id⟩
      have := hf rfl
      simp only [Option.toList_none, List.append_nil] at this
      exact fin s₃ H₃ acc ys S₃ k₃ this (by omega) hya s₃ hysn (fun _ _ _ e => e) rfl rfl
end
end Mine
end

section
namespace Mine
open PySem PyProof.Rows PySem.SeqAt

section
variable {cx : Cx} {T : Tbl} {A : Around} {E : Value → Shared → Prop} {n : Nat}

theorem push_ne {h : Heap} {ob : Obj} {b : Nat} (hb : b ≠ h.objs.size) : (h.push ob).get? b = h.get? b := by
  cases e : (h.push ob).get? b with
  | some o =>
    obtain ⟨e1, e2⟩ := Heap.get?_some_iff.mp e
    symm
    refine Heap.get?_some_iff.mpr ⟨?_, e2⟩
    cases h; simpa [Heap.push, Array.getElem?_push, hb] using e1
  | none =>
    cases e' : h.get? b with
    | none => rfl
    | some o => rw [Heap.get?_push_of_some ob e'] at e; cases e

theorem comp_block (C : cx.OK) {fm : Fm} {H : HP} {μ : List V} {s : Shared} {Q : V → HP → Prop} (W : fm.OK cx) (S : SR cx fm H μ s) {elt iter : Expr} {ifs : List Expr} {x : Str} {px pos : Pos} {scope : Scope}
    (O : ScopeOk scope fm.env.scope x) {cl : List (Str × Addr)}
    (h1 : ∀ y c, cl.lookup y = some c → fm.env.cells.lookup y = some c) (h2 : ∀ y, scope.names.lookup y = some .free → ∃ c, cl.lookup y = some c)
    {items : List V} {st : HP → Prop} {P : Nat → Heap → Prop} {it : Addr} {ob : Obj} (I : ∀ E, Iter cx A E it items st P) (hit : s.heap.get? it = none) (hP : P 0 (s.heap.push ob)) 
    (turn : V → HP → (Option V → HP → Prop) → Prop)
    (hcond : ∀ (Ca : Addr) (E : Value → Shared → Prop) (s : Shared) (H : HP) (v : V) (K : Option V → HP → Prop), (compFm fm scope cl Ca x).OK cx → SR cx (compFm fm scope cl Ca x) H (μ ++ [v]) s → turn v H K →
      wpAny (model cx.prog cx.w) A (forIn ifs true fun c r => if r = true then do let ok ← isTrue c (compEnvC scope cl Ca fm.env) (eval c (compEnvC scope cl Ca fm.env)); pure (ForInStep.yield ok) else pure (ForInStep.yield r))
        (fun ok s' => ∃ H', HS cx H' s' ∧ KE s H s' H' ∧ (ok = true → wpAny (model cx.prog cx.w) A (eval elt (compEnvC scope cl Ca fm.env)) (EP cx s' H' fun v H => K (some v) H) E s') ∧ (ok = false → K none H')) E s)
    (hC : CompP cx items st H turn Q) {RR : Value → Addr → Result → Shared → Prop}
    (hRR : ∀ D Ca s' H', HS cx H' s' → KE s H s' H' → Q (.ref D) H' → H' Ca = none → s.heap.get? Ca = none → (∃ m, s'.heap.Ns Ca m) → RR (.ref D) Ca (.ok .next) s') :
    wpAny (model cx.prog cx.w) A (newList []) (fun acc s₃ => wpAny (model cx.prog cx.w) A (newFunctionEnv scope fm.env.globals cl [] fm.env.qual none .none (some fm.env)) (fun cenv s₄ =>
      codeAny (model cx.prog cx.w) A (.compStart (.ListComp elt [⟨.Name x px, iter, ifs, 0⟩] scope pos) 0 (.ref it) acc { cenv with scope := relabel scope fm.env }) (RR acc cenv.locals) s₄) E s₃) E
      { s with heap := s.heap.push ob } := by
  obtain ⟨hlen, Inv, hI0, hst, hturn, hend⟩ := hC
  refine wpAny_newList ?_ (by simp)
  refine wpAny_newFunctionEnv O.noCell (by intro y hy; cases hy) (fun h₁ hns₁ hsb₁ => ?_) O.kind
  dsimp only at hns₁ hsb₁ ⊢
  obtain ⟨oit, hoit⟩ := (I fun _ _ => False).live _ _ hP
  have hitlt : @LT.lt Nat _ it (s.heap.objs.size + 1) := by have := Heap.lt_size hoit; rwa [Heap.size_push] at this
  -- names for the two new places
  have hD1 : (s.heap.push ob).objs.size = s.heap.objs.size + 1 := Heap.size_push ..
  generalize hDe : (s.heap.push ob).objs.size = D at hns₁ hsb₁ ⊢
  generalize hH2 : (s.heap.push ob).push { cls := .type "list", data := .seq ([] : List Value).toArray } = h2' at hns₁ hsb₁ ⊢
  generalize hCe : h2'.objs.size = Ca at hns₁ hsb₁ ⊢
  have hCa : Ca = D + 1 := by rw [← hCe, ← hH2, Heap.size_push, hDe]
  have hDv : D = s.heap.objs.size + 1 := by rw [← hDe, hD1]
  have hns0 : ∀ b, s.heap.objs.size ≤ b → s.heap.get? b = none := fun b hb => by
    cases e : s.heap.get? b with
    | none => rfl
    | some o => exact absurd (Heap.lt_size e) (Nat.not_lt.mpr hb)
  have hsD : s.heap.get? D = none := hns0 D (by omega)
  have hsC : s.heap.get? Ca = none := hns0 Ca (by omega)
  have hown : ∀ b, s.heap.get? b = none → ¬ fm.own b := fun b hb q => by
    obtain ⟨o, e⟩ := S.fr.live b q
    rw [hb] at e; cases e
  have nCit : Ca ≠ it := Nat.ne_of_gt (by omega)
  have nDit : D ≠ it := Nat.ne_of_gt (by omega)
  have nDC : D ≠ Ca := by omega
  -- what stood stands
  have k₁ : ∀ b o, s.heap.get? b = some o → h₁.get? b = some o := fun b o e => by
    have hb : @LT.lt Nat _ b _ := Heap.lt_size e
    refine hsb₁.extBut b o (Nat.ne_of_lt (by omega)) (Heap.get?_push_of_some _ ?_)
    rw [← hH2]
    exact Heap.get?_push_of_some _ (Heap.get?_push_of_some _ e)
  have kit : ∀ o, (s.heap.push ob).get? it = some o → h₁.get? it = some o := fun o e => by
    refine hsb₁.extBut it o (Ne.symm nCit) (Heap.get?_push_of_some _ ?_)
    rw [← hH2]
    exact Heap.get?_push_of_some _ e
  have hDl : h₁.PlainList D #[] := ⟨0, hsb₁.extBut D _ nDC (Heap.get?_push_of_some _ (by
    rw [← hH2, ← hDe]; exact Heap.get?_push_size _ rfl))⟩
  have S' := S.toHS.grow k₁ (s.toks + ([] : List (Str × Value)).length)
  have K' : KE s H { s with heap := h₁, toks := s.toks + ([] : List (Str × Value)).length } H := KE.grow k₁ _
  have hfr := S.toHS.fresh C hsD
  have loop : codeAny (model cx.prog cx.w) A (.compLoop (.ListComp elt [⟨.Name x px, iter, ifs, 0⟩] scope pos) 0 (.ref it) (.ref D) (compEnvC scope cl Ca fm.env)) (RR (.ref D) Ca)
      { s with heap := h₁, toks := s.toks + ([] : List (Str × Value)).length } := by
    have cok : (compFm fm scope cl Ca x).OK cx := compFm_ok W O h1 h2 (hown _ hsC) (S.toHS.base_none hsC)
    refine comp_loop (s₀ := s) (H₀ := H) C W O h1 h2 I turn (fun E s H v K F ht => hcond Ca E s H v K cok F ht) ⟨hit, hsC, hsD, nCit, nDit, nDC⟩ ⟨hown _ hsC, S.toHS.base_none hsC⟩ ⟨hown _ hsD, hfr.2.1, hfr.2.2⟩ ⟨hown _ hit, S.toHS.base_none hit⟩ hlen
      Inv hst hturn hend hI0 ⟨S.step S' K', K', (I fun _ _ => False).frame _ _ _ hP kit, S.toHS.none_of hit, ⟨_, hns₁⟩, S.toHS.none_of hsC, ⟨#[], hDl, rfl⟩, S.toHS.none_of hsD⟩ ?_
    intro s' H' S₂ k₂ hQ hCn hns
    exact hRR D Ca s' H' S₂ k₂ hQ hCn hsC hns
  exact codeAny_compStart_list loop ((I _).self _ _ ((I fun _ _ => False).frame _ _ _ hP kit) loop)
end
end Mine
end

section
namespace Mine
open PySem PyProof.Rows PySem.SeqAt

section
variable {cx : Cx} {T : Tbl} {A : Around} {E : Value → Shared → Prop} {n : Nat}

def ItPost (cx : Cx) (A : Around) (s : Shared) (H : HP) (K : List V → (HP → Prop) → HP → Prop) : Value → Shared → Prop := fun v s₂ =>
  ∃ it P ob s₁ H₁ items st, v = .ref it ∧ HS cx H₁ s₁ ∧ KE s H s₁ H₁ ∧ s₂ = { s₁ with heap := s₁.heap.push ob } ∧ s₁.heap.get? it = none ∧ (∀ E, Iter cx A E it items st P) ∧ P 0 (s₁.heap.push ob) ∧ K items st H₁

theorem iterP_ok (C : cx.OK) (hh : A.handled = none) {H : HP} {s : Shared} (S : HS cx H s) {v : Value} {K : List V → (HP → Prop) → HP → Prop} (h : IterP cx (abs v) H K) :
    wpAny (model cx.prog cx.w) A (pyIter v) (ItPost cx A s H K) E s := by
  unfold IterP at h
  split at h
  · rename_i a ha
    have := abs_ref ha; subst this
    split at h
    · rename_i vs hl
      exact iter_list C hh S hl fun it P ob h1 h2 h3 => ⟨it, P, ob, s, H, vs, _, rfl, S, Kept.refl _ s H, rfl, h1, h2, h3, h.2⟩
    · rename_i vs hl
      exact iter_tup C hh S hl fun it P ob h1 h2 h3 => ⟨it, P, ob, s, H, vs, _, rfl, S, Kept.refl _ s H, rfl, h1, h2, h3, h.2⟩
    · exact h.elim
  · exact h.elim

theorem rng_inv {sc : Scope} {nm : List (Option Str)} {e : Expr} {a b : ME} (h : compE T sc nm e = some (.rng a b)) :
    ∃ np args p, e = .Call (.Name "range" np) args [] p ∧ isGlob sc "range" = true ∧ ((a = .cint 0 ∧ compEs T sc nm args = some (.cons b .nil)) ∨ compEs T sc nm args = some (.cons a (.cons b .nil))) := by
  cases e with
  | Call f args kws p =>
    rw [compE_Call] at h
    split at h
    · rename_i x hf
      obtain ⟨np, rfl⟩ := headOf_some hf
      split at h
      · rename_i hx
        split at h
        · cases h
        · cases h
        · split at h
          · split at h <;> cases h
          · split at h
            · split at h
              · rename_i hr
                have := eq_of_beq hr; subst this
                split at h
                · cases h; rename_i hargs; exact ⟨np, args, p, rfl, hx, .inl ⟨rfl, hargs⟩⟩
                · cases h; rename_i hargs; exact ⟨np, args, p, rfl, hx, .inr hargs⟩
                · cases h
              · split at h <;> cases h
            · cases h
      · cases h
    · split at h
      · split at h <;> cases h
      · cases h
    · cases h
  | _ =>
    exfalso
    unfold compE at h
    (repeat' split at h) <;> first | cases h | (obtain ⟨_, _, q⟩ := Option.map_eq_some_iff.mp h; cases q)

/-- what a loop runs over -/
theorem it_rng (C : cx.OK) (TO : T.OK cx) (hA : AOK A n) {fm : Fm} {H : HP} {μ : List V} {s : Shared} (W : fm.OK cx) (S : SR cx fm H μ s) {np p : Pos} {args : List Expr} (ih : ∀ e ∈ args, IE cx T A E n e) {a b : ME}
    (hx : isGlob fm.env.scope "range" = true) (hargs : (a = .cint 0 ∧ compEs T fm.env.scope fm.names args = some (.cons b .nil)) ∨ compEs T fm.env.scope fm.names args = some (.cons a (.cons b .nil)))
    {K : List V → (HP → Prop) → HP → Prop} (h : mwpE cx n a μ H fun x H => mwpE cx n b μ H fun y H => RngP x y fun items => K items (fun _ => True) H) :
    wpAny (model cx.prog cx.w) A (eval (.Call (.Name "range" np) args [] p) fm.env) (fun xv s₁ => wpAny (model cx.prog cx.w) A (pyIter xv) (ItPost cx A s H K) E s₁) E s := by
  -- the range's own end
  have fin : ∀ (s₁ : Shared) (H₁ : HP) (x y : Int) (t u : Tok) (ob : Obj) (tk : Nat), HS cx H₁ s₁ → KE s H s₁ H₁ → (RngP (.int x) (.int y) fun items => K items (fun _ => True) H₁) → (∃ v, ob = { cls := .type "range", data := .fields #[.int x t, .int y u, .int 1 v] }) →
      wpAny (model cx.prog cx.w) A (pyIter (.ref s₁.heap.objs.size)) (ItPost cx A s H K) E { s₁ with heap := s₁.heap.push ob, toks := tk } := by
    intro s₁ H₁ x y t u ob tk S₁ k₁ hr ⟨v, hob⟩
    subst hob
    simp only [RngP] at hr
    have kg : ∀ b o, s₁.heap.get? b = some o → (s₁.heap.push { cls := .type "range", data := .fields #[.int x t, .int y u, .int 1 v] }).get? b = some o := fun b o e => Heap.get?_push_of_some _ e
    refine iter_range (s := { s₁ with heap := s₁.heap.push { cls := .type "range", data := .fields #[.int x t, .int y u, .int 1 v] }, toks := tk }) hA.handled (IsRange.new _ _ _ _ _ _ _) hr.1 hr.2.1 fun it P ob h1 h2 h3 => ?_
    exact ⟨it, P, ob, _, H₁, _, _, rfl, S₁.grow kg tk, k₁.trans (KE.grow kg tk), rfl, h1, h2, h3, hr.2.2⟩
  refine wpAny_Call_ofName (glob_name C W S.toHS hx TO.rng ?_)
  rcases hargs with ⟨rfl, hargs⟩ | hargs
  · obtain ⟨e0, r0, rfl, h0, hr⟩ := compEs_cons hargs
    have := compEs_nil hr; subst this
    rw [mwpE] at h
    rw [starEach_of h0]
    refine PySem.callWith_type rfl (Calls.evalArgs_plain (Calls.spliced_cons (wpAny_mono (ih e0 List.mem_cons_self b fm H μ s _ W h0 S h) (fun v s₁ x => Calls.spliced_nil ?_) fun _ _ e => e)))
    obtain ⟨H₁, S₁, k₁, h₁⟩ := x
    have h₁' := h₁
    unfold RngP at h₁'
    split at h₁'
    · rename_i x y hx hy
      cases hx
      obtain ⟨t, rfl⟩ := abs_int hy
      exact call_range_1 (fin s₁ H₁ 0 y _ _ _ _ S₁ k₁ h₁ ⟨_, rfl⟩)
    · exact h₁'.elim
  · obtain ⟨e0, r0, rfl, h0, hr⟩ := compEs_cons hargs
    obtain ⟨e1, r1, rfl, h1, hr⟩ := compEs_cons hr
    have := compEs_nil hr; subst this
    rw [starEach_of h0, starEach_of h1]
    refine PySem.callWith_type rfl (Calls.evalArgs_plain (Calls.spliced_cons (wpAny_mono (ih e0 List.mem_cons_self a fm H μ s _ W h0 S h) (fun v s₁ x => ?_) fun _ _ e => e)))
    obtain ⟨H₁, S₁, k₁, h₁⟩ := x
    refine Calls.spliced_cons (wpAny_mono (ih e1 (List.mem_cons_of_mem _ List.mem_cons_self) b fm H₁ μ s₁ _ W h1 (S.step S₁ k₁) h₁) (fun v2 s₂ x => Calls.spliced_nil ?_) fun _ _ e => e)
    obtain ⟨H₂, S₂, k₂, h₂⟩ := x
    have h₂' := h₂
    unfold RngP at h₂'
    split at h₂'
    · rename_i x y hx hy
      obtain ⟨t, rfl⟩ := abs_int hx
      obtain ⟨u, rfl⟩ := abs_int hy
      exact call_range_2 (fin s₂ H₂ x y _ _ _ _ S₂ (k₁.trans k₂) h₂ ⟨_, rfl⟩)
    · exact h₂'.elim

theorem it_val (C : cx.OK) (hA : AOK A n) {fm : Fm} {H : HP} {μ : List V} {s : Shared} (W : fm.OK cx) (S : SR cx fm H μ s) {e : Expr} (ih : IE cx T A E n e) {m : ME} (hc : compE T fm.env.scope fm.names e = some m)
    {K : List V → (HP → Prop) → HP → Prop} (h : mwpE cx n m μ H fun v H => IterP cx v H K) :
    wpAny (model cx.prog cx.w) A (eval e fm.env) (fun xv s₁ => wpAny (model cx.prog cx.w) A (pyIter xv) (ItPost cx A s H K) E s₁) E s := by
  refine wpAny_mono (ih m fm H μ s _ W hc S h) (fun v s₁ x => ?_) fun _ _ e => e
  obtain ⟨H₁, S₁, k₁, h₁⟩ := x
  refine wpAny_mono (iterP_ok C hA.handled S₁ h₁) (fun v s₂ x => ?_) fun _ _ e => e
  obtain ⟨it, P, ob, s₃, H₃, items, st, a1, a2, a3, a4⟩ := x
  exact ⟨it, P, ob, s₃, H₃, items, st, a1, a2, k₁.trans a3, a4⟩
end
end Mine
end

section
namespace Mine
open PySem PyProof.Rows PySem.SeqAt

section
variable {cx : Cx} {T : Tbl} {A : Around} {E : Value → Shared → Prop} {n : Nat}

theorem compGen_inv {sc scope : Scope} {nm : List (Option Str)} {gens : List Comprehension} {x : Str} {it cond : ME} (h : compGen T sc nm scope gens = some (x, it, cond)) :
    ∃ px iter ifs, gens = [⟨.Name x px, iter, ifs, 0⟩] ∧ ScopeOk scope sc x ∧ compE T sc nm iter = some it ∧
      ((ifs = [] ∧ cond = .cbool true) ∨ ∃ c, ifs = [c] ∧ compE T (relabelS scope sc) (compNames scope nm x) c = some cond) := by
  unfold compGen at h
  split at h
  · rename_i x' px iter ifs a
    split at h
    · rename_i hc
      simp only [Bool.and_eq_true, beq_iff_eq] at hc
      split at h
      · rename_i it' h1 h2
        cases h
        exact ⟨px, iter, ifs, by rw [hc.1], scopeOk_of hc.2, h1, .inl ⟨compEs_nil h2, rfl⟩⟩
      · rename_i it' c h1 h2
        cases h
        obtain ⟨e, r, rfl, h3, h4⟩ := compEs_cons h2
        have := compEs_nil h4; subst this
        exact ⟨px, iter, [e], by rw [hc.1], scopeOk_of hc.2, h1, .inr ⟨e, rfl, h3⟩⟩
      · cases h
    · cases h
  · cases h

/-- one turn: the test, then the element -/
theorem comp_turn {fm : Fm} {μ : List V} {scope : Scope} {x : Str} {cl : List (Str × Addr)} {Ca : Addr} {elt : Expr} {ifs : List Expr} {el cond : ME} (O : ScopeOk scope fm.env.scope x)
    (ie : ∀ E, IE cx T A E n elt) (ic : ∀ c ∈ ifs, ∀ E, IT cx T A E n c)
    (he : compE T (relabelS scope fm.env.scope) (compNames scope fm.names x) elt = some el) (hi : (ifs = [] ∧ cond = .cbool true) ∨ ∃ c, ifs = [c] ∧ compE T (relabelS scope fm.env.scope) (compNames scope fm.names x) c = some cond)
    (W : (compFm fm scope cl Ca x).OK cx) (E : Value → Shared → Prop) (s : Shared) (H : HP) (v : V) (K : Option V → HP → Prop) (S : SR cx (compFm fm scope cl Ca x) H (μ ++ [v]) s)
    (h : mwpE cx n cond (μ ++ [v]) H fun c H₂ => TruthP c fun b => (b = true → mwpE cx n el (μ ++ [v]) H₂ fun v H₃ => K (some v) H₃) ∧ (b = false → K none H₂)) :
    wpAny (model cx.prog cx.w) A (forIn ifs true fun c r => if r = true then do let ok ← isTrue c (compEnvC scope cl Ca fm.env) (eval c (compEnvC scope cl Ca fm.env)); pure (ForInStep.yield ok) else pure (ForInStep.yield r))
      (fun ok s' => ∃ H', HS cx H' s' ∧ KE s H s' H' ∧ (ok = true → wpAny (model cx.prog cx.w) A (eval elt (compEnvC scope cl Ca fm.env)) (EP cx s' H' fun v H => K (some v) H) E s') ∧ (ok = false → K none H')) E s := by
  rcases hi with ⟨rfl, rfl⟩ | ⟨c, rfl, hc⟩
  · refine wpAny_tests_nil ⟨H, S.toHS, Kept.refl _ s H, fun _ => ?_, fun e => by cases e⟩
    rw [mwpE] at h
    exact ie E el (compFm fm scope cl Ca x) H (μ ++ [v]) s _ W he S (h.1 rfl)
  · refine wpAny_tests_one (wpAny_mono (ic c List.mem_cons_self E cond (compFm fm scope cl Ca x) H (μ ++ [v]) s (fun b H₂ => (b = true → mwpE cx n el (μ ++ [v]) H₂ fun v H₃ => K (some v) H₃) ∧ (b = false → K none H₂)) W hc S h) (fun b s₁ x => ?_) fun _ _ e => e)
    obtain ⟨H₁, S₁, k₁, h₁⟩ := x
    exact ⟨H₁, S₁, k₁, fun hb => ie E el (compFm fm scope cl Ca x) H₁ (μ ++ [v]) s₁ _ W he (S.step S₁ k₁) (h₁.1 hb), h₁.2⟩

/-- a comprehension, whatever is done with what it gives -/
theorem comp_any (C : cx.OK) (TO : T.OK cx) (hA : AOK A n) {elt : Expr} {gens : List Comprehension} {scope : Scope} {pos p0 : Pos} (ie : ∀ E, IE cx T A E n elt)
    (ig : ∀ g ∈ gens, (∀ E, IE cx T A E n g.iter) ∧ (∀ f args kws p, g.iter = .Call f args kws p → ∀ e ∈ args, ∀ E, IE cx T A E n e) ∧ ∀ c ∈ g.ifs, ∀ E, IT cx T A E n c)
    {me : ME} {fm : Fm} {H : HP} {μ : List V} {s : Shared} {Q : V → HP → Prop} (W : fm.OK cx) (hc : compE T fm.env.scope fm.names (.ListComp elt gens scope pos) = some me)
    (S : SR cx fm H μ s) (h : mwpE cx n me μ H Q) {use : Option (Value → Sem Unit)} {Q' : Value → Shared → Prop}
    (huse : ∀ (D Ca : Addr) (s' : Shared) (H' : HP), HS cx H' s' → KE s H s' H' → Q (.ref D) H' → H' Ca = none → cx.base.get? Ca = none → (∀ o, s.heap.get? Ca = some o → H Ca = none → False) → (∃ m, s'.heap.Ns Ca m) → compPost (model cx.prog cx.w) A E use Q' (.ref D) Ca (.ok .next) s') :
    wpAny (model cx.prog cx.w) A (comprehension (.ListComp elt gens scope pos) scope fm.env p0 (newList []) (firstAsync gens) (firstIter gens fm.env) use) Q' E s := by
  rw [compE_ListComp] at hc
  split at hc
  · rename_i x it cond hg
    obtain ⟨px, iter, ifs, rfl, O, hit, hifs⟩ := compGen_inv hg
    obtain ⟨i1, i2, i3⟩ := ig _ List.mem_cons_self
    obtain ⟨cl, hcl, h1, h2⟩ := closureFor_ok W O
    split at hc
    · rename_i el hel
      -- the loop, once the iterator stands
      have loop : ∀ (K : List V → (HP → Prop) → HP → Prop), (∀ items st H₁, K items st H₁ → CompP cx items st H₁ (fun x H₁ K => mwpE cx n cond (μ ++ [x]) H₁ fun c H₂ => TruthP c fun b => (b = true → mwpE cx n el (μ ++ [x]) H₂ fun v H₃ => K (some v) H₃) ∧ (b = false → K none H₂)) Q) →
          wpAny (model cx.prog cx.w) A (eval iter fm.env) (fun xv s₁ => wpAny (model cx.prog cx.w) A (pyIter xv) (ItPost cx A s H K) E s₁) E s →
          wpAny (model cx.prog cx.w) A (comprehension (.ListComp elt [⟨.Name x px, iter, ifs, 0⟩] scope pos) scope fm.env p0 (newList []) false (eval iter fm.env) use) Q' E s := by
        intro K hK hw
        refine wpAny_comprehension_free rfl (folded_of hit fm.env) hcl O.kind O.locs (wpAny_mono hw (fun xv s₁ hx => wpAny_mono hx (fun itv s₂ hy => ?_) fun _ _ e => e) fun _ _ e => e)
        obtain ⟨ita, P, ob, s₃, H₁, items, st, rfl, S₁, k₁, rfl, hf, I, hP, hk⟩ := hy
        refine comp_block (RR := compPost (model cx.prog cx.w) A E use Q') C W (S.step S₁ k₁) O h1 h2 I hf hP _ (fun Ca E s H v K cok F ht => comp_turn O ie i3 hel hifs cok E s H v K F ht) (hK _ _ _ hk) ?_
        intro D Ca s' H' S' k' hQ hCa hCf hns
        have hb : cx.base.get? Ca = none := S₁.base_none hCf
        exact huse D Ca s' H' S' (k₁.trans k') hQ hCa hb (fun o e e2 => by rw [k₁.keep Ca o e e2 id] at hCf; cases hCf) hns
      cases it with
      | rng a b =>
        cases hc
        rw [mwpE] at h
        obtain ⟨np, args, p, rfl, hgl, hargs⟩ := rng_inv hit
        exact loop (fun items st H₁ => CompP cx items st H₁ (fun x H₁ K => mwpE cx n cond (μ ++ [x]) H₁ fun c H₂ => TruthP c fun b => (b = true → mwpE cx n el (μ ++ [x]) H₂ fun v H₃ => K (some v) H₃) ∧ (b = false → K none H₂)) Q)
          (fun _ _ _ h => h) (it_rng C TO hA W S (fun e he => i2 _ _ _ _ rfl e he E) hgl hargs h)
      | _ =>
        cases hc
        rw [mwpE] at h
        exact loop (fun items st H₁ => CompP cx items st H₁ (fun x H₁ K => mwpE cx n cond (μ ++ [x]) H₁ fun c H₂ => TruthP c fun b => (b = true → mwpE cx n el (μ ++ [x]) H₂ fun v H₃ => K (some v) H₃) ∧ (b = false → K none H₂)) Q)
          (fun _ _ _ h => h) (it_val C hA W S (i1 E) hit h)
    · cases hc
  · cases hc

/-- a value that a block's names are let go behind -/
theorem post_same {H H' : HP} {s s' : Shared} {Ca : Addr} {h' : Heap} (S' : HS cx H' s') (k : KE s H s' H') (hCa : H' Ca = none) (hb : cx.base.get? Ca = none) (hf : ∀ o, s.heap.get? Ca = some o → H Ca = none → False)
    (sb : Heap.SameBut Ca s'.heap h') : HS cx H' { s' with heap := h' } ∧ KE s H { s' with heap := h' } H' :=
  ⟨⟨fun a o e => (S'.hr a o e).of_eq (sb.2 a (fun q => by subst q; rw [hCa] at e; cases e)), fun b o e => (sb.2 b (fun q => by subst q; rw [hb] at e; cases e)).trans (S'.ext b o e), S'.low⟩,
    ⟨fun b o e hn q => (sb.2 b (fun q => by subst q; exact hf o e hn)).trans (k.keep b o e hn q), k.dom, k.os, k.gens⟩⟩

theorem i_ListComp (C : cx.OK) (TO : T.OK cx) (hA : AOK A n) {elt : Expr} {gens : List Comprehension} {scope : Scope} {pos : Pos} (ie : ∀ E, IE cx T A E n elt)
    (ig : ∀ g ∈ gens, (∀ E, IE cx T A E n g.iter) ∧ (∀ f args kws p, g.iter = .Call f args kws p → ∀ e ∈ args, ∀ E, IE cx T A E n e) ∧ ∀ c ∈ g.ifs, ∀ E, IT cx T A E n c) : IE cx T A E n (.ListComp elt gens scope pos) := by
  intro me fm H μ s Q W hc S h
  rw [eval_ListComp]
  refine comp_any C TO hA ie ig W hc S h ?_
  intro D Ca s' H' S' k hQ hCa hb hf hns
  obtain ⟨m, hm⟩ := hns
  exact ⟨m, hm, fun h' sb => (let ⟨a, b⟩ := post_same S' k hCa hb hf sb; ⟨H', a, b, hQ⟩)⟩

theorem t_value {e : Expr} (ih : IE cx T A E n e) (he : ∀ env whole, isTrue e env whole = (do let v ← whole; standAt e.pos; holding [v] (truthy v))) : IT cx T A E n e := by
  intro me fm H μ s Q W hc S h
  exact wpAny_isTrue_value (wpAny_mono (ih me fm H μ s _ W hc S h) (fun _ _ x => truth_ok x) fun _ _ e => e) (he _ _)

theorem t_Compare (C : cx.OK) (hA : AOK A n) {l : Expr} {ops : List CmpOp} {cs : List Expr} {pos : Pos} (il : IE cx T A E n l) (ics : ∀ e ∈ cs, IE cx T A E n e) : IT cx T A E n (.Compare l ops cs pos) := by
  intro me fm H μ s Q W hc S h
  rw [compE_Compare] at hc
  split at hc
  · rename_i a b op ha hb
    cases hc
    obtain ⟨r, rest, rfl, hr, hrest⟩ := compEs_cons hb
    have := compEs_nil hrest; subst this
    rw [mwpE] at h
    refine wpAny_isTrue_Compare1 (wpAny_mono (il a fm H μ s _ W ha S h) (fun v s₁ x => ?_) fun _ _ e => e) (marks_of hr _)
    obtain ⟨H₁, S₁, k₁, h₁⟩ := x
    refine wpAny_mono (ics r List.mem_cons_self b fm H₁ μ s₁ _ W hr (S.step S₁ k₁) h₁) (fun w s₂ x => ?_) fun _ _ e => e
    obtain ⟨H₂, S₂, k₂, h₂⟩ := x
    split at h₂
    · rename_i c hcmp
      refine wpAny_mono (cmp_ok (Q := fun v H' => v = .bool c ∧ Q c H') C hA.room S₂ hcmp ⟨rfl, h₂⟩) (fun t s₃ x => ?_) fun _ _ e => e
      obtain ⟨H₃, S₃, k₃, h₃, h₄⟩ := x
      have := abs_bool h₃; subst this
      exact wpAny_truthy_bool ⟨H₃, S₃, k₁.trans (k₂.trans k₃), h₄⟩
    · exact h₂.elim
  · rename_i a b c o1 o2 ha hb
    cases hc
    obtain ⟨m, rest, rfl, hm, hrest⟩ := compEs_cons hb
    obtain ⟨r, rest, rfl, hr, hrest⟩ := compEs_cons hrest
    have := compEs_nil hrest; subst this
    rw [mwpE] at h
    refine testChain2 (marks_of hr _) (wpAny_mono (il a fm H μ s _ W ha S h) (fun v s₁ x => ?_) fun _ _ e => e)
    obtain ⟨H₁, S₁, k₁, h₁⟩ := x
    refine wpAny_mono (ics m List.mem_cons_self b fm H₁ μ s₁ _ W hm (S.step S₁ k₁) h₁) (fun w s₂ x => ?_) fun _ _ e => e
    obtain ⟨H₂, S₂, k₂, h₂⟩ := x
    split at h₂
    · rename_i d hcmp
      refine wpAny_mono (cmp_ok (Q := fun v H' => v = .bool d ∧ H' = H₂) C hA.room S₂ hcmp ⟨rfl, rfl⟩) (fun t s₃ x => ?_) fun _ _ e => e
      obtain ⟨H₃, S₃, k₃, h₃, rfl⟩ := x
      have := abs_bool h₃; subst this
      refine wpAny_truthy_bool ?_
      have k := k₁.trans (k₂.trans k₃)
      cases d with
      | true =>
        simp only [if_true]
        refine wpAny_mono (ics r (List.mem_cons_of_mem _ List.mem_cons_self) c fm H₃ μ s₃ _ W hr (S.step S₃ k) (h₂.1 rfl)) (fun w2 s₄ x => ?_) fun _ _ e => e
        obtain ⟨H₄, S₄, k₄, h₄⟩ := x
        split at h₄
        · rename_i e hcmp2
          refine wpAny_mono (cmp_ok (Q := fun v H' => v = .bool e ∧ Q e H') C hA.room S₄ hcmp2 ⟨rfl, h₄⟩) (fun t s₅ x => ?_) fun _ _ e => e
          obtain ⟨H₅, S₅, k₅, h₅, h₆⟩ := x
          have := abs_bool h₅; subst this
          exact wpAny_truthy_bool ⟨H₅, S₅, k.trans (k₄.trans k₅), h₆⟩
        · exact h₄.elim
      | false =>
        simp only [Bool.false_eq_true, if_false]
        exact ⟨H₃, S₃, k, h₂.2 rfl⟩
    · exact h₂.elim
  · cases hc
theorem t_Not {e : Expr} {pos : Pos} (ih : IT cx T A E n e) : IT cx T A E n (.UnaryOp .Not e pos) := by
  intro me fm H μ s Q W hc S h
  rw [compE_UnaryOp] at hc
  split at hc
  · rename_i a _ ha
    cases hc
    rw [mwpE] at h
    exact wpAny_isTrue_Not (wpAny_mono (ih a fm H μ s (fun b H => Q (!b) H) W ha S h) (fun _ _ x => x) fun _ _ e => e)
  · rename_i e1 _; cases e1
  · cases hc
theorem t_BoolOp {op : BoolOp} {es : List Expr} {pos : Pos} (ih : ∀ e ∈ es, IT cx T A E n e) : IT cx T A E n (.BoolOp op es pos) := by
  intro me fm H μ s Q W hc S h
  rw [compE_BoolOp] at hc
  split at hc
  · rename_i a as hes
    cases hc
    rw [mwpE] at h
    exact wpAny_isTrue_BoolOp (sTs es ih a as op fm H μ s Q W hes S h)
  · cases hc
theorem t_IfExp {c t e : Expr} {pos : Pos} (ic : IT cx T A E n c) (it : IT cx T A E n t) (ie : IT cx T A E n e) : IT cx T A E n (.IfExp c t e pos) := by
  intro me fm H μ s Q W hc S h
  rw [compE_IfExp] at hc
  split at hc
  · rename_i a b d ha hb hd
    cases hc
    rw [mwpE] at h
    refine isTrue_IfExp (wpAny_mono (ic a fm H μ s (fun b' H => (b' = true → mwpE cx n b μ H (fun v H => TruthP v fun b => Q b H)) ∧ (b' = false → mwpE cx n d μ H (fun v H => TruthP v fun b => Q b H))) W ha S h) (fun v s₁ x => ?_) fun _ _ e => e)
    obtain ⟨H₁, S₁, k₁, h₁⟩ := x
    cases v with
    | true => exact bp_from k₁ (it b fm H₁ μ s₁ Q W hb (S.step S₁ k₁) (h₁.1 rfl))
    | false => exact bp_from k₁ (ie d fm H₁ μ s₁ Q W hd (S.step S₁ k₁) (h₁.2 rfl))
  · cases hc

theorem size_mem {e : Expr} {es : List Expr} (h : e ∈ es) : sizeOf e < sizeOf es := List.sizeOf_lt_of_mem h

/-- tests, out of the expressions -/
theorem sT_of (C : cx.OK) (hA : AOK A n) (k : Nat) (ih : ∀ e : Expr, sizeOf e < k → ∀ E, IE cx T A E n e) : ∀ (j : Nat) (e : Expr), sizeOf e < j → sizeOf e < k → ∀ E, IT cx T A E n e := by
  intro j
  induction j with
  | zero => intro e h; exact absurd h (Nat.not_lt_zero _)
  | succ j ihj =>
    intro e hj hk E
    cases e with
    | UnaryOp op x p =>
      have h1 : sizeOf x < sizeOf (Expr.UnaryOp op x p) := by simp; omega
      cases op with
      | Not => exact t_Not (ihj x (by omega) (by omega) E)
      | USub => exact t_value (ih _ hk E) (fun _ _ => rfl)
      | UAdd => exact t_value (ih _ hk E) (fun _ _ => rfl)
      | Invert => exact t_value (ih _ hk E) (fun _ _ => rfl)
    | BoolOp op es p =>
      refine t_BoolOp fun x hx => ?_
      have h1 := size_mem hx
      have h2 : sizeOf es < sizeOf (Expr.BoolOp op es p) := by simp; omega
      exact ihj x (by omega) (by omega) E
    | Compare l ops cs p =>
      have h0 : sizeOf l + sizeOf cs < sizeOf (Expr.Compare l ops cs p) := by simp; omega
      refine t_Compare C hA (ih l (by omega) E) fun x hx => ?_
      have h1 := size_mem hx
      exact ih x (by omega) E
    | IfExp c t e p =>
      have h0 : sizeOf c + sizeOf t + sizeOf e < sizeOf (Expr.IfExp c t e p) := by simp; omega
      exact t_IfExp (ihj c (by omega) (by omega) E) (ihj t (by omega) (by omega) E) (ihj e (by omega) (by omega) E)
    | _ => exact t_value (ih _ hk E) (fun _ _ => rfl)

theorem sE (C : cx.OK) (TO : T.OK cx) (hA : AOK A n) : ∀ (k : Nat) (e : Expr), sizeOf e < k → ∀ E, IE cx T A E n e := by
  intro k
  induction k with
  | zero => intro e h; exact absurd h (Nat.not_lt_zero _)
  | succ k ih =>
    intro e hk E
    have it : ∀ x : Expr, sizeOf x < k → ∀ E, IT cx T A E n x := fun x hx => sT_of C hA k ih (sizeOf x + 1) x (Nat.lt_succ_self _) hx
    cases e with
    | Constant c kk p => exact i_Constant
    | Name x p => exact i_Name
    | BinOp l op r p =>
      have h0 : sizeOf l + sizeOf r < sizeOf (Expr.BinOp l op r p) := by simp; omega
      exact i_BinOp C hA (ih l (by omega) E) (ih r (by omega) E)
    | UnaryOp op x p =>
      have h0 : sizeOf x < sizeOf (Expr.UnaryOp op x p) := by simp; omega
      exact i_UnaryOp (ih x (by omega) E)
    | Compare l ops cs p =>
      have h0 : sizeOf l + sizeOf cs < sizeOf (Expr.Compare l ops cs p) := by simp; omega
      exact i_Compare C hA (ih l (by omega) E) fun x hx => ih x (by have := size_mem hx; omega) E
    | BoolOp op es p =>
      have h2 : sizeOf es < sizeOf (Expr.BoolOp op es p) := by simp; omega
      exact i_BoolOp fun x hx => ih x (by have := size_mem hx; omega) E
    | IfExp c t e p =>
      have h0 : sizeOf c + sizeOf t + sizeOf e < sizeOf (Expr.IfExp c t e p) := by simp; omega
      exact i_IfExp (it c (by omega) E) (ih t (by omega) E) (ih e (by omega) E)
    | Call f args kws p =>
      have h0 : sizeOf f + sizeOf args < sizeOf (Expr.Call f args kws p) := by simp; omega
      have ia : ∀ x ∈ args, IE cx T A E n x := fun x hx => ih x (by have := size_mem hx; omega) E
      cases kws with
      | cons kw kws =>
        intro me fm H μ s Q W hc S h
        rw [compE_Call] at hc
        split at hc
        · rename_i e; cases e
        · rename_i e; cases e
        · cases hc
      | nil =>
        cases f with
        | Name x np => exact i_CallName C TO hA ia
        | Attribute o m ap =>
          have h1 : sizeOf o < sizeOf (Expr.Attribute o m ap) := by simp; omega
          exact i_CallAttr C (ih o (by omega) E) ia
        | _ =>
          intro me fm H μ s Q W hc S h
          exfalso
          rw [compE_Call] at hc
          simp only [headOf] at hc
          split at hc
          · rename_i e _; cases e
          · rename_i hat _ _
            obtain ⟨_, _, e, _⟩ := attr_inv hat
            cases e
          · cases hc
    | Subscript v i p =>
      have h0 : sizeOf v + sizeOf i < sizeOf (Expr.Subscript v i p) := by simp; omega
      refine i_Subscript C (ih v (by omega) E) (ih i (by omega) E) fun lo hi pp e => ?_
      subst e
      have h1 : sizeOf lo + sizeOf hi < sizeOf (Expr.Slice lo hi none pp) := by simp; omega
      refine ⟨fun x hx => ?_, fun x hx => ?_⟩
      · subst hx
        have h2 : sizeOf x < sizeOf (some x) := by simp
        exact ih x (by omega) E
      · subst hx
        have h2 : sizeOf x < sizeOf (some x) := by simp
        exact ih x (by omega) E
    | List es p =>
      have h2 : sizeOf es < sizeOf (Expr.List es p) := by simp; omega
      exact i_List C fun x hx => ih x (by have := size_mem hx; omega) E
    | Tuple es kk p =>
      have h2 : sizeOf es < sizeOf (Expr.Tuple es kk p) := by simp; omega
      exact i_Tuple C fun x hx => ih x (by have := size_mem hx; omega) E
    | ListComp elt gens scope p =>
      have h0 : sizeOf elt + sizeOf gens < sizeOf (Expr.ListComp elt gens scope p) := by simp; omega
      refine i_ListComp C TO hA (ih elt (by omega)) fun g hg => ?_
      have h1 := List.sizeOf_lt_of_mem hg
      obtain ⟨tg, iter, ifs, a⟩ := g
      have h2 : sizeOf iter + sizeOf ifs < sizeOf (Comprehension.mk tg iter ifs a) := by simp; omega
      refine ⟨ih iter (by omega), fun f args kws pp e x hx => ?_, fun c (hc : c ∈ ifs) => it c (by have := size_mem hc; omega)⟩
      have e' : iter = .Call f args kws pp := e
      subst e'
      have h3 : sizeOf args < sizeOf (Expr.Call f args kws pp) := by simp; omega
      exact ih x (by have := size_mem hx; omega)
    | Slice lo hi st p =>
      intro me fm H μ s Q W hc S h
      rw [compE_Slice] at hc
      split at hc
      · cases hc; rw [mwpE] at h; exact h.elim
      · cases hc
    | Attribute o m p =>
      intro me fm H μ s Q W hc S h
      rw [compE_Attribute] at hc
      split at hc
      · cases hc; rw [mwpE] at h; exact h.elim
      · cases hc
    | _ => intro me fm H μ s Q W hc S h; simp [compE] at hc

theorem sound_E (C : cx.OK) (TO : T.OK cx) (hA : AOK A n) (e : Expr) : IE cx T A E n e := sE C TO hA (sizeOf e + 1) e (Nat.lt_succ_self _) E
theorem sound_T (C : cx.OK) (TO : T.OK cx) (hA : AOK A n) (e : Expr) : IT cx T A E n e := sT_of C hA (sizeOf e + 1) (sE C TO hA _) (sizeOf e + 1) e (Nat.lt_succ_self _) (Nat.lt_succ_self _) E
end
end Mine
end

section
namespace Mine
open PySem PyProof.Rows PySem.SeqAt

def isComp : Expr → Bool
  | .ListComp .. => true
  | _ => false

mutual
def compS (T : Tbl) (sc : Scope) (nm : List (Option Str)) : Stmt → Option MS
  | .Assign ts v _ => match ts, compE T sc nm v with
    | [.Name x _], some e => (idx nm x).map fun i => .assign i e
    | [.Subscript o i _], some e => match compE T sc nm o, compE T sc nm i with
      | some a, some b => if isComp v then none else some (.setSub a b e)
      | _, _ => none
    | _, _ => none
  | .Expr v _ => match compE T sc nm v with
    | some e => if isComp v then none else some (.expr e)
    | none => none
  | .If c t e _ => match compE T sc nm c, compSs T sc nm t, compSs T sc nm e with
    | some a, some b, some d => some (.ite a b d)
    | _, _, _ => none
  | .For tg it body orelse _ => match tg, orelse, compE T sc nm it, compSs T sc nm body with
    | .Name x _, [], some m, some b => match idx nm x, m with
      | some i, .rng lo hi => some (.forR i lo hi b)
      | some i, m => some (.for_ i m b)
      | none, _ => none
    | _, _, _, _ => none
  | .While c body orelse _ => match orelse, compE T sc nm c, compSs T sc nm body with
    | [], some a, some b => some (.while_ a b)
    | _, _, _ => none
  | .Return v _ => match v with
    | some e => match compE T sc nm e with
      | some a => some (.ret a)
      | none => none
    | none => some .retN
  | _ => none
def compSs (T : Tbl) (sc : Scope) (nm : List (Option Str)) : List Stmt → Option MSs
  | [] => some .nil
  | s :: r => match compS T sc nm s, compSs T sc nm r with
    | some a, some as => some (.cons a as)
    | _, _ => none
end

section
variable (T : Tbl) (sc : Scope) (nm : List (Option Str))
theorem compS_Assign (ts : List Expr) (v : Expr) (p : Pos) : compS T sc nm (.Assign ts v p) = (match ts, compE T sc nm v with
    | [.Name x _], some e => (idx nm x).map fun i => .assign i e
    | [.Subscript o i _], some e => match compE T sc nm o, compE T sc nm i with
      | some a, some b => if isComp v then none else some (.setSub a b e)
      | _, _ => none
    | _, _ => none) := rfl
theorem compS_Expr (v : Expr) (p : Pos) : compS T sc nm (.Expr v p) = (match compE T sc nm v with
    | some e => if isComp v then none else some (.expr e)
    | none => none) := rfl
theorem compS_If (c : Expr) (t e : List Stmt) (p : Pos) : compS T sc nm (.If c t e p) = (match compE T sc nm c, compSs T sc nm t, compSs T sc nm e with
    | some a, some b, some d => some (.ite a b d)
    | _, _, _ => none) := rfl
theorem compS_For (tg it : Expr) (body orelse : List Stmt) (p : Pos) : compS T sc nm (.For tg it body orelse p) = (match tg, orelse, compE T sc nm it, compSs T sc nm body with
    | .Name x _, [], some m, some b => match idx nm x, m with
      | some i, .rng lo hi => some (.forR i lo hi b)
      | some i, m => some (.for_ i m b)
      | none, _ => none
    | _, _, _, _ => none) := rfl
theorem compS_While (c : Expr) (body orelse : List Stmt) (p : Pos) : compS T sc nm (.While c body orelse p) = (match orelse, compE T sc nm c, compSs T sc nm body with
    | [], some a, some b => some (.while_ a b)
    | _, _, _ => none) := rfl
theorem compS_Return (v : Option Expr) (p : Pos) : compS T sc nm (.Return v p) = (match v with
    | some e => match compE T sc nm e with
      | some a => some (.ret a)
      | none => none
    | none => some .retN) := rfl
theorem compSs_cons (s : Stmt) (r : List Stmt) : compSs T sc nm (s :: r) = (match compS T sc nm s, compSs T sc nm r with
    | some a, some as => some (.cons a as)
    | _, _ => none) := rfl
end

def SP (cx : Cx) (fm : Fm) (s : Shared) (H : HP) (N : List V → HP → Prop) (R : V → HP → Prop) : Flow → Shared → Prop := fun f s' =>
  ∃ H' μ', SR cx fm H' μ' s' ∧ Kept fm.own s H s' H' ∧ (match f with | .next => N μ' H' | .ret v => R (abs v) H' | _ => False)

section
variable {cx : Cx} {T : Tbl} {A : Around} {E : Value → Shared → Prop} {n : Nat}

theorem sp_from {fm : Fm} {s s₁ : Shared} {H H₁ : HP} {N : List V → HP → Prop} {R : V → HP → Prop} {M : Model} {t : Sem Flow} (k : Kept fm.own s H s₁ H₁) (h : wpAny M A t (SP cx fm s₁ H₁ N R) E s₁) : wpAny M A t (SP cx fm s H N R) E s₁ :=
  wpAny_mono h (fun _ _ ⟨H', μ', a, b, c⟩ => ⟨H', μ', a, k.trans b, c⟩) fun _ _ e => e

def IS (cx : Cx) (T : Tbl) (A : Around) (E : Value → Shared → Prop) (n : Nat) (st : Stmt) : Prop :=
  ∀ (ms : MS) (fm : Fm) (H : HP) (μ : List V) (s : Shared) (N : List V → HP → Prop) (R : V → HP → Prop), fm.OK cx → compS T fm.env.scope fm.names st = some ms →
    SR cx fm H μ s → mwpS cx n ms μ H N R → wpAny (model cx.prog cx.w) A (exec st fm.env) (SP cx fm s H N R) E s

theorem swaps_of {v : Expr} (h : isComp v = false) {sc : Scope} {nm : List (Option Str)} {m : ME} (hc : compE T sc nm v = some m) (t : Option Expr) (l : Nat) (env : Env) : swapsWith v t l env = pure false := by
  cases v <;> first | rfl | (simp [isComp] at h; done) | (simp [compE] at hc)

theorem swaps_comp (elt : Expr) (gens : List Comprehension) (scope : Scope) (p : Pos) (x : Str) (px : Pos) (l : Nat) (env : Env) : ∃ b, swapsWith (.ListComp elt gens scope p) (some (.Name x px)) l env = pure b := ⟨_, rfl⟩

theorem i_Assign (C : cx.OK) (TO : T.OK cx) (hA : AOK A n) {ts : List Expr} {v : Expr} {p : Pos} : IS cx T A E n (.Assign ts v p) := by
  intro ms fm H μ s N R W hc S h
  rw [compS_Assign] at hc
  split at hc
  · rename_i x px e he
    obtain ⟨i, hi, rfl⟩ := Option.map_eq_some_iff.mp hc
    rw [mwpS] at h
    -- the plain road
    have plain : swapsWith v (some (.Name x px)) p.line fm.env = pure false → wpAny (model cx.prog cx.w) A (exec (.Assign [.Name x px] v p) fm.env) (SP cx fm s H N R) E s := by
      intro hs
      refine wpAny_Assign_Name (wpAny_mono (sound_E C TO hA v e fm H μ s _ W he S h) (fun y s₁ q => ?_) fun _ _ e => e) hs
      obtain ⟨H₁, S₁, k₁, h₁⟩ := q
      refine store_loc W (S.step S₁ k₁) (idx_some hi) fun s₂ S₂ k₂ => ?_
      exact ⟨H₁, _, S₂, (k₁.any _).trans k₂, h₁⟩
    by_cases hv : isComp v = true
    · cases v <;> simp [isComp] at hv
      rename_i elt gens scope vp
      obtain ⟨b, hb⟩ := swaps_comp elt gens scope vp x px p.line fm.env
      cases b with
      | false => exact plain hb
      | true =>
        rw [exec_Assign_Name_used _ _ _ _ hb]
        refine wpAny_bind (wpAny_standAt (wpAny_bind ?_))
        show wpAny _ A (do let _ ← comprehension (.ListComp elt gens scope vp) scope fm.env _ (newList []) (firstAsync gens) (firstIter gens fm.env) (some (assign (.Name x px) fm.env))) _ _ s
        have ie : ∀ E, IE cx T A E n elt := fun E => sound_E C TO hA elt
        refine wpAny_bind (wpAny_mono (comp_any (Q' := fun _ s' => SP cx fm s H N R .next s') C TO hA ie (fun g _ => ⟨fun E => sound_E C TO hA _, fun _ _ _ _ _ e _ E => sound_E C TO hA e, fun c _ E => sound_T C TO hA c⟩) W he S h ?_) (fun _ s' hq => wpAny_pure (wpAny_pure hq)) fun _ _ e => e)
        intro D Ca s' H' S' k hQ hCa hbase hf hns
        show wpAny _ A (assign (.Name x px) fm.env (.ref D)) _ _ _
        refine wpAny_assign_Name (store_loc W (S.step S' k) (idx_some hi) fun s₂ S₂ k₂ => ?_)
        have hown : ¬ fm.own Ca := fun q => by rw [W.above Ca q] at hbase; exact absurd (S.fr.live Ca q) (by
          rintro ⟨o, e⟩
          cases e2 : H Ca with
          | none => exact hf o e e2
          | some oo => exact S.own Ca oo e2 q)
        obtain ⟨m, hm⟩ := hns
        have hm₂ : s₂.heap.Ns Ca m := Ns.keep hm fun o e => k₂.keep Ca o e hCa hown
        refine ⟨m, hm₂, fun h' sb => ?_⟩
        have S₃ : SR cx fm H' (setL μ i (.ref D)) { s₂ with heap := h' } := S₂.aside hCa hown hbase sb.extBut s₂.toks
        have k₃ := (k.any fm.own).trans k₂
        exact ⟨H', _, S₃, ⟨fun b o e hn hw => sb.extBut b o (fun q => by subst q; exact hf o e hn) (k₃.keep b o e hn hw), k₃.dom, k₃.os, k₃.gens⟩, hQ⟩
    · exact plain (swaps_of (by simpa using hv) he _ _ _)
  · rename_i o i pp e he
    split at hc
    · rename_i a b ha hb
      split at hc
      · cases hc
      · rename_i hnc
        cases hc
        rw [mwpS] at h
        refine wpAny_Assign_Subscript (wpAny_mono (sound_E C TO hA v e fm H μ s _ W he S h) (fun vv s₁ q => ?_) fun _ _ e => e) (swaps_of (by simpa using hnc) he _ _ _)
        obtain ⟨H₁, S₁, k₁, h₁⟩ := q
        refine wpAny_mono (sound_E C TO hA o a fm H₁ μ s₁ _ W ha (S.step S₁ k₁) h₁) (fun ov s₂ q => ?_) fun _ _ e => e
        obtain ⟨H₂, S₂, k₂, h₂⟩ := q
        have k12 := k₁.trans k₂
        refine wpAny_mono (sound_E C TO hA i b fm H₂ μ s₂ _ W hb (S.step S₂ k12) h₂) (fun iv s₃ q => ?_) fun _ _ e => e
        obtain ⟨H₃, S₃, k₃, h₃⟩ := q
        refine wpAny_mono (setSub_ok S₃ h₃) (fun _ s₄ q => ?_) fun _ _ e => e
        obtain ⟨H₄, S₄, k₄, h₄⟩ := q
        have k := k12.trans (k₃.trans k₄)
        exact ⟨H₄, μ, S.step S₄ k, KE.any k _, h₄⟩
    · cases hc
  · cases hc
theorem i_Expr (C : cx.OK) (TO : T.OK cx) (hA : AOK A n) {v : Expr} {p : Pos} : IS cx T A E n (.Expr v p) := by
  intro ms fm H μ s N R W hc S h
  rw [compS_Expr] at hc
  split at hc
  · rename_i e he
    split at hc
    · cases hc
    · rename_i hnc
      cases hc
      rw [mwpS] at h
      refine wpAny_Expr_any (wpAny_mono (sound_E C TO hA v e fm H μ s _ W he S h) (fun vv s₁ q => ?_) fun _ _ e => e) (by unfold interactive; rw [W.kind]; rfl) (swaps_of (by simpa using hnc) he _ _ _)
      obtain ⟨H₁, S₁, k₁, h₁⟩ := q
      exact ⟨H₁, μ, S.step S₁ k₁, k₁.any _, h₁⟩
  · cases hc
theorem i_Return (C : cx.OK) (TO : T.OK cx) (hA : AOK A n) {v : Option Expr} {p : Pos} : IS cx T A E n (.Return v p) := by
  intro ms fm H μ s N R W hc S h
  rw [compS_Return] at hc
  split at hc
  · rename_i e
    split at hc
    · rename_i a ha
      cases hc
      rw [mwpS] at h
      refine wpAny_Return_some (wpAny_mono (sound_E C TO hA e a fm H μ s _ W ha S h) (fun vv s₁ q => ?_) fun _ _ e => e)
      obtain ⟨H₁, S₁, k₁, h₁⟩ := q
      exact ⟨H₁, μ, S.step S₁ k₁, k₁.any _, h₁⟩
    · cases hc
  · cases hc
    rw [mwpS] at h
    exact wpAny_Return_none ⟨H, μ, S, Kept.refl _ _ _, h⟩

/-- statements, one after the other -/
theorem sSs : ∀ (ss : List Stmt), (∀ st ∈ ss, IS cx T A E n st) → ∀ (ms : MSs) (fm : Fm) (H : HP) (μ : List V) (s : Shared) (N : List V → HP → Prop) (R : V → HP → Prop), fm.OK cx → compSs T fm.env.scope fm.names ss = some ms →
    SR cx fm H μ s → mwpSs cx n ms μ H N R → wpAny (model cx.prog cx.w) A (execs ss fm.env) (SP cx fm s H N R) E s
  | [], _, ms, fm, H, μ, s, N, R, W, hc, S, h => by
    rw [compSs] at hc
    cases hc
    exact wpAny_execs_nil ⟨H, μ, S, Kept.refl _ _ _, h⟩
  | st :: r, ih, ms, fm, H, μ, s, N, R, W, hc, S, h => by
    rw [compSs_cons] at hc
    split at hc
    · rename_i a as ha has
      cases hc
      rw [mwpSs] at h
      refine wpAny_execs_cons (wpAny_mono (ih st List.mem_cons_self a fm H μ s _ R W ha S h) (fun f s₁ q => ?_) fun _ _ e => e)
      obtain ⟨H₁, μ₁, S₁, k₁, h₁⟩ := q
      cases f with
      | next => exact sp_from k₁ (sSs r (fun st hs => ih st (List.mem_cons_of_mem _ hs)) as fm H₁ μ₁ s₁ N R W has S₁ h₁)
      | ret v => exact ⟨H₁, μ₁, S₁, k₁, h₁⟩
      | brk => exact h₁.elim
      | cont => exact h₁.elim
    · cases hc

theorem i_If (C : cx.OK) (TO : T.OK cx) (hA : AOK A n) {c : Expr} {t e : List Stmt} {p : Pos} (it : ∀ st ∈ t, IS cx T A E n st) (ie : ∀ st ∈ e, IS cx T A E n st) : IS cx T A E n (.If c t e p) := by
  intro ms fm H μ s N R W hc S h
  rw [compS_If] at hc
  split at hc
  · rename_i a b d ha hb hd
    cases hc
    rw [mwpS] at h
    refine wpAny_If (wpAny_mono (sound_T C TO hA c a fm H μ s (fun b' H => (b' = true → mwpSs cx n b μ H N R) ∧ (b' = false → mwpSs cx n d μ H N R)) W ha S h) (fun v s₁ q => ?_) fun _ _ e => e)
    obtain ⟨H₁, S₁, k₁, h₁⟩ := q
    cases v with
    | true => exact sp_from (k₁.any _) (sSs t it b fm H₁ μ s₁ N R W hb (S.step S₁ k₁) (h₁.1 rfl))
    | false => exact sp_from (k₁.any _) (sSs e ie d fm H₁ μ s₁ N R W hd (S.step S₁ k₁) (h₁.2 rfl))
  · cases hc

theorem i_While (C : cx.OK) (TO : T.OK cx) (hA : AOK A n) {c : Expr} {body orelse : List Stmt} {p : Pos} (ib : ∀ st ∈ body, ∀ E, IS cx T A E n st) : IS cx T A E n (.While c body orelse p) := by
  intro ms fm H μ s N R W hc S h
  rw [compS_While] at hc
  split at hc
  · rename_i a b ha hb
    cases hc
    rw [mwpS] at h
    obtain ⟨I, ⟨k0, hI⟩, hstep⟩ := h
    refine wpAny_While (codeAny_whileLoop (fun k s' => ∃ μ' H', I k μ' H' ∧ SR cx fm H' μ' s' ∧ Kept fm.own s H s' H') ?_ k0 ⟨μ, H, hI, S, Kept.refl _ _ _⟩)
    rintro k s' ⟨μ', H', hI', S', k'⟩
    refine wpAny_mono (sound_T C TO hA c a fm H' μ' s' (fun b' H₁ => (b' = true → mwpSs cx n b μ' H₁ (fun μ' H' => ∃ H₃, LE H₃ H' ∧ ∃ m, m < k ∧ I m μ' H₃) R) ∧ (b' = false → N μ' H₁)) W ha S' (hstep k μ' H' hI')) (fun v s₁ q => ?_) fun _ _ e => e
    obtain ⟨H₁, S₁, k₁, h₁⟩ := q
    have kk := k'.trans (k₁.any fm.own)
    cases v with
    | true =>
      simp only [if_true]
      refine wpAny_mono (sSs body (fun st hs => ib st hs _) b fm H₁ μ' s₁ _ R W hb (S'.step S₁ k₁) (h₁.1 rfl)) (fun f s₂ q => ?_) fun _ _ e => e
      obtain ⟨H₂, μ₂, S₂, k₂, h₂⟩ := q
      cases f with
      | next =>
        obtain ⟨H₃, le, m, hm, hI3⟩ := h₂
        exact ⟨m, hm, μ₂, H₃, hI3, S₂.le le, (kk.trans k₂).le le⟩
      | ret v => exact ⟨H₂, μ₂, S₂, kk.trans k₂, h₂⟩
      | brk => exact h₂.elim
      | cont => exact h₂.elim
    | false =>
      simp only [Bool.false_eq_true, if_false]
      exact wpAny_execs_nil ⟨H₁, μ', S'.step S₁ k₁, kk, h₁.2 rfl⟩
  · cases hc

theorem for_loop (hA : AOK A n) {fm : Fm} {H : HP} {μ : List V} {s : Shared} {N : List V → HP → Prop} {R : V → HP → Prop} (W : fm.OK cx) {x : Str} {px : Pos} {i : Nat} (hi : fm.names[i]? = some (some x)) {body : List Stmt} {b : MSs}
    (ib : ∀ st ∈ body, ∀ E, IS cx T A E n st) (hb : compSs T fm.env.scope fm.names body = some b)
    {s₁ : Shared} {H₁ : HP} (S₁ : SR cx fm H₁ μ s₁) (k₁ : KE s H s₁ H₁) {it : Addr} {P : Nat → Heap → Prop} {ob : Obj} {items : List V} {st : HP → Prop} (I : ∀ E, Iter cx A E it items st P) (hf : s₁.heap.get? it = none) (hP : P 0 (s₁.heap.push ob))
    (hF : ForP items st μ H₁ (fun x μ H K => mwpSs cx n b (setL μ i x) H K R) N) :
    codeAny (model cx.prog cx.w) A (.forLoop (.Name x px) (.ref it) body [] fm.env) (fun r s' => match r with | .ok f => SP cx fm s H N R f s' | .error e => cameBackBy (model cx.prog cx.w) A fm.env E e s') { s₁ with heap := s₁.heap.push ob } := by
  obtain ⟨Inv, hI0, hst, hturn, hend⟩ := hF
  have kg : ∀ b o, s₁.heap.get? b = some o → (s₁.heap.push ob).get? b = some o := fun b o e => Heap.get?_push_of_some _ e
  have hown : ¬ fm.own it := fun q => by obtain ⟨o, e⟩ := S₁.fr.live it q; rw [hf] at e; cases e
  have hbase : cx.base.get? it = none := S₁.toHS.base_none hf
  refine codeAny_forLoop (fun k s' => ∃ done rest μ' H', items = done ++ rest ∧ k = rest.length ∧ Inv done μ' H' ∧ SR cx fm H' μ' s' ∧ Kept fm.own s H s' H' ∧ P done.length s'.heap ∧ H' it = none) ?_ items.length
    ⟨[], items, μ, H₁, rfl, rfl, hI0, S₁.step (S₁.toHS.grow kg _) (KE.grow kg _), KE.any (k₁.trans (KE.grow kg _)) _, hP, S₁.toHS.none_of hf⟩
  rintro k s' ⟨done, rest, μ', H', hitems, rfl, hInv, S', k', hp, hit⟩
  -- an object that lives at s and is not the abstract heap's is not the iterator
  have nit : ∀ b o, s.heap.get? b = some o → H b = none → b ≠ it := fun b o e hn q => by
    subst q; rw [k₁.keep _ o e hn id] at hf; cases hf
  cases rest with
  | nil =>
    rw [List.append_nil] at hitems
    subst hitems
    refine (I _).stop s' H' _ S'.toHS (hst _ _ _ hInv) hp fun h' eb => ?_
    exact wpAny_execs_nil ⟨H', μ', S'.aside hit hown hbase eb s'.toks, ⟨fun b o e hn hw => eb b o (nit b o e hn) (k'.keep b o e hn hw), k'.dom, k'.os, k'.gens⟩, hend μ' H' hInv⟩
  | cons v rest =>
    have hv : items[done.length]? = some v := by rw [hitems]; simp
    refine (I _).next s' H' done.length v _ S'.toHS (hst _ _ _ hInv) hp hv fun h₂ tk xv hxa hp₂ sb₂ => ?_
    have S₂ := S'.aside hit hown hbase sb₂.extBut tk
    have k₂ : Kept fm.own s H { s' with heap := h₂, toks := tk } H' := ⟨fun b o e hn hw => sb₂.extBut b o (nit b o e hn) (k'.keep b o e hn hw), k'.dom, k'.os, k'.gens⟩
    refine wpAny_assign_Name (store_loc W S₂ hi fun s₃ S₃ k₃ => ?_)
    rw [hxa] at S₃
    obtain ⟨oi, hoi⟩ := (I fun _ _ => False).live _ _ hp₂
    have hp₃ : P (done.length + 1) s₃.heap := (I fun _ _ => False).frame _ _ _ hp₂ fun o e => k₃.keep it o e hit hown
    refine wpAny_mono (sSs body (fun st hs => ib st hs _) b fm H' (setL μ' i v) s₃ _ R W hb S₃ (hturn done v rest μ' H' hitems hInv)) (fun f s₄ q => ?_) fun _ _ e => e
    obtain ⟨H₄, μ₄, S₄, k₄, h₄⟩ := q
    have kk := (k₂.trans k₃).trans k₄
    cases f with
    | next =>
      obtain ⟨H₅, le, hI5⟩ := h₄
      have hoi₃ := k₃.keep it oi hoi hit hown
      refine ⟨rest.length, Nat.lt_succ_self _, done ++ [v], rest, μ₄, H₅, by rw [hitems]; simp, rfl, hI5, S₄.le le, kk.le le, ?_, ?_⟩
      · rw [List.length_append]
        exact (I fun _ _ => False).frame _ _ _ hp₃ fun o e => k₄.keep it o e hit hown
      · cases e : H₅ it with
        | none => rfl
        | some o =>
          have := k₄.dom it oi hoi₃ hit hown
          rw [le it o e] at this; cases this
    | ret v => exact ⟨H₄, μ₄, S₄, kk, h₄⟩
    | brk => exact h₄.elim
    | cont => exact h₄.elim

theorem i_For (C : cx.OK) (TO : T.OK cx) (hA : AOK A n) {tg it : Expr} {body orelse : List Stmt} {p : Pos} (ib : ∀ st ∈ body, ∀ E, IS cx T A E n st) : IS cx T A E n (.For tg it body orelse p) := by
  intro ms fm H μ s N R W hc S h
  rw [compS_For] at hc
  split at hc
  · rename_i x px m b hm hb
    split at hc
    · rename_i i lo hi hix
      cases hc
      rw [mwpS] at h
      obtain ⟨np, args, pp, rfl, hgl, hargs⟩ := rng_inv hm
      refine wpAny_For (wpAny_mono (it_rng (K := fun items st H₁ => ForP items st μ H₁ (fun x μ H K => mwpSs cx n b (setL μ i x) H K R) N) C TO hA W S (fun e _ => sound_E C TO hA e) hgl hargs h) (fun xv s₁ hx => wpAny_mono hx (fun itv s₂ hy => ?_) fun _ _ e => e) fun _ _ e => e) (folded_of hm fm.env)
      obtain ⟨ita, P, ob, s₃, H₁, items, st, rfl, S₁, k₁, rfl, hf, I, hP, hk⟩ := hy
      exact for_loop hA W (idx_some hix) ib hb (S.step S₁ k₁) k₁ I hf hP hk
    · rename_i i hix hnot
      cases hc
      rw [mwpS] at h
      refine wpAny_For (wpAny_mono (it_val (K := fun items st H₁ => ForP items st μ H₁ (fun x μ H K => mwpSs cx n b (setL μ i x) H K R) N) C hA W S (sound_E C TO hA it) hm h) (fun xv s₁ hx => wpAny_mono hx (fun itv s₂ hy => ?_) fun _ _ e => e) fun _ _ e => e) (folded_of hm fm.env)
      obtain ⟨ita, P, ob, s₃, H₁, items, st, rfl, S₁, k₁, rfl, hf, I, hP, hk⟩ := hy
      exact for_loop hA W (idx_some hix) ib hb (S.step S₁ k₁) k₁ I hf hP hk
    · cases hc
  · cases hc

theorem sS (C : cx.OK) (TO : T.OK cx) (hA : AOK A n) : ∀ (k : Nat) (st : Stmt), sizeOf st < k → ∀ E, IS cx T A E n st := by
  intro k
  induction k with
  | zero => intro e h; exact absurd h (Nat.not_lt_zero _)
  | succ k ih =>
    intro st hk E
    cases st with
    | Assign ts v p => exact i_Assign C TO hA
    | Expr v p => exact i_Expr C TO hA
    | Return v p => exact i_Return C TO hA
    | If c t e p =>
      have h0 : sizeOf t + sizeOf e < sizeOf (Stmt.If c t e p) := by simp; omega
      exact i_If C TO hA (fun x hx => ih x (by have := List.sizeOf_lt_of_mem hx; omega) E) (fun x hx => ih x (by have := List.sizeOf_lt_of_mem hx; omega) E)
    | While c b o p =>
      have h0 : sizeOf b < sizeOf (Stmt.While c b o p) := by simp; omega
      exact i_While C TO hA (fun x hx => ih x (by have := List.sizeOf_lt_of_mem hx; omega))
    | For tg it b o p =>
      have h0 : sizeOf b < sizeOf (Stmt.For tg it b o p) := by simp; omega
      exact i_For C TO hA (fun x hx => ih x (by have := List.sizeOf_lt_of_mem hx; omega))
    | _ => intro ms fm H μ s N R W hc S h; simp [compS] at hc
theorem sound_S (C : cx.OK) (TO : T.OK cx) (hA : AOK A n) (st : Stmt) : IS cx T A E n st := sS C TO hA (sizeOf st + 1) st (Nat.lt_succ_self _) E
end
end Mine
end

section
namespace Mine
open PySem PyProof.Rows PySem.SeqAt

section
variable {cx : Cx} {T : Tbl} {A : Around} {E : Value → Shared → Prop} {n : Nat}

theorem cells_mem {x : Str} : ∀ (names : List (Str × NameKind)) (k : Nat) (acc : List (Str × Addr)), ((x, NameKind.cell) ∈ names ∨ ∃ c, (x, c) ∈ acc) → ∃ c, (x, c) ∈ cellsFrom k names acc
  | [], _, _, h => h.elim (fun q => nomatch q) id
  | (y, kd) :: r, k, acc, h => by
    unfold cellsFrom
    split
    · rename_i hk
      refine cells_mem r _ _ ?_
      rcases h with h | ⟨c, h⟩
      · rcases List.mem_cons.mp h with q | h
        · cases q; exact .inr ⟨k, List.mem_cons_self⟩
        · exact .inl h
      · exact .inr ⟨c, List.mem_cons_of_mem _ h⟩
    · rename_i hk
      refine cells_mem r _ _ ?_
      rcases h with h | h
      · rcases List.mem_cons.mp h with q | h
        · cases q; simp at hk
        · exact .inl h
      · exact .inr h

theorem pairwise_inj {l : List (Str × Addr)} (h : l.Pairwise fun x y => x.2 ≠ y.2) {x y : Str} {c : Addr} (hx : (x, c) ∈ l) (hy : (y, c) ∈ l) : x = y := by
  induction l with
  | nil => cases hx
  | cons p l ih =>
    rw [List.pairwise_cons] at h
    rcases List.mem_cons.mp hx with e | hx'
    · rcases List.mem_cons.mp hy with e' | hy'
      · rw [← e] at e'; cases e'; rfl
      · exact absurd (show p.2 = c from by rw [← e]) (h.1 (y, c) hy')
    · rcases List.mem_cons.mp hy with e' | hy'
      · exact absurd (show p.2 = c from by rw [← e']) (h.1 (x, c) hx')
      · exact ih h.2 hx' hy'

theorem bindL_other (kd : Str → Option NameKind) {x : Str} : ∀ (b : List (Str × Value)) (m : Str → Option Value), (∀ p ∈ b, p.1 ≠ x) → bindL kd b m x = m x
  | [], _, _ => rfl
  | (y, v) :: r, m, h => by
    unfold bindL
    rw [bindL_other kd r _ (fun p hp => h p (List.mem_cons_of_mem _ hp))]
    have hy : x ≠ y := fun e => h (y, v) List.mem_cons_self e.symm
    split
    · simp [hy]
    · rfl
theorem bindC_other (kd : Str → Option NameKind) {x : Str} : ∀ (b : List (Str × Value)) (m : Str → Option Value), (∀ p ∈ b, p.1 ≠ x) → bindC kd b m x = m x
  | [], _, _ => rfl
  | (y, v) :: r, m, h => by
    unfold bindC
    rw [bindC_other kd r _ (fun p hp => h p (List.mem_cons_of_mem _ hp))]
    have hy : x ≠ y := fun e => h (y, v) List.mem_cons_self e.symm
    split
    · rfl
    · simp [hy]

/-- a parameter is bound to what is handed in -/
theorem bind_at (kd : Str → Option NameKind) : ∀ (ps : List Str) (vs : List Value) (m : Str → Option Value) (i : Nat) (x : Str) (v : Value), ps.Nodup → ps[i]? = some x → vs[i]? = some v →
    (kd x = some .local → bindL kd (ps.zip vs) m x = some v) ∧ (kd x ≠ some .local → bindC kd (ps.zip vs) m x = some v)
  | [], _, _, i, x, v, _, h, _ => by simp at h
  | _ :: _, [], _, i, x, v, _, _, h => by simp at h
  | p :: ps, w :: vs, m, 0, x, v, hn, h1, h2 => by
    simp at h1 h2
    subst h1; subst h2
    rw [List.nodup_cons] at hn
    have ho : ∀ q ∈ ps.zip vs, q.1 ≠ p := fun q hq e => hn.1 (e ▸ (List.of_mem_zip hq).1)
    refine ⟨fun hk => ?_, fun hk => ?_⟩
    · show bindL kd ((p, w) :: ps.zip vs) m p = some w
      unfold bindL; rw [if_pos hk, bindL_other kd _ _ ho]; simp
    · show bindC kd ((p, w) :: ps.zip vs) m p = some w
      unfold bindC; rw [if_neg hk, bindC_other kd _ _ ho]; simp
  | p :: ps, w :: vs, m, i + 1, x, v, hn, h1, h2 => by
    rw [List.nodup_cons] at hn
    rw [List.getElem?_cons_succ] at h1 h2
    have hL := fun m => (bind_at kd ps vs m i x v hn.2 h1 h2).1
    have hC := fun m => (bind_at kd ps vs m i x v hn.2 h1 h2).2
    refine ⟨fun hk => ?_, fun hk => ?_⟩
    · show bindL kd ((p, w) :: ps.zip vs) m x = some v
      unfold bindL; exact hL _ hk
    · show bindC kd ((p, w) :: ps.zip vs) m x = some v
      unfold bindC; exact hC _ hk

theorem getL_args {args : List V} : ∀ {i : Nat} {a : V} (r : List V), args[i]? = some a → getL (args ++ r) i = a := by
  induction args with
  | nil => intro i a r h; simp at h
  | cons x l ih =>
    intro i a r h
    cases i with
    | zero => simpa [getL] using h
    | succ i => exact ih r (by simpa using h)
theorem getL_unb {args : List V} (k : Nat) : ∀ {i : Nat}, args.length ≤ i → getL (args ++ List.replicate k .unb) i = .unb := by
  induction args with
  | nil =>
    intro i _
    simp only [List.nil_append]
    induction k generalizing i with
    | zero => cases i <;> rfl
    | succ k ih => cases i with
      | zero => rfl
      | succ i => exact ih (Nat.zero_le _)
  | cons x l ih =>
    intro i h
    cases i with
    | zero => simp at h
    | succ i => exact ih (by simpa using h)

/-- what is known of a def -/
structure Def (cx : Cx) (f : Addr) (ps : List Str) (body : List Stmt) (scope : Scope) : Prop where
  fd : ∃ o fd, cx.base.get? f = some o ∧ o.data = .func fd ∧ fd.body = .stmts body ∧ fd.scope = scope ∧ fd.globals = mainGlobals ∧ fd.builtins = builtinsNs ∧ fd.closure = [] ∧ cx.base.CodeRec fd.code fd.qualname ∧
    ∀ vs : List Value, vs.length = ps.length → bindArgs fd ⟨vs, []⟩ = pure (ps.zip vs)
  kind : scope.kind = .function
  co : scope.isCoroutine = false
  gen : scope.isGenerator = false

def namesFit (scope : Scope) (nm : List Str) : Bool := nm.all fun x => scope.names.lookup x == some .local || scope.names.lookup x == some .cell

theorem call_intro (C : cx.OK) (TO : T.OK cx) {f : Addr} {ps rest : List Str} {body : List Stmt} {scope : Scope} (D : Def cx f ps body scope) {ms : MSs} (hnd : (ps ++ rest).Nodup) (hfit : namesFit scope (ps ++ rest) = true)
    (hcomp : compSs T scope ((ps ++ rest).map some) body = some ms) {args : List V} (hlen : args.length = ps.length) {H : HP} {Q : V → HP → Prop}
    (h : mwpSs cx n ms (args ++ List.replicate rest.length .unb) H (fun _ H' => ∃ H₂, LE H₂ H' ∧ Q .none H₂) (fun v H' => ∃ H₂, LE H₂ H' ∧ Q v H₂)) : CallP cx (n + 1) f args H Q := by
  intro A s vs hA S hvs
  obtain ⟨o, fd, ho, hd, hb, hsc, hgl, hbi, hcl, hcode, hbind⟩ := D.fd
  have hlv : vs.length = ps.length := by rw [← hlen, ← hvs]; simp
  have hd1 := hA.depth
  have hu1 := hA.units
  refine codeAny_call_function (by unfold recursionLimit; omega) (S.ext _ _ ho) hd (by rw [hsc]; exact D.co) (by rw [hsc]; exact D.gen) hb (hcode.keeps S.ext) ?_
  rw [hbind vs hlv]
  refine wpAny_pure ?_
  rw [hcl, hsc]
  have hkinds : ∀ x ∈ ps ++ rest, scope.names.lookup x = some .local ∨ scope.names.lookup x = some .cell := fun x hx => by
    have := List.all_eq_true.mp hfit x hx
    simpa using this
  have hcells : ∀ x, scope.names.lookup x = some .cell → ∃ c, (cellsFrom (s.heap.objs.size + 1) scope.names []).lookup x = some c := fun x hx => by
    obtain ⟨c, hc⟩ := cells_mem scope.names (s.heap.objs.size + 1) [] (.inl (lookup_mem hx))
    exact lookup_of_mem hc
  refine wpAny_newFunctionEnv_cells D.kind (fun p hp => ?_) fun env he s' B => ?_
  · have hx := hkinds p.1 (List.mem_append_left _ (List.of_mem_zip hp).1)
    rcases hx with hx | hx
    · exact .inl hx
    · obtain ⟨c, hc⟩ := hcells p.1 hx
      exact .inr ⟨hx, by rw [hc]; rfl⟩
  · obtain ⟨hh, tk, hs'⟩ := B.toInCall.same
    have keep := B.toInCall.keep
    refine ⟨(C.nolimit.keeps S.ext).keeps keep, codeAny_func ?_⟩
    subst he
    generalize henv : newEnv scope s.heap.objs.size fd.globals (cellsFrom (s.heap.objs.size + 1) scope.names []) (fd.qualname ++ ".<locals>.") (some f) fd.code none fd.builtins = env at B ⊢
    have e1 : env.scope = scope := by rw [← henv]; rfl
    have e2 : env.locals = s.heap.objs.size := by rw [← henv]; rfl
    have e3 : env.cells = cellsFrom (s.heap.objs.size + 1) scope.names [] := by rw [← henv]; rfl
    have e4 : env.globals = mainGlobals := by rw [← henv]; exact hgl
    have e5 : env.builtins = builtinsNs := by rw [← henv]; exact hbi
    have hnew : ∀ a : Nat, s.heap.objs.size ≤ a → s.heap.get? a = none := fun a ha => by
      cases e : s.heap.get? a with
      | none => rfl
      | some o => exact absurd (Heap.lt_size e) (Nat.not_lt.mpr ha)
    have hownnew : ∀ a, (⟨env, (ps ++ rest).map some⟩ : Fm).own a → s.heap.get? a = none := fun a q => by
      rcases q with q | ⟨x, q⟩
      · rw [q]; show s.heap.get? env.locals = none; rw [e2]; exact hnew _ (Nat.le_refl _)
      · have := B.above x a (lookup_mem q)
        rw [e2] at this
        exact hnew a (Nat.le_of_lt this)
    have W : Fm.OK cx ⟨env, (ps ++ rest).map some⟩ := by
      refine ⟨by rw [e1]; exact D.kind, e4, e5, fun x c hm e => ?_, fun x y c h1 h2 => ?_, fun i j x h1 h2 => ?_, fun a q => S.base_none (hownnew a q), fun x hx => ?_⟩
      · exact absurd (B.above x c (lookup_mem hm)) (by rw [e]; exact Nat.lt_irrefl _)
      · exact pairwise_inj B.apart (lookup_mem h1) (lookup_mem h2)
      · rw [List.getElem?_map, Option.map_eq_some_iff] at h1 h2
        obtain ⟨y, a1, a2⟩ := h1
        obtain ⟨z, b1, b2⟩ := h2
        cases a2; cases b2
        exact (List.getElem?_inj (List.getElem?_eq_some_iff.mp a1).1 hnd).mp (a1.trans b1.symm)
      · show ∃ c, env.cells.lookup x = some c
        rw [e3]; refine hcells x ?_
        have hx' : env.scope.names.lookup x = some .cell := hx
        rw [e1] at hx'; exact hx'
    have S' : SR cx ⟨env, (ps ++ rest).map some⟩ H (args ++ List.replicate rest.length .unb) s' := by
      have hs0 : HS cx H s' := ⟨fun a o e => (S.hr a o e).keep (keep a), fun b o e => keep b o (S.ext b o e), S.low⟩
      refine ⟨hs0, ⟨by simp [hlen], fun a q => ?_, ⟨_, B.toInCall.ns⟩, fun i x hi => ?_⟩, fun a o e q => ?_⟩
      · rcases q with q | ⟨x, q⟩
        · obtain ⟨o, _, _, e, _⟩ := B.toInCall.ns
          exact ⟨o, by rw [q]; exact e⟩
        · obtain ⟨o, e, _⟩ := B.cell x a q
          exact ⟨o, e⟩
      · rw [List.getElem?_map, Option.map_eq_some_iff] at hi
        obtain ⟨y, a1, a2⟩ := hi
        cases a2
        have hx := hkinds x (List.mem_of_getElem? a1)
        have hk : env.kindOf x = scope.names.lookup x := by show env.scope.names.lookup x = _; rw [e1]
        by_cases hip : i < ps.length
        · rw [List.getElem?_append_left hip] at a1
          have hiv : i < vs.length := by rw [hlv]; exact hip
          have hv : vs[i]? = some vs[i] := List.getElem?_eq_getElem hiv
          have hg : getL (args ++ List.replicate rest.length .unb) i = abs vs[i] := getL_args _ (by rw [← hvs, List.getElem?_map, hv]; rfl)
          obtain ⟨b1, b2⟩ := bind_at env.kindOf ps vs (fun _ => none) i x vs[i] (List.nodup_append.mp hnd).1 a1 hv
          rcases hx with hx | hx
          · exact ⟨some vs[i], .inl ⟨by rw [hk]; exact hx, _, B.toInCall.ns, b1 (by rw [hk]; exact hx)⟩, .inr ⟨_, rfl, hg.symm⟩⟩
          · obtain ⟨c, hc⟩ := hcells x hx
            have hc' : env.cells.lookup x = some c := by rw [e3]; exact hc
            exact ⟨some vs[i], .inr ⟨by rw [hk]; exact hx, c, hc', b2 (by rw [hk, hx]; simp) ▸ B.cell x c hc'⟩, .inr ⟨_, rfl, hg.symm⟩⟩
        · have hg : getL (args ++ List.replicate rest.length .unb) i = .unb := getL_unb _ (by rw [hlen]; exact Nat.le_of_not_lt hip)
          rcases hx with hx | hx
          · exact ⟨_, .inl ⟨by rw [hk]; exact hx, _, B.toInCall.ns, rfl⟩, .inl hg⟩
          · obtain ⟨c, hc⟩ := hcells x hx
            have hc' : env.cells.lookup x = some c := by rw [e3]; exact hc
            exact ⟨_, .inr ⟨by rw [hk]; exact hx, c, hc', B.cell x c hc'⟩, .inl hg⟩
      · obtain ⟨ob, e'⟩ := (S.hr a o e).get
        rw [hownnew a q] at e'; cases e'
    have hA' : AOK (A.deeper env) n := by
      obtain ⟨l, hl⟩ := hA.frames
      refine ⟨⟨hA.handled, by show A.depth + 1 + n < 850; omega, by show A.units + 3 + 16 * n < 9000; omega, ⟨env :: l, by show A.frames.map (env :: ·) = _; rw [hl]; rfl⟩⟩, env, l, by show A.frames.map (env :: ·) = _; rw [hl]; rfl, by rw [e1]; exact D.gen, by rw [e1]; exact D.co, e5, e4⟩
    refine wpAny_mono (sSs body (fun st _ => sound_S C TO hA' st) ms ⟨env, (ps ++ rest).map some⟩ H _ s' _ _ W (by show compSs T env.scope _ body = _; rw [e1]; exact hcomp) S' h) (fun fl s₁ q => ?_) fun _ _ e => e
    obtain ⟨H₁, μ₁, S₁, k₁, h₁⟩ := q
    have kk : ∀ H₂, LE H₂ H₁ → KE s H s₁ H₂ := fun H₂ le => by
      have k2 := k₁.le le
      have hno : ∀ b o, s.heap.get? b = some o → ¬ (⟨env, (ps ++ rest).map some⟩ : Fm).own b := fun b o e q => by rw [hownnew b q] at e; cases e
      refine ⟨fun b o e hn _ => k2.keep b o (keep b o e) hn (hno b o e), fun a o e hn _ => k2.dom a o (keep a o e) hn (hno a o e), ?_, ?_⟩
      · rw [k2.os, hs']
      · rw [k2.gens, hs']
    cases fl with
    | next =>
      obtain ⟨H₂, le, hq⟩ := h₁
      exact ⟨.none, H₂, rfl, S₁.toHS.le le, kk H₂ le, hq⟩
    | ret v =>
      obtain ⟨H₂, le, hq⟩ := h₁
      exact ⟨v, H₂, rfl, S₁.toHS.le le, kk H₂ le, hq⟩
    | brk => exact h₁.elim
    | cont => exact h₁.elim
end
end Mine
end

section
namespace Mine
open PySem PyProof.Rows

section
variable {cx : Cx} {n : Nat}

theorem CallP.mono {f : Addr} {args : List V} {H : HP} {Q Q' : V → HP → Prop} (h : CallP cx n f args H Q) (q : ∀ v H, Q v H → Q' v H) : CallP cx n f args H Q' :=
  fun A s vs hA S e => codeAny_mono (h A s vs hA S e) fun _ _ ⟨v, H', a, b, c, d⟩ => ⟨v, H', a, b, c, q _ _ d⟩
theorem CallP.up {m : Nat} (hm : n ≤ m) {f : Addr} {args : List V} {H : HP} {Q : V → HP → Prop} (h : CallP cx n f args H Q) : CallP cx m f args H Q :=
  fun A s vs hA S e => h A s vs ⟨hA.handled, by have := hA.depth; omega, by have := hA.units; omega, hA.frames⟩ S e
theorem new_mono {H : HP} {o : O} {Q Q' : V → HP → Prop} (h : new cx H o Q) (q : ∀ v H, Q v H → Q' v H) : new cx H o Q' := fun r hr => q _ _ (h r hr)
theorem binP_mono {op : Operator} {a b : V} {H : HP} {Q Q' : V → HP → Prop} (h : binP cx op a b H Q) (q : ∀ v H, Q v H → Q' v H) : binP cx op a b H Q' := by
  unfold binP at h ⊢
  split at h
  · exact q _ _ h
  · exact q _ _ h
  · exact ⟨h.1, q _ _ h.2⟩
  · exact ⟨h.1, q _ _ h.2⟩
  · exact ⟨h.1, q _ _ h.2⟩
  · exact ⟨h.1, h.2.1, q _ _ h.2.2⟩
  · split at h
    · exact ⟨h.1, new_mono h.2 q⟩
    · exact h
  · split at h
    · exact ⟨h.1, h.2.1, h.2.2.1, new_mono h.2.2.2 q⟩
    · exact h
  · exact h
theorem callbP_mono {b : BF} {as : List V} {H : HP} {Q Q' : V → HP → Prop} (h : callbP cx b as H Q) (q : ∀ v H, Q v H → Q' v H) : callbP cx b as H Q' := by
  unfold callbP at h ⊢
  split at h
  · split at h
    · exact ⟨h.1, q _ _ h.2⟩
    · exact h
  · split at h
    · exact ⟨h.1, new_mono h.2 q⟩
    · exact h
  · exact q _ _ h
  · split at h
    · split at h
      · exact ⟨h.1, q _ _ h.2⟩
      · exact h
    · exact h
  · exact q _ _ h
  · exact q _ _ h
  · exact h
theorem methP_mono {o : V} {m : Mth} {as : List V} {H : HP} {Q Q' : V → HP → Prop} (h : methP o m as H Q) (q : ∀ v H, Q v H → Q' v H) : methP o m as H Q' := by
  unfold methP at h ⊢
  split at h
  · split at h
    · exact ⟨h.1, q _ _ h.2⟩
    · exact h
  · split at h
    · split at h
      · exact ⟨h.1, q _ _ h.2⟩
      · exact h
    · exact h
  · exact h
theorem subP_mono {o i : V} {H : HP} {Q Q' : V → HP → Prop} (h : subP cx o i H Q) (q : ∀ v H, Q v H → Q' v H) : subP cx o i H Q' := by
  unfold subP at h ⊢
  split at h
  · split at h
    · refine ⟨h.1, h.2.1, ?_⟩
      have := h.2.2
      split at this
      · exact q _ _ this
      · exact this
    · exact h
  · exact h
theorem sliceP_mono {o l u : V} {H : HP} {Q Q' : V → HP → Prop} (h : sliceP cx o l u H Q) (q : ∀ v H, Q v H → Q' v H) : sliceP cx o l u H Q' := by
  unfold sliceP at h ⊢
  split at h
  · split at h
    · split at h
      · exact ⟨h.1, new_mono h.2 q⟩
      · exact h
    · exact h
  · exact h
theorem TruthP_mono {v : V} {Q Q' : Bool → Prop} (h : TruthP v Q) (q : ∀ b, Q b → Q' b) : TruthP v Q' := by
  unfold TruthP at h ⊢
  split at h
  · exact q _ h
  · exact h
theorem IterP_mono {v : V} {H : HP} {Q Q' : List V → (HP → Prop) → HP → Prop} (h : IterP cx v H Q) (q : ∀ a b c, Q a b c → Q' a b c) : IterP cx v H Q' := by
  unfold IterP at h ⊢
  split at h
  · split at h
    · exact ⟨h.1, q _ _ _ h.2⟩
    · exact ⟨h.1, q _ _ _ h.2⟩
    · exact h
  · exact h
theorem RngP_mono {x y : V} {Q Q' : List V → Prop} (h : RngP x y Q) (q : ∀ a, Q a → Q' a) : RngP x y Q' := by
  unfold RngP at h ⊢
  split at h
  · exact ⟨h.1, h.2.1, q _ h.2.2⟩
  · exact h
theorem CompP_mono {items : List V} {st : HP → Prop} {H : HP} {turn : V → HP → (Option V → HP → Prop) → Prop} {Q Q' : V → HP → Prop} (h : CompP cx items st H turn Q) (q : ∀ v H, Q v H → Q' v H) : CompP cx items st H turn Q' := by
  obtain ⟨a, I, b, c, d, e⟩ := h
  exact ⟨a, I, b, c, d, fun acc H₁ hi => new_mono (e acc H₁ hi) q⟩

mutual
theorem mwpE_mono : ∀ (e : ME) {μ : List V} {H : HP} {Q Q' : V → HP → Prop}, mwpE cx n e μ H Q → (∀ v H, Q v H → Q' v H) → mwpE cx n e μ H Q'
  | .cint _, _, _, _, _, h, q => by rw [mwpE] at h ⊢; exact q _ _ h
  | .cbool _, _, _, _, _, h, q => by rw [mwpE] at h ⊢; exact q _ _ h
  | .cnone, _, _, _, _, h, q => by rw [mwpE] at h ⊢; exact q _ _ h
  | .cstr _, _, _, _, _, h, q => by rw [mwpE] at h ⊢; exact q _ _ h
  | .loc _, _, _, _, _, h, q => by rw [mwpE] at h ⊢; exact ⟨h.1, q _ _ h.2⟩
  | .bin _ l r, _, _, _, _, h, q => by rw [mwpE] at h ⊢; exact mwpE_mono l h fun _ _ h => mwpE_mono r h fun _ _ h => binP_mono h q
  | .not e, _, _, _, _, h, q => by rw [mwpE] at h ⊢; exact mwpE_mono e h fun _ _ h => TruthP_mono h fun _ h => q _ _ h
  | .neg e, _, _, _, _, h, q => by
    rw [mwpE] at h ⊢
    refine mwpE_mono e h fun _ _ h => ?_
    split at h
    · exact q _ _ h
    · exact h
  | .cmp l _ r, _, _, _, _, h, q => by
    rw [mwpE] at h ⊢
    refine mwpE_mono l h fun _ _ h => mwpE_mono r h fun _ _ h => ?_
    split at h
    · exact q _ _ h
    · exact h
  | .cmp2 l _ m _ r, _, _, _, _, h, q => by
    rw [mwpE] at h ⊢
    refine mwpE_mono l h fun _ _ h => mwpE_mono m h fun _ _ h => ?_
    split at h
    · refine ⟨fun e => mwpE_mono r (h.1 e) fun _ _ h => ?_, fun e => q _ _ (h.2 e)⟩
      split at h
      · exact q _ _ h
      · exact h
    · exact h
  | .bop _ es, _, _, _, _, h, q => by rw [mwpE] at h ⊢; exact mwpB_mono es h q
  | .ife c t e, _, _, _, _, h, q => by
    rw [mwpE] at h ⊢
    exact mwpE_mono c h fun _ _ h => TruthP_mono h fun _ h => ⟨fun b => mwpE_mono t (h.1 b) q, fun b => mwpE_mono e (h.2 b) q⟩
  | .callf _ as, _, _, _, _, h, q => by rw [mwpE] at h ⊢; exact mwpEs_mono as h fun _ _ h => h.mono q
  | .callb _ as, _, _, _, _, h, q => by rw [mwpE] at h ⊢; exact mwpEs_mono as h fun _ _ h => callbP_mono h q
  | .isi e _, _, _, _, _, h, q => by
    rw [mwpE] at h ⊢
    refine mwpE_mono e h fun _ _ h => ?_
    split at h
    · exact q _ _ h
    · exact h
  | .meth o _ as, _, _, _, _, h, q => by rw [mwpE] at h ⊢; exact mwpE_mono o h fun _ _ h => ⟨h.1, mwpEs_mono as h.2 fun _ _ h => methP_mono h q⟩
  | .sub o i, _, _, _, _, h, q => by rw [mwpE] at h ⊢; exact mwpE_mono o h fun _ _ h => mwpE_mono i h fun _ _ h => subP_mono h q
  | .slice o l u, _, _, _, _, h, q => by rw [mwpE] at h ⊢; exact mwpE_mono o h fun _ _ h => mwpE_mono l h fun _ _ h => mwpE_mono u h fun _ _ h => sliceP_mono h q
  | .list es, _, _, _, _, h, q => by rw [mwpE] at h ⊢; exact mwpEs_mono es h fun _ _ h => ⟨h.1, new_mono h.2 q⟩
  | .tup es, _, _, _, _, h, q => by rw [mwpE] at h ⊢; exact mwpEs_mono es h fun _ _ h => ⟨h.1, new_mono h.2 q⟩
  | .comp _ it _, _, _, _, _, h, q => by rw [mwpE] at h ⊢; exact mwpE_mono it h fun _ _ h => IterP_mono h fun _ _ _ h => CompP_mono h q
  | .compR _ a b _, _, _, _, _, h, q => by rw [mwpE] at h ⊢; exact mwpE_mono a h fun _ _ h => mwpE_mono b h fun _ _ h => RngP_mono h fun _ h => CompP_mono h q
  | .rng _ _, _, _, _, _, h, _ => by rw [mwpE] at h; exact h.elim
  | .slc _ _, _, _, _, _, h, _ => by rw [mwpE] at h; exact h.elim
  | .attr _ _, _, _, _, _, h, _ => by rw [mwpE] at h; exact h.elim
theorem mwpEs_mono : ∀ (es : MEs) {μ : List V} {H : HP} {Q Q' : List V → HP → Prop}, mwpEs cx n es μ H Q → (∀ v H, Q v H → Q' v H) → mwpEs cx n es μ H Q'
  | .nil, _, _, _, _, h, q => by rw [mwpEs] at h ⊢; exact q _ _ h
  | .cons e es, _, _, _, _, h, q => by rw [mwpEs] at h ⊢; exact mwpE_mono e h fun _ _ h => mwpEs_mono es h fun _ _ h => q _ _ h
theorem mwpB_mono {op : BoolOp} : ∀ (es : MEs) {μ : List V} {H : HP} {Q Q' : V → HP → Prop}, mwpB cx n op es μ H Q → (∀ v H, Q v H → Q' v H) → mwpB cx n op es μ H Q'
  | .nil, _, _, _, _, h, _ => by rw [mwpB] at h; exact h.elim
  | .cons e .nil, _, _, _, _, h, q => by rw [mwpB] at h ⊢; exact mwpE_mono e h q
  | .cons e (.cons e' es), _, _, _, _, h, q => by
    rw [mwpB] at h ⊢
    · exact mwpE_mono e h fun _ _ h => TruthP_mono h fun _ h => ⟨fun b => mwpB_mono (.cons e' es) (h.1 b) q, fun b => q _ _ (h.2 b)⟩
    · intro e; cases e
    · intro e; cases e
end

theorem setSubP_mono {o i v : V} {H : HP} {Q Q' : HP → Prop} (h : setSubP o i v H Q) (q : ∀ H, Q H → Q' H) : setSubP o i v H Q' := by
  unfold setSubP at h ⊢
  split at h
  · split at h
    · exact ⟨h.1, h.2.1, h.2.2.1, q _ h.2.2.2⟩
    · exact h
  · exact h
theorem ForP_mono {items : List V} {st : HP → Prop} {μ : List V} {H : HP} {turn turn' : V → List V → HP → (List V → HP → Prop) → Prop} {N N' : List V → HP → Prop} (h : ForP items st μ H turn N)
    (ht : ∀ x μ H K, turn x μ H K → turn' x μ H K) (q : ∀ v H, N v H → N' v H) : ForP items st μ H turn' N' := by
  obtain ⟨I, b, c, d, e⟩ := h
  exact ⟨I, b, c, fun done x rest μ H hi hI => ht _ _ _ _ (d done x rest μ H hi hI), fun μ H hI => q _ _ (e μ H hI)⟩

mutual
theorem mwpS_mono : ∀ (s : MS) {μ : List V} {H : HP} {N N' : List V → HP → Prop} {R R' : V → HP → Prop}, mwpS cx n s μ H N R → (∀ v H, N v H → N' v H) → (∀ v H, R v H → R' v H) → mwpS cx n s μ H N' R'
  | .assign _ e, _, _, _, _, _, _, h, q, _ => by rw [mwpS] at h ⊢; exact mwpE_mono e h fun _ _ h => q _ _ h
  | .setSub o i v, _, _, _, _, _, _, h, q, _ => by rw [mwpS] at h ⊢; exact mwpE_mono v h fun _ _ h => mwpE_mono o h fun _ _ h => mwpE_mono i h fun _ _ h => setSubP_mono h fun _ h => q _ _ h
  | .expr e, _, _, _, _, _, _, h, q, _ => by rw [mwpS] at h ⊢; exact mwpE_mono e h fun _ _ h => q _ _ h
  | .ite c t e, _, _, _, _, _, _, h, q, r => by
    rw [mwpS] at h ⊢
    exact mwpE_mono c h fun _ _ h => TruthP_mono h fun _ h => ⟨fun b => mwpSs_mono t (h.1 b) q r, fun b => mwpSs_mono e (h.2 b) q r⟩
  | .for_ _ it body, _, _, _, _, _, _, h, q, r => by
    rw [mwpS] at h ⊢
    exact mwpE_mono it h fun _ _ h => IterP_mono h fun _ _ _ h => ForP_mono h (fun _ _ _ _ h => mwpSs_mono body h (fun _ _ h => h) r) q
  | .forR _ a b body, _, _, _, _, _, _, h, q, r => by
    rw [mwpS] at h ⊢
    exact mwpE_mono a h fun _ _ h => mwpE_mono b h fun _ _ h => RngP_mono h fun _ h => ForP_mono h (fun _ _ _ _ h => mwpSs_mono body h (fun _ _ h => h) r) q
  | .while_ c body, _, _, _, _, _, _, h, q, r => by
    rw [mwpS] at h ⊢
    obtain ⟨I, h0, h1⟩ := h
    exact ⟨I, h0, fun k μ H hI => mwpE_mono c (h1 k μ H hI) fun _ _ h => TruthP_mono h fun _ h => ⟨fun b => mwpSs_mono body (h.1 b) (fun _ _ h => h) r, fun b => q _ _ (h.2 b)⟩⟩
  | .ret e, _, _, _, _, _, _, h, _, r => by rw [mwpS] at h ⊢; exact mwpE_mono e h r
  | .retN, _, _, _, _, _, _, h, _, r => by rw [mwpS] at h ⊢; exact r _ _ h
theorem mwpSs_mono : ∀ (s : MSs) {μ : List V} {H : HP} {N N' : List V → HP → Prop} {R R' : V → HP → Prop}, mwpSs cx n s μ H N R → (∀ v H, N v H → N' v H) → (∀ v H, R v H → R' v H) → mwpSs cx n s μ H N' R'
  | .nil, _, _, _, _, _, _, h, q, _ => by rw [mwpSs] at h ⊢; exact q _ _ h
  | .cons s r, _, _, _, _, _, _, h, q, rr => by rw [mwpSs] at h ⊢; exact mwpS_mono s h (fun _ _ h => mwpSs_mono r h q rr) rr
end

/-- one statement, then the rest -/
theorem S_cons {s : MS} {r : MSs} {μ : List V} {H : HP} {N : List V → HP → Prop} {R : V → HP → Prop} (h : mwpS cx n s μ H (fun μ H => mwpSs cx n r μ H N R) R) : mwpSs cx n (.cons s r) μ H N R := by rw [mwpSs]; exact h
theorem S_nil {μ : List V} {H : HP} {N : List V → HP → Prop} {R : V → HP → Prop} (h : N μ H) : mwpSs cx n .nil μ H N R := by rw [mwpSs]; exact h
/-- one statement up to a word of one's own, then the rest -/
theorem S_cut {s : MS} {r : MSs} {μ : List V} {H : HP} {N : List V → HP → Prop} {R : V → HP → Prop} (P : List V → HP → Prop) (h : mwpS cx n s μ H P R) (h2 : ∀ μ' H', P μ' H' → mwpSs cx n r μ' H' N R) : mwpSs cx n (.cons s r) μ H N R :=
  S_cons (mwpS_mono s h h2 fun _ _ h => h)
end
end Mine
end

section
namespace Mine
open PySem PyProof.Rows

section
variable {cx : Cx} {H H' : HP} {n : Nat} {a r : Addr} {o : O} {Q : V → HP → Prop}

theorem lk_same : lk cx (upd H r o) r = some o := by simp [lk, upd_same]
theorem lk_ne (h : a ≠ r) : lk cx (upd H r o) a = lk cx H a := by simp [lk, upd_ne _ h]
theorem Fresh.lk_none (hr : Fresh cx H r) : lk cx H r = none := by simp [lk, hr.1, hr.2.2]
theorem Fresh.ne (hr : Fresh cx H r) {o : O} (h : lk cx H a = some o) : a ≠ r := fun e => by subst e; rw [hr.lk_none] at h; cases h
theorem Fresh.ne' (hr : Fresh cx H r) {o : O} (h : H a = some o) : a ≠ r := fun e => by subst e; rw [hr.1] at h; cases h
theorem lk_fresh (hr : Fresh cx H r) {o' : O} (h : lk cx H a = some o') : lk cx (upd H r o) a = some o' := by rw [lk_ne (hr.ne h)]; exact h
theorem lk_of (h : H a = some o) : lk cx H a = some o := by simp [lk, h]

/-- what a function hands back, less what is forgotten -/
def RQ (Q : V → HP → Prop) : V → HP → Prop := fun v H' => ∃ H₂, LE H₂ H' ∧ Q v H₂
def NQ (Q : V → HP → Prop) : List V → HP → Prop := fun _ H' => ∃ H₂, LE H₂ H' ∧ Q .none H₂
theorem RQ.here {v : V} (h : Q v H) : RQ Q v H := ⟨H, LE.refl H, h⟩

theorem le_upd_fresh (hr : Fresh cx H r) (l : LE H H') (o : O) (h : H' r = some o) : LE (upd H r o) H' := by
  intro b o' e
  by_cases hb : b = r
  · subst hb; rw [upd_same] at e; cases e; exact h
  · rw [upd_ne _ hb] at e; exact l b o' e

-- link_word: [place] | []
def m_link_word : MSs :=
  (.cons (.ret (.bin .Add (.bin .Mult (.cint (2)) (.loc 0)) (.cint (1))))
  .nil)
-- told_by: [word] | []
def m_told_by : MSs :=
  (.cons (.ret (.bin .FloorDiv (.loc 0) (.cint (2))))
  .nil)
-- hung: [row, at] | [found, head]
def m_hung (f_told_by f_link_word : Addr) : MSs :=
  (.cons (.assign 2 (.callb .list (.cons (.loc 0) .nil)))
  (.cons (.assign 3 (.callf f_told_by (.cons (.sub (.loc 0) (.loc 1)) .nil)))
  (.cons (.setSub (.loc 2) (.loc 1) (.sub (.loc 0) (.loc 3)))
  (.cons (.setSub (.loc 2) (.loc 3) (.callf f_link_word (.cons (.loc 1) .nil)))
  (.cons (.ret (.loc 2))
  .nil)))))

def m_law_at : MSs :=
  (.cons (.ret (.sub (.bin .Add (.slice (.loc 0) (.loc 1) (.bin .Add (.loc 1) (.cint (1)))) (.list (.cons (.cint (0)) .nil))) (.cint (0))))
  .nil)

def m_law_is_int : MSs :=
  (.cons (.ret (.bop .And (.cons (.isi (.loc 0) "int") (.cons (.cmp (.loc 0) .IsNot (.cbool true)) (.cons (.cmp (.loc 0) .IsNot (.cbool false)) .nil)))))
  .nil)

def m_law_words_are (f_law_is_int : Addr) : MSs :=
  (.cons (.ite (.bop .Or (.cons (.not (.isi (.loc 0) "list")) (.cons (.cmp (.callb .len (.cons (.loc 0) .nil)) .NotEq (.callb .len (.cons (.loc 1) .nil))) .nil))) (.cons (.ret (.cbool false))
    .nil) .nil)
  (.cons (.ret (.cmp (.callb .len (.cons (.compR (.loc 2) (.cint (0)) (.callb .len (.cons (.loc 1) .nil)) (.bop .Or (.cons (.not (.callf f_law_is_int (.cons (.sub (.loc 0) (.loc 2)) .nil))) (.cons (.cmp (.sub (.loc 0) (.loc 2)) .NotEq (.sub (.loc 1) (.loc 2))) .nil)))) .nil)) .Eq (.cint (0))))
  .nil))

def m_law_number : MSs :=
  (.cons (.ite (.cmp (.bin .Mod (.loc 0) (.cint (5))) .Lt (.cint (3))) (.cons (.ret (.bin .Sub (.bin .Mod (.bin .FloorDiv (.loc 0) (.cint (5))) (.cint (41))) (.cint (20))))
    .nil) .nil)
  (.cons (.ite (.cmp (.bin .Mod (.loc 0) (.cint (5))) .Eq (.cint (3))) (.cons (.ret (.sub (.list (.cons (.bin .Sub (.bin .Pow (.cint (10)) (.cint (60))) (.cint (1))) (.cons (.bin .Sub (.cint (1)) (.bin .Pow (.cint (10)) (.cint (60)))) (.cons (.bin .Pow (.cint (10)) (.cint (30))) (.cons (.cint (0)) .nil))))) (.bin .Mod (.bin .FloorDiv (.loc 0) (.cint (5))) (.cint (4)))))
    .nil) .nil)
  (.cons (.ret (.bin .Sub (.bin .Mod (.bin .Mult (.bin .FloorDiv (.loc 0) (.cint (5))) (.bin .Pow (.cint (48271)) (.cint (12)))) (.bin .Sub (.bin .Mult (.cint (2)) (.bin .Pow (.cint (10)) (.cint (60)))) (.cint (1)))) (.bin .Sub (.bin .Pow (.cint (10)) (.cint (60))) (.cint (1)))))
  .nil)))


theorem bopAA : (BoolOp.And == BoolOp.And) = true := rfl
theorem bopAO : (BoolOp.And == BoolOp.Or) = false := rfl
theorem bopOA : (BoolOp.Or == BoolOp.And) = false := rfl
theorem bopOO : (BoolOp.Or == BoolOp.Or) = true := rfl
section
variable (a b : Int) (x y : Addr) (u v : Bool) (s t : Str)
theorem bin_add : binP cx .Add (.int a) (.int b) H Q = Q (.int (a + b)) H := rfl
theorem bin_sub : binP cx .Sub (.int a) (.int b) H Q = Q (.int (a - b)) H := rfl
theorem bin_mul : binP cx .Mult (.int a) (.int b) H Q = (IntMulOk a b ∧ Q (.int (a * b)) H) := rfl
theorem bin_div : binP cx .FloorDiv (.int a) (.int b) H Q = (b ≠ 0 ∧ Q (.int (a.fdiv b)) H) := rfl
theorem bin_mod : binP cx .Mod (.int a) (.int b) H Q = (b ≠ 0 ∧ Q (.int (a.fmod b)) H) := rfl
theorem bin_pow : binP cx .Pow (.int a) (.int b) H Q = (0 ≤ b ∧ (Builtin.Int.intBits a : Int) * b ≤ 2 ^ 27 ∧ Q (.int (a ^ b.toNat)) H) := rfl
theorem bin_cat : binP cx .Add (.ref x) (.ref y) H Q = (match lst cx H x, lst cx H y with
    | some xs, some ys => xs.length + ys.length ≤ 16777216 ∧ new cx H (.list (xs ++ ys)) Q
    | _, _ => False) := rfl
theorem bin_rep : binP cx .Mult (.ref x) (.int a) H Q = (match lst cx H x with
    | some xs => -16777216 < a ∧ a < 16777216 ∧ xs.length * a.toNat ≤ 16777216 ∧ new cx H (.list (List.replicate a.toNat xs).flatten) Q
    | none => False) := rfl
theorem cm_lt : cmpP cx .Lt (.int a) (.int b) H = some (decide (a < b)) := rfl
theorem cm_le : cmpP cx .LtE (.int a) (.int b) H = some (decide (a ≤ b)) := rfl
theorem cm_gt : cmpP cx .Gt (.int a) (.int b) H = some (decide (b < a)) := rfl
theorem cm_ge : cmpP cx .GtE (.int a) (.int b) H = some (decide (b ≤ a)) := rfl
theorem cm_eq : cmpP cx .Eq (.int a) (.int b) H = some (a == b) := rfl
theorem cm_ne : cmpP cx .NotEq (.int a) (.int b) H = some (a != b) := rfl
theorem cm_eqb : cmpP cx .Eq (.bool u) (.bool v) H = some (u == v) := rfl
theorem cm_neb : cmpP cx .NotEq (.bool u) (.bool v) H = some (u != v) := rfl
theorem cm_eqs : cmpP cx .Eq (.str s) (.str t) H = some (s == t) := rfl
theorem cm_nes : cmpP cx .NotEq (.str s) (.str t) H = some (s != t) := rfl
theorem cm_is1 : cmpP cx .Is (.int a) (.bool v) H = some false := rfl
theorem cm_is2 : cmpP cx .IsNot (.int a) (.bool v) H = some true := rfl
theorem cm_is3 : cmpP cx .Is (.bool u) (.bool v) H = some (u == v) := rfl
theorem cm_is4 : cmpP cx .IsNot (.bool u) (.bool v) H = some (u != v) := rfl
theorem cm_in : cmpP cx .In (.int a) (.ref x) H = (match sq cx H x with | some vs => (asInts vs).map fun l => l.contains a | none => none) := rfl
theorem cm_ni : cmpP cx .NotIn (.int a) (.ref x) H = (match sq cx H x with | some vs => (asInts vs).map fun l => !l.contains a | none => none) := rfl
theorem is_ii : isiP H (.int a) "int" = some true := rfl
theorem is_bi : isiP H (.bool u) "int" = some true := rfl
theorem is_rl : isiP H (.ref x) "list" = (match H x with | some (.list _) => some true | some (.tup _) => some false | _ => none) := rfl
theorem is_rt : isiP H (.ref x) "tuple" = (match H x with | some (.list _) => some false | some (.tup _) => some true | _ => none) := rfl
theorem tr_b (P : Bool → Prop) : TruthP (.bool u) P = P u := rfl
theorem rn_i (P : List V → Prop) : RngP (.int a) (.int b) P = ((-1152921504606846976 < a ∧ a < 1152921504606846976) ∧ (-1152921504606846976 < b ∧ b < 1152921504606846976) ∧ P (intsV (rangeL a b))) := rfl
end

local macro_rules | `(tactic| walk_at "st") => `(tactic| simp only [mwpS, mwpE, mwpEs, mwpB, getL, setL, bin_add, bin_sub, bin_mul, bin_div, bin_mod, bin_pow, bin_cat, bin_rep, cm_lt, cm_le, cm_gt, cm_ge, cm_eq, cm_ne, cm_eqb, cm_neb, cm_eqs, cm_nes, cm_is1, cm_is2, cm_is3, cm_is4, cm_in, cm_ni, is_ii, is_bi, is_rl, is_rt, tr_b, rn_i, callbP, methP, subP, sliceP, setSubP, IterP, listAt, sq, lst, new, ne_eq, reduceCtorEq, not_false_eq_true, true_and, and_true, List.cons_append, List.nil_append, bopAA, bopAO, bopOA, bopOO, Bool.false_eq_true, Bool.true_eq_false, Bool.not_true, Bool.not_false, false_implies, true_implies, forall_const, implies_true, bne_self_eq_false, beq_self_eq_true])

theorem told_ms {w : Int} (h : Q (.int (w.fdiv 2)) H) : mwpSs cx n m_told_by [.int w] H (NQ Q) (RQ Q) := by
  refine S_cons ?_
  walk_at "st"
  exact ⟨by decide, RQ.here h⟩
theorem mulOk_l {a b : Int} (h : Builtin.Int.intBits a ≤ 64) : IntMulOk a b := by
  unfold IntMulOk
  have : decide (Builtin.Int.intBits a > shortFactorBits) = false := decide_eq_false (by unfold shortFactorBits; omega)
  rw [this]; simp
theorem mulOk_r {a b : Int} (h : Builtin.Int.intBits b ≤ 64) : IntMulOk a b := by
  unfold IntMulOk
  have : decide (Builtin.Int.intBits b > shortFactorBits) = false := decide_eq_false (by unfold shortFactorBits; omega)
  rw [this]; simp
theorem link_ms {p : Int} (h : Q (.int (2 * p + 1)) H) : mwpSs cx n m_link_word [.int p] H (NQ Q) (RQ Q) := by
  refine S_cons ?_
  walk_at "st"
  exact ⟨mulOk_l (by decide), RQ.here h⟩

theorem ints_length (xs : List Int) : (intsV xs).length = xs.length := by simp [intsV]
theorem ints_get? (xs : List Int) (i : Nat) : (intsV xs)[i]? = xs[i]?.map V.int := by simp [intsV]
theorem ints_set (xs : List Int) (i : Nat) (v : Int) : (intsV xs).set i (.int v) = intsV (xs.set i v) := by simp [intsV, List.map_set]

theorem hung_ms {f_told_by f_link_word row : Addr} {xs : List Int} {k h : Nat} {wk wh : Int}
    (ht : ∀ w H Q, Q (.int (w.fdiv 2)) H → CallP cx n f_told_by [.int w] H Q) (hl : ∀ p H Q, Q (.int (2 * p + 1)) H → CallP cx n f_link_word [.int p] H Q)
    (hrow : lk cx H row = some (.list (intsV xs))) (hlen : xs.length ≤ 1000) (hk : xs[k]? = some wk) (hwk : wk.fdiv 2 = h) (hh : xs[h]? = some wh)
    (hQ : ∀ r, Fresh cx H r → Q (.ref r) (upd H r (.list (intsV ((xs.set k wh).set h (2 * (k : Int) + 1)))))) :
    mwpSs cx n (m_hung f_told_by f_link_word) [.ref row, .int k, .unb, .unb] H (NQ Q) (RQ Q) := by
  have hkl : k < xs.length := (List.getElem?_eq_some_iff.mp hk).1
  have hhl : h < xs.length := (List.getElem?_eq_some_iff.mp hh).1
  refine S_cons ?_
  walk_at "st"
  simp only [hrow, ints_length]
  refine ⟨by omega, fun r hr => S_cons ?_⟩
  walk_at "st"
  simp only [lk_fresh hr hrow, ints_length, ints_get?, Int.toNat_natCast, hk, Option.map_some]
  refine ⟨by omega, by omega, ht _ _ _ ?_⟩
  rw [hwk]
  refine S_cons ?_
  walk_at "st"
  simp only [lk_fresh hr hrow, hh, Option.map_some, upd_same, ints_length, ints_get?, Int.toNat_natCast, ints_set, upd_upd]
  refine ⟨by omega, by omega, by omega, by omega, hkl, S_cons ?_⟩
  walk_at "st"
  refine hl _ _ _ ?_
  simp only [upd_same, ints_length, Int.toNat_natCast, ints_set, upd_upd, List.length_set]
  refine ⟨by omega, by omega, hhl, S_cons ?_⟩
  walk_at "st"
  exact RQ.here (hQ r hr)

theorem cutLo_nn {m : Nat} {i : Int} (h : 0 ≤ i) : cutLo m (.int i) = some (min i.toNat m) := by simp [cutLo, show ¬ i < 0 from by omega]
theorem cutHi_nn {m : Nat} {i : Int} (h : 0 ≤ i) : cutHi m (.int i) = some (min i.toNat m) := by simp [cutHi, show ¬ i < 0 from by omega]
theorem cut_length_le (vs : List V) (l h : Nat) : (cut vs l h).length ≤ vs.length := by simp [cut]; omega
theorem cut_ints (xs : List Int) (l h : Nat) : cut (intsV xs) l h = intsV ((xs.take h).drop l) := by simp [cut, intsV]
theorem ints_append (xs ys : List Int) : intsV xs ++ intsV ys = intsV (xs ++ ys) := by simp [intsV]

/-- a cell of the script: some int of the script, or nought -/
theorem at_ms {sa : Addr} {ns : List Int} {p : Int} (hs : lk cx H sa = some (.list (intsV ns))) (hlen : ns.length ≤ 1000) (hp : 0 ≤ p)
    (hQ : ∀ v, (v ∈ ns ∨ v = 0) → Q (.int v) H) : mwpSs cx n m_law_at [.ref sa, .int p] H (NQ Q) (RQ Q) := by
  refine S_cons ?_
  walk_at "st"
  simp only [hs, ints_length, cutLo_nn hp, cutHi_nn (show 0 ≤ p + 1 from by omega)]
  have hcl := cut_length_le (intsV ns) (min p.toNat ns.length) (min (p + 1).toNat ns.length)
  rw [ints_length] at hcl
  refine ⟨by omega, fun r hr => ⟨by simp, fun r2 hr2 => ?_⟩⟩
  have hne : r ≠ r2 := hr2.ne lk_same
  simp only [lk_same, lk_ne hne]
  refine ⟨by simp; omega, fun r3 hr3 => ?_⟩
  refine ⟨by decide, by simp; omega, ?_⟩
  have key : ∃ v, (v ∈ ns ∨ v = 0) ∧ (cut (intsV ns) (min p.toNat ns.length) (min (p + 1).toNat ns.length) ++ [V.int 0])[(0 : Int).toNat]? = some (.int v) := by
    rw [cut_ints, show [V.int 0] = intsV [0] from rfl, ints_append]
    generalize hl : ((ns.take (min (p + 1).toNat ns.length)).drop (min p.toNat ns.length)) = l
    cases l with
    | nil => exact ⟨0, .inr rfl, rfl⟩
    | cons v l =>
      refine ⟨v, .inl ?_, rfl⟩
      have : v ∈ (ns.take (min (p + 1).toNat ns.length)).drop (min p.toNat ns.length) := by rw [hl]; exact List.mem_cons_self
      exact List.mem_of_mem_take (List.mem_of_mem_drop this)
  obtain ⟨v, hv, e⟩ := key
  rw [e]
  exact ⟨H, (LE.fresh hr.1 _).trans ((LE.fresh hr2.1 _).trans (LE.fresh hr3.1 _)), hQ v hv⟩

theorem isint_ms {v : Int} (h : Q (.bool true) H) : mwpSs cx n m_law_is_int [.int v] H (NQ Q) (RQ Q) := by
  refine S_cons ?_
  walk_at "st"
  exact RQ.here h

/-- two equal rows -/
theorem words_ms {f_law_is_int fa da : Addr} {xs : List Int} (hi : ∀ v H Q, Q (.bool true) H → CallP cx n f_law_is_int [.int v] H Q) (hf : H fa = some (.list (intsV xs))) (hd : lk cx H da = some (.list (intsV xs))) (hlen : xs.length ≤ 1000)
    (hQ : Q (.bool true) H) : mwpSs cx n (m_law_words_are f_law_is_int) [.ref fa, .ref da] H (NQ Q) (RQ Q) := by
  have hf' : lk cx H fa = some (.list (intsV xs)) := lk_of hf
  refine S_cons ?_
  walk_at "st"
  simp only [hf, hf', hd, ints_length]
  walk_at "st"
  refine ⟨by omega, by omega, S_nil (S_cons ?_)⟩
  walk_at "st"
  simp only [hd, ints_length]
  refine ⟨by omega, by omega, by omega, ?_⟩
  refine ⟨by simp [intsV, rangeL]; omega, fun _ acc H₁ => acc = [] ∧ H₁ = H, ⟨rfl, rfl⟩, fun _ _ _ _ => trivial, ?_, ?_⟩
  · rintro done x rest acc H₁ hitems ⟨rfl, rfl⟩
    obtain ⟨i, rfl, hi2⟩ : ∃ i : Nat, x = .int i ∧ i < xs.length := by
      have hx : (intsV (rangeL 0 xs.length))[done.length]? = some x := by rw [hitems]; simp
      obtain ⟨rfl, h⟩ := rangeL_get hx
      exact ⟨done.length, by simp, by omega⟩
    walk_at "st"
    simp only [hf', hd, ints_length, ints_get?, Int.toNat_natCast, List.getElem?_eq_getElem hi2, Option.map_some]
    refine ⟨by omega, by omega, hi _ _ _ ?_⟩
    walk_at "st"
    simp only [hf', hd, ints_length, ints_get?, Int.toNat_natCast, List.getElem?_eq_getElem hi2, Option.map_some]
    walk_at "st"
    exact ⟨by omega, by omega, by omega, by omega, H₁, LE.refl _, by simp⟩
  · rintro acc H₁ ⟨rfl, rfl⟩ r hr
    simp only [lk_same]
    exact ⟨by simp, H₁, LE.fresh hr.1 _, hQ⟩

theorem bits_of {v : Int} {m k : Nat} (h : v.natAbs < 2 ^ k) (hk : k ≤ m) : Builtin.Int.intBits v ≤ m := Nat.le_trans (intBits_le_iff.mpr h) hk
theorem fmod_pos_bounds (a : Int) {b : Int} (hb : 0 < b) : 0 ≤ a.fmod b ∧ a.fmod b < b := ⟨Int.fmod_nonneg_of_pos a hb, Int.fmod_lt_of_pos a hb⟩

/-- a drawn number: some int of few bits -/
theorem number_ms {seed : Int} (hb : Builtin.Int.intBits seed ≤ 3000000) (hQ : ∀ v, Builtin.Int.intBits v ≤ 300 → Q (.int v) H) : mwpSs cx n m_law_number [.int seed] H (NQ Q) (RQ Q) := by
  refine S_cons ?_
  walk_at "st"
  refine ⟨by decide, fun h1 => S_cons ?_, fun h1 => S_nil (S_cons ?_)⟩
  · walk_at "st"
    refine ⟨by decide, by decide, RQ.here (hQ _ ?_)⟩
    have := fmod_pos_bounds (seed.fdiv 5) (b := 41) (by decide)
    exact bits_of (k := 7) (by omega) (by decide)
  · walk_at "st"
    refine ⟨by decide, fun h2 => S_cons ?_, fun h2 => S_nil (S_cons ?_)⟩
    · walk_at "st"
      refine ⟨by decide, by decide, by decide, by decide, by decide, by decide, by simp, fun r hr => ⟨by decide, by decide, ?_⟩⟩
      simp only [lk_same]
      obtain ⟨b1, b2⟩ := fmod_pos_bounds (seed.fdiv 5) (b := 4) (by decide)
      generalize (seed.fdiv 5).fmod 4 = i at b1 b2 ⊢
      refine ⟨b1, by simp, ?_⟩
      have fin : ∀ v, Builtin.Int.intBits v ≤ 300 → RQ Q (.int v) (upd H r (.list [V.int (10 ^ Int.toNat 60 - 1), V.int (1 - 10 ^ Int.toNat 60), V.int (10 ^ Int.toNat 30), V.int 0])) := fun v hv => ⟨H, LE.fresh hr.1 _, hQ v hv⟩
      obtain rfl | rfl | rfl | rfl : i = 0 ∨ i = 1 ∨ i = 2 ∨ i = 3 := by omega
      · exact fin _ (by decide +kernel)
      · exact fin _ (by decide +kernel)
      · exact fin _ (by decide +kernel)
      · exact fin _ (by decide +kernel)
    · walk_at "st"
      refine ⟨by decide, by decide, by decide, ?_, by decide, by decide, ?_, ?_, by decide, by decide, RQ.here (hQ _ ?_)⟩
      · exact IntMulOk.of_le (intBits_fdiv_le hb) (show Builtin.Int.intBits (48271 ^ Int.toNat 12) ≤ 300 by decide +kernel) (by decide)
      · exact mulOk_l (by decide)
      · decide +kernel
      · have hm : (0 : Int) < 2 * 10 ^ Int.toNat 60 - 1 := by decide +kernel
        have := fmod_pos_bounds (seed.fdiv 5 * 48271 ^ Int.toNat 12) hm
        generalize (seed.fdiv 5 * 48271 ^ Int.toNat 12).fmod (2 * 10 ^ Int.toNat 60 - 1) = w at this
        have e : (10 : Int) ^ Int.toNat 60 = 1000000000000000000000000000000000000000000000000000000000000 := by decide +kernel
        rw [e] at this ⊢
        exact bits_of (k := 201) (by omega) (by decide)
end
end Mine
end

section
namespace Mine
open PySem PyProof.Rows

section
variable {cx : Cx} {H H' : HP} {n : Nat} {a r : Addr} {o : O} {Q : V → HP → Prop}
local macro_rules | `(tactic| walk_at "st") => `(tactic| simp only [mwpS, mwpE, mwpEs, mwpB, getL, setL, bin_add, bin_sub, bin_mul, bin_div, bin_mod, bin_pow, bin_cat, bin_rep, cm_lt, cm_le, cm_gt, cm_ge, cm_eq, cm_ne, cm_eqb, cm_neb, cm_eqs, cm_nes, cm_is1, cm_is2, cm_is3, cm_is4, cm_in, cm_ni, is_ii, is_bi, is_rl, is_rt, tr_b, rn_i, callbP, methP, subP, sliceP, setSubP, IterP, listAt, sq, lst, new, ne_eq, reduceCtorEq, not_false_eq_true, true_and, and_true, List.cons_append, List.nil_append, bopAA, bopAO, bopOA, bopOO, Bool.false_eq_true, Bool.true_eq_false, Bool.not_true, Bool.not_false, false_implies, true_implies, forall_const, implies_true, bne_self_eq_false, beq_self_eq_true])
-- number_word: [n] | []
def m_number_word : MSs :=
  (.cons (.ret (.bin .Mult (.cint (2)) (.loc 0)))
  .nil)
-- head_word: [many, marked] | []
def m_head_word : MSs :=
  (.cons (.ite (.loc 1) (.cons (.ret (.bin .Add (.bin .Mult (.cint (4)) (.loc 0)) (.cint (2))))
    .nil) .nil)
  (.cons (.ret (.bin .Mult (.cint (4)) (.loc 0)))
  .nil))
-- is_link: [word] | []
def m_is_link : MSs :=
  (.cons (.ret (.cmp (.bin .Mod (.loc 0) (.cint (2))) .Eq (.cint (1))))
  .nil)
-- fields_of: [head] | []
def m_fields_of : MSs :=
  (.cons (.ret (.bin .FloorDiv (.loc 0) (.cint (4))))
  .nil)
-- is_marked: [head] | []
def m_is_marked : MSs :=
  (.cons (.ret (.cmp (.bin .Mod (.bin .FloorDiv (.loc 0) (.cint (2))) (.cint (2))) .Eq (.cint (1))))
  .nil)
theorem numw_ms {p : Int} (h : Q (.int (2 * p)) H) : mwpSs cx n m_number_word [.int p] H (NQ Q) (RQ Q) := by
  refine S_cons ?_
  walk_at "st"
  exact ⟨mulOk_l (by decide), RQ.here h⟩
theorem headw_ms {p : Int} {b : Bool} (h : Q (.int (4 * p + 2 * (if b then 1 else 0))) H) : mwpSs cx n m_head_word [.int p, .bool b] H (NQ Q) (RQ Q) := by
  refine S_cons ?_
  walk_at "st"
  refine ⟨fun e => S_cons ?_, fun e => S_nil (S_cons ?_)⟩
  · walk_at "st"
    subst e
    exact ⟨mulOk_l (by decide), RQ.here h⟩
  · walk_at "st"
    subst e
    refine ⟨mulOk_l (by decide), RQ.here ?_⟩
    simpa using h
theorem islink_ms {w : Int} (h : Q (.bool (w.fmod 2 == 1)) H) : mwpSs cx n m_is_link [.int w] H (NQ Q) (RQ Q) := by
  refine S_cons ?_
  walk_at "st"
  exact ⟨by decide, RQ.here h⟩
theorem fields_ms {w : Int} (h : Q (.int (w.fdiv 4)) H) : mwpSs cx n m_fields_of [.int w] H (NQ Q) (RQ Q) := by
  refine S_cons ?_
  walk_at "st"
  exact ⟨by decide, RQ.here h⟩
theorem ismarked_ms {w : Int} (h : Q (.bool ((w.fdiv 2).fmod 2 == 1)) H) : mwpSs cx n m_is_marked [.int w] H (NQ Q) (RQ Q) := by
  refine S_cons ?_
  walk_at "st"
  exact ⟨by decide, by decide, RQ.here h⟩
theorem fdiv2 (a : Int) : a.fdiv 2 = a / 2 := Int.fdiv_eq_ediv_of_nonneg _ (by decide)
theorem fdiv4 (a : Int) : a.fdiv 4 = a / 4 := Int.fdiv_eq_ediv_of_nonneg _ (by decide)
theorem fmod2 (a : Int) : a.fmod 2 = a % 2 := Int.fmod_eq_emod_of_nonneg _ (by decide)

/-- the script's reader, as a callee -/
def AtSpec (cx : Cx) (n : Nat) (f sa : Addr) (ns : List Int) : Prop := ∀ (p : Int) (H : HP) (Q : V → HP → Prop), lk cx H sa = some (.list (intsV ns)) → 0 ≤ p → (∀ v, Builtin.Int.intBits v ≤ 1048576 → Q (.int v) H) → CallP cx n f [.ref sa, .int p] H Q
def NumSpec (cx : Cx) (n : Nat) (f : Addr) : Prop := ∀ (s : Int) (H : HP) (Q : V → HP → Prop), Builtin.Int.intBits s ≤ 3000000 → (∀ v, Builtin.Int.intBits v ≤ 300 → Q (.int v) H) → CallP cx n f [.int s] H Q
def WordsSpec (cx : Cx) (n : Nat) (f : Addr) : Prop := ∀ (fa da : Addr) (xs : List Int) (H : HP) (Q : V → HP → Prop), H fa = some (.list (intsV xs)) → lk cx H da = some (.list (intsV xs)) → xs.length ≤ 1000 → Q (.bool true) H → CallP cx n f [.ref fa, .ref da] H Q
/-- a function of one int -/
def Fn1 (cx : Cx) (n : Nat) (f : Addr) (g : Int → V) : Prop := ∀ (w : Int) (H : HP) (Q : V → HP → Prop), Q (g w) H → CallP cx n f [.int w] H Q
end
end Mine
end

section
namespace Mine
open PySem PyProof.Rows

/-- cells of a row set to one word -/
def setAll (zs : List Int) (cs : List Nat) (v : Int) : List Int := zs.mapIdx fun i x => if i ∈ cs then v else x
theorem setAll_get (zs : List Int) (cs : List Nat) (v : Int) (i : Nat) : (setAll zs cs v)[i]? = zs[i]?.map fun x => if i ∈ cs then v else x := by simp [setAll]
theorem setAll_length (zs : List Int) (cs : List Nat) (v : Int) : (setAll zs cs v).length = zs.length := by simp [setAll]
theorem setAll_nil (zs : List Int) (v : Int) : setAll zs [] v = zs := by
  apply List.ext_getElem?; intro i; rw [setAll_get]; simp
theorem setAll_cons (zs : List Int) (c : Nat) (cs : List Nat) (v : Int) : setAll (zs.set c v) cs v = setAll zs (c :: cs) v := by
  apply List.ext_getElem?; intro i
  rw [setAll_get, setAll_get, List.getElem?_set]
  by_cases h : c = i
  · subst h
    by_cases hl : c < zs.length
    · simp [hl]
    · simp [hl]
  · have : ¬ i = c := fun e => h e.symm
    simp [h, this]
theorem setAll_set (zs : List Int) {h : Nat} {cs : List Nat} (hn : h ∉ cs) (v x : Int) : setAll (zs.set h x) cs v = (setAll zs cs v).set h x := by
  apply List.ext_getElem?; intro i
  rw [setAll_get, List.getElem?_set, List.getElem?_set, setAll_get, setAll_length]
  by_cases q : h = i
  · subst q
    by_cases hl : h < zs.length
    · simp [hl, hn]
    · simp [hl]
  · simp [q]

/-- a chain of links, from a word to its end -/
def Chain (xs : List Int) : Int → List Nat → Int → Prop
  | w, [], e => w = e
  | w, c :: cs, e => w = 2 * (c : Int) + 1 ∧ ∃ w', xs[c]? = some w' ∧ Chain xs w' cs e
theorem Chain.set {xs : List Int} {k : Nat} {x : Int} {e : Int} : ∀ {cs : List Nat} {w : Int}, k ∉ cs → Chain xs w cs e → Chain (xs.set k x) w cs e
  | [], _, _, h => h
  | c :: cs, w, hn, ⟨h1, w', h2, h3⟩ => by
    simp only [List.mem_cons, not_or] at hn
    refine ⟨h1, w', ?_, Chain.set hn.2 h3⟩
    rw [List.getElem?_set_ne hn.1]; exact h2

section
variable {cx : Cx} {H H' : HP} {n : Nat} {a r : Addr} {o : O} {Q : V → HP → Prop}
local macro_rules | `(tactic| walk_at "st") => `(tactic| simp only [mwpS, mwpE, mwpEs, mwpB, getL, setL, bin_add, bin_sub, bin_mul, bin_div, bin_mod, bin_pow, bin_cat, bin_rep, cm_lt, cm_le, cm_gt, cm_ge, cm_eq, cm_ne, cm_eqb, cm_neb, cm_eqs, cm_nes, cm_is1, cm_is2, cm_is3, cm_is4, cm_in, cm_ni, is_ii, is_bi, is_rl, is_rt, tr_b, rn_i, callbP, methP, subP, sliceP, setSubP, IterP, listAt, sq, lst, new, ne_eq, reduceCtorEq, not_false_eq_true, true_and, and_true, List.cons_append, List.nil_append, bopAA, bopAO, bopOA, bopOO, Bool.false_eq_true, Bool.true_eq_false, Bool.not_true, Bool.not_false, false_implies, true_implies, forall_const, implies_true, bne_self_eq_false, beq_self_eq_true])
-- led: [row, head, place] | [found, word, cell]
def m_led (f_is_link f_told_by f_link_word : Addr) : MSs :=
  (.cons (.assign 3 (.callb .list (.cons (.loc 0) .nil)))
  (.cons (.assign 4 (.sub (.loc 3) (.loc 1)))
  (.cons (.while_ (.callf f_is_link (.cons (.loc 4) .nil)) (.cons (.assign 5 (.callf f_told_by (.cons (.loc 4) .nil)))
    (.cons (.assign 4 (.sub (.loc 3) (.loc 5)))
    (.cons (.setSub (.loc 3) (.loc 5) (.callf f_link_word (.cons (.loc 2) .nil)))
    .nil))))
  (.cons (.setSub (.loc 3) (.loc 1) (.loc 4))
  (.cons (.ret (.loc 3))
  .nil)))))
theorem led_ms {f_is_link f_told_by f_link_word row : Addr} {xs : List Int} {h : Nat} {p w e : Int} {cs : List Nat} (h1 : Fn1 cx n f_is_link fun w => .bool (w.fmod 2 == 1)) (h2 : Fn1 cx n f_told_by fun w => .int (w.fdiv 2)) (h3 : Fn1 cx n f_link_word fun p => .int (2 * p + 1))
    (hrow : lk cx H row = some (.list (intsV xs))) (hlen : xs.length ≤ 1000) (hh : xs[h]? = some w) (hc : Chain xs w cs e) (hnd : cs.Nodup) (hhn : h ∉ cs) (he : e % 2 = 0)
    (hQ : ∀ r, Fresh cx H r → Q (.ref r) (upd H r (.list (intsV ((setAll xs cs (2 * p + 1)).set h e))))) :
    mwpSs cx n (m_led f_is_link f_told_by f_link_word) [.ref row, .int h, .int p, .unb, .unb, .unb] H (NQ Q) (RQ Q) := by
  have hhl : h < xs.length := (List.getElem?_eq_some_iff.mp hh).1
  refine S_cons ?_
  walk_at "st"
  simp only [hrow, ints_length]
  refine ⟨by omega, fun r hr => S_cons ?_⟩
  walk_at "st"
  simp only [lk_same, ints_length, ints_get?, Int.toNat_natCast, hh, Option.map_some]
  refine ⟨by omega, by omega, ?_⟩
  refine S_cut (fun μ H' => ∃ z, ∃ ys : List Int, μ = [.ref row, .int h, .int p, .ref r, .int e, z] ∧ ys.length = xs.length ∧ H' = upd H r (.list (intsV ys)) ∧ ys = setAll xs cs (2 * p + 1)) ?_ ?_
  · rw [mwpS]
    refine ⟨fun k μ H' => ∃ (z : V) (ys : List Int) (w' : Int) (cs' : List Nat), μ = [.ref row, .int h, .int p, .ref r, .int w', z] ∧ H' = upd H r (.list (intsV ys)) ∧ ys.length = xs.length ∧ cs'.length = k ∧ Chain ys w' cs' e ∧ cs'.Nodup ∧ setAll ys cs' (2 * p + 1) = setAll xs cs (2 * p + 1), ⟨_, _, xs, w, cs, rfl, rfl, rfl, rfl, hc, hnd, rfl⟩, ?_⟩
    rintro k μ H' ⟨z, ys, w', cs', rfl, rfl, hyl, rfl, hch, hnd', heq⟩
    walk_at "st"
    refine h1 _ _ _ ?_
    walk_at "st"
    rw [fmod2]
    cases cs' with
    | nil =>
      have hw : w' = e := hch
      subst hw
      refine ⟨fun q => ?_, fun _ => ⟨_, ys, rfl, hyl, rfl, by rw [← heq, setAll_nil]⟩⟩
      rw [he] at q; cases q
    | cons c cs' =>
      obtain ⟨hw, w2, hw2, hch2⟩ := hch
      have hcl : c < ys.length := (List.getElem?_eq_some_iff.mp hw2).1
      refine ⟨fun _ => S_cons ?_, fun q => ?_⟩
      · walk_at "st"
        refine h2 _ _ _ ?_
        have e1 : w'.fdiv 2 = (c : Int) := by rw [fdiv2]; omega
        dsimp only
        rw [e1]
        refine S_cons ?_
        walk_at "st"
        simp only [lk_same, ints_length, ints_get?, Int.toNat_natCast, hw2, Option.map_some]
        refine ⟨by omega, by omega, S_cons ?_⟩
        walk_at "st"
        refine h3 _ _ _ ?_
        dsimp only
        simp only [upd_same, ints_length, Int.toNat_natCast, ints_set, upd_upd]
        refine ⟨by omega, by omega, hcl, S_nil ⟨_, LE.refl _, cs'.length, by simp, _, ys.set c (2 * p + 1), w2, cs', rfl, rfl, by simp [hyl], rfl, Chain.set (List.nodup_cons.mp hnd').1 hch2, (List.nodup_cons.mp hnd').2, ?_⟩⟩
        rw [setAll_cons]; exact heq
      · rw [show w' % 2 = 1 from by omega] at q; cases q
  rintro μ' H' ⟨z, ys, rfl, hyl, rfl, hys⟩
  refine S_cons ?_
  walk_at "st"
  simp only [upd_same, ints_length, Int.toNat_natCast, ints_set, upd_upd]
  refine ⟨by omega, by omega, by omega, S_cons ?_⟩
  walk_at "st"
  rw [hys]
  exact RQ.here (hQ r hr)

def LedSpec (cx : Cx) (n : Nat) (f : Addr) : Prop := ∀ (row : Addr) (xs : List Int) (h : Nat) (p w e : Int) (cs : List Nat) (H : HP) (Q : V → HP → Prop), lk cx H row = some (.list (intsV xs)) → xs.length ≤ 1000 → xs[h]? = some w → Chain xs w cs e → cs.Nodup → h ∉ cs → e % 2 = 0 →
    (∀ r, Fresh cx H r → Q (.ref r) (upd H r (.list (intsV ((setAll xs cs (2 * p + 1)).set h e))))) → CallP cx n f [.ref row, .int h, .int p] H Q
end
end Mine
end

section
namespace Mine
open PySem PyProof.Rows

section
variable {cx : Cx} {H H' : HP} {n : Nat} {a r : Addr} {o : O} {Q : V → HP → Prop}
local macro_rules | `(tactic| walk_at "st") => `(tactic| simp only [mwpS, mwpE, mwpEs, mwpB, getL, setL, bin_add, bin_sub, bin_mul, bin_div, bin_mod, bin_pow, bin_cat, bin_rep, cm_lt, cm_le, cm_gt, cm_ge, cm_eq, cm_ne, cm_eqb, cm_neb, cm_eqs, cm_nes, cm_is1, cm_is2, cm_is3, cm_is4, cm_in, cm_ni, is_ii, is_bi, is_rl, is_rt, tr_b, rn_i, callbP, methP, subP, sliceP, setSubP, IterP, listAt, sq, lst, new, ne_eq, reduceCtorEq, not_false_eq_true, true_and, and_true, List.cons_append, List.nil_append, bopAA, bopAO, bopOA, bopOO, Bool.false_eq_true, Bool.true_eq_false, Bool.not_true, Bool.not_false, false_implies, true_implies, forall_const, implies_true, bne_self_eq_false, beq_self_eq_true])
-- law: [_law_script] | [_law_size, _law_row, _law_head, _law_place, _law_step, _law_cells, _law_due, _law_chain, _law_seen, _law_at_here, _law_handed, _law_found]
def m_law3 (f_law_at f_law_number f_led f_law_words_are : Addr) : MSs :=
  (.cons (.assign 1 (.bin .Add (.cint (2)) (.bin .Mod (.callf f_law_at (.cons (.loc 0) (.cons (.cint (0)) .nil))) (.cint (39)))))
  (.cons (.ite (.cmp (.bin .Mod (.bin .FloorDiv (.callf f_law_at (.cons (.loc 0) (.cons (.cint (0)) .nil))) (.cint (39))) (.cint (4))) .Eq (.cint (1))) (.cons (.assign 1 (.bin .Add (.loc 1) (.cint (660))))
    .nil) .nil)
  (.cons (.assign 2 (.compR (.callf f_law_number (.cons (.bin .Add (.bin .Mult (.callf f_law_at (.cons (.loc 0) (.cons (.bin .Add (.cint (5)) (.bin .Mod (.loc 13) (.cint (50)))) .nil))) (.cint (48271))) (.bin .Mult (.cint (13)) (.loc 13))) .nil)) (.cint (0)) (.loc 1) (.cbool true)))
  (.cons (.assign 3 (.bin .Mod (.callf f_law_at (.cons (.loc 0) (.cons (.cint (1)) .nil))) (.loc 1)))
  (.cons (.setSub (.loc 2) (.loc 3) (.bin .Mult (.cint (2)) (.sub (.loc 2) (.loc 3))))
  (.cons (.assign 4 (.bin .Mod (.callf f_law_at (.cons (.loc 0) (.cons (.cint (2)) .nil))) (.cint (400))))
  (.cons (.assign 5 (.bin .Add (.cint (1)) (.bin .Mod (.callf f_law_at (.cons (.loc 0) (.cons (.cint (3)) .nil))) (.cint (6)))))
  (.cons (.assign 6 (.compR (.bin .Mod (.bin .Add (.bin .Add (.loc 3) (.cint (1))) (.bin .Mod (.bin .Add (.bin .Mult (.loc 13) (.loc 5)) (.callf f_law_at (.cons (.loc 0) (.cons (.cint (4)) .nil)))) (.bin .Sub (.loc 1) (.cint (1))))) (.loc 1)) (.cint (0)) (.bin .Mod (.callf f_law_at (.cons (.loc 0) (.cons (.cint (4)) .nil))) (.cint (30))) (.cbool true)))
  (.cons (.ite (.cmp (.bin .Mod (.bin .FloorDiv (.callf f_law_at (.cons (.loc 0) (.cons (.cint (3)) .nil))) (.cint (6))) (.cint (6))) .Eq (.cint (0))) (.cons (.assign 6 (.list .nil))
    .nil) .nil)
  (.cons (.assign 7 (.callb .list (.cons (.loc 2) .nil)))
  (.cons (.assign 8 (.callb .list (.cons (.loc 2) .nil)))
  (.cons (.assign 9 (.list .nil))
  (.cons (.for_ 10 (.loc 6) (.cons (.ite (.cmp (.loc 10) .NotIn (.loc 9)) (.cons (.assign 9 (.bin .Add (.loc 9) (.list (.cons (.loc 10) .nil))))
      (.cons (.setSub (.loc 7) (.loc 10) (.bin .Add (.bin .Mult (.cint (2)) (.loc 4)) (.cint (1))))
      (.cons (.setSub (.loc 8) (.loc 10) (.sub (.loc 8) (.loc 3)))
      (.cons (.setSub (.loc 8) (.loc 3) (.bin .Add (.bin .Mult (.cint (2)) (.loc 10)) (.cint (1))))
      .nil)))) .nil)
    .nil))
  (.cons (.assign 11 (.callb .list (.cons (.loc 8) .nil)))
  (.cons (.assign 12 (.callf f_led (.cons (.loc 11) (.cons (.loc 3) (.cons (.loc 4) .nil)))))
  (.cons (.ite (.not (.callf f_law_words_are (.cons (.loc 12) (.cons (.loc 7) .nil)))) (.cons (.ret (.cbool false))
    .nil) .nil)
  (.cons (.expr (.meth (.loc 12) .append (.cons (.cint (5)) .nil)))
  (.cons (.ret (.callf f_law_words_are (.cons (.loc 11) (.cons (.loc 8) .nil))))
  .nil))))))))))))))))))
theorem chain_lt {xs : List Int} {e : Int} : ∀ {cs : List Nat} {w : Int}, Chain xs w cs e → ∀ c ∈ cs, c < xs.length
  | c :: cs, w, ⟨_, w', h2, h3⟩, x, hx => by
    rcases List.mem_cons.mp hx with rfl | hx
    · exact (List.getElem?_eq_some_iff.mp h2).1
    · exact chain_lt h3 x hx
/-- what the loop of law 03 keeps -/
structure Inv3 (cx : Cx) (h : Nat) (e p : Int) (sz : Nat) (row due chain cells seen : Addr) (items : List V) (m : Nat) (H : HP) : Prop where
  body : ∃ (zs ds : List Int) (cs : List Nat) (w : Int), H due = some (.list (intsV ds)) ∧ H chain = some (.list (intsV zs)) ∧ lk cx H seen = some (.list (intsV (cs.reverse.map fun c : Nat => (c : Int)))) ∧ zs.length = sz ∧ ds.length = sz ∧
    zs[h]? = some w ∧ Chain zs w cs e ∧ cs.Nodup ∧ h ∉ cs ∧ (setAll zs cs (2 * p + 1)).set h e = ds ∧ cs.length ≤ m
  items : lk cx H cells = some (.list items)
  n1 : due ≠ chain
  n2 : cells ≠ due
  n3 : cells ≠ chain
  n4 : seen ≠ due
  n5 : seen ≠ chain

theorem law3_ms {f_law_at f_law_number f_led f_law_words_are sa : Addr} {ns : List Int} (hat : AtSpec cx n f_law_at sa ns) (hnum : NumSpec cx n f_law_number) (hw : WordsSpec cx n f_law_words_are) (hl : LedSpec cx n f_led)
    (hs : lk cx H sa = some (.list (intsV ns))) (hQ : ∀ H', Q (.bool true) H') : mwpSs cx n (m_law3 f_law_at f_law_number f_led f_law_words_are) [.ref sa, .unb, .unb, .unb, .unb, .unb, .unb, .unb, .unb, .unb, .unb, .unb, .unb] H (NQ Q) (RQ Q) := by
  refine S_cons ?_
  walk_at "st"
  refine hat _ _ _ hs (by decide) fun v0 hv0 => ?_
  walk_at "st"
  refine ⟨by decide, ?_⟩
  have b0 := fmod_pos_bounds v0 (b := 39) (by decide)
  generalize v0.fmod 39 = w0 at b0
  refine S_cut (fun μ H' => ∃ sz : Nat, 2 ≤ sz ∧ sz ≤ 900 ∧ μ = [.ref sa, .int sz, .unb, .unb, .unb, .unb, .unb, .unb, .unb, .unb, .unb, .unb, .unb] ∧ H' = H) ?_ ?_
  · walk_at "st"
    refine hat _ _ _ hs (by decide) fun v1 hv1 => ?_
    walk_at "st"
    refine ⟨by decide, by decide, fun _ => S_cons ?_, fun _ => S_nil ?_⟩
    · walk_at "st"
      exact S_nil ⟨(2 + w0 + 660).toNat, by omega, by omega, by rw [show ((2 + w0 + 660).toNat : Int) = 2 + w0 + 660 from by omega], rfl⟩
    · exact ⟨(2 + w0).toNat, by omega, by omega, by rw [show ((2 + w0).toNat : Int) = 2 + w0 from by omega], rfl⟩
  rintro μ' H' ⟨sz, hz1, hz2, rfl, rfl⟩
  clear b0 w0 hv0 v0
  refine S_cons ?_
  walk_at "st"
  refine ⟨by decide, by omega, by simp [intsV, rangeL]; omega, fun done acc H₁ => ∃ xs : List Int, acc = intsV xs ∧ xs.length = done.length ∧ H₁ = H', ⟨[], rfl, rfl, rfl⟩, fun _ _ _ _ => trivial, ?_, ?_⟩
  · rintro done x rest acc H₁ hitems ⟨xs, rfl, hxl, rfl⟩
    have hx : (intsV (rangeL 0 sz))[done.length]? = some x := by rw [hitems]; simp
    obtain ⟨rfl, h⟩ := rangeL_get hx
    walk_at "st"
    refine ⟨by decide, ?_⟩
    have b1 := fmod_pos_bounds (0 + (done.length : Int)) (b := 50) (by decide)
    refine hat _ _ _ hs (by omega) fun v hv => ?_
    walk_at "st"
    refine ⟨mulOk_r (by decide), mulOk_l (by decide), hnum _ _ _ ?_ fun u hu => ?_⟩
    · have e1 := intBits_mul_le hv (show Builtin.Int.intBits 48271 ≤ 16 by decide)
      have e2 : Builtin.Int.intBits (13 * (0 + (done.length : Int))) ≤ 64 := bits_of (k := 20) (by omega) (by decide)
      exact Nat.le_trans (intBits_add_le e1 e2) (by decide)
    · exact ⟨H₁, LE.refl _, xs ++ [u], by simp [intsV], by simp [hxl], rfl⟩
  rintro acc H₁ ⟨xs, rfl, hxl, rfl⟩ row hrow
  have hxl' : xs.length = sz := by rw [hxl]; simp [intsV, rangeL]
  have hs1 := lk_fresh (o := .list (intsV xs)) hrow hs
  refine S_cons ?_
  walk_at "st"
  refine hat _ _ _ hs1 (by decide) fun v1 hv1 => ?_
  walk_at "st"
  refine ⟨by omega, ?_⟩
  obtain ⟨c1, c2⟩ := fmod_pos_bounds v1 (b := (sz : Int)) (by omega)
  obtain ⟨h, eh⟩ := Int.eq_ofNat_of_zero_le c1
  rw [eh] at c2 ⊢
  have hhl : h < sz := by omega
  refine S_cons ?_
  have hxh : xs[h]? = some xs[h] := List.getElem?_eq_getElem (by omega)
  walk_at "st"
  simp only [lk_same, upd_same, ints_length, ints_get?, ints_set, upd_upd, Int.toNat_natCast, hxh, Option.map_some, hxl']
  refine ⟨by omega, by omega, ?_⟩
  walk_at "st"
  simp only [lk_same, upd_same, ints_length, ints_get?, ints_set, upd_upd, Int.toNat_natCast, hxh, Option.map_some, hxl']
  refine ⟨mulOk_l (by decide), by omega, by omega, hhl, ?_⟩
  generalize hys : xs.set h (2 * xs[h]) = ys
  generalize hee : 2 * xs[h] = e at hys
  have he : e % 2 = 0 := by omega
  have hyl : ys.length = sz := by rw [← hys]; simp [hxl']
  have hyh : ys[h]? = some e := by rw [← hys]; simp [hxl', hhl]
  have hs2 : lk cx (upd H₁ row (.list (intsV ys))) sa = some (.list (intsV ns)) := lk_fresh hrow hs
  have hrw : lk cx (upd H₁ row (.list (intsV ys))) row = some (.list (intsV ys)) := lk_same
  generalize upd H₁ row (.list (intsV ys)) = H₂ at hs2 hrw ⊢
  clear hs1 hys hee hxl hxl' hxh
  refine S_cons ?_
  walk_at "st"
  refine hat _ _ _ hs2 (by decide) fun v2 hv2 => ?_
  walk_at "st"
  refine ⟨by decide, ?_⟩
  generalize v2.fmod 400 = p
  refine S_cons ?_
  walk_at "st"
  refine hat _ _ _ hs2 (by decide) fun v3 hv3 => ?_
  walk_at "st"
  refine ⟨by decide, ?_⟩
  generalize 1 + v3.fmod 6 = stp
  refine S_cons ?_
  walk_at "st"
  refine hat _ _ _ hs2 (by decide) fun v4 hv4 => ?_
  walk_at "st"
  obtain ⟨d1, d2⟩ := fmod_pos_bounds v4 (b := 30) (by decide)
  refine ⟨by decide, by decide, by omega, by simp [intsV, rangeL]; omega, fun done acc H₃ => (∃ cs : List Nat, acc = intsV (cs.map fun c : Nat => (c : Int)) ∧ (∀ c ∈ cs, c < sz ∧ c ≠ h) ∧ cs.length = done.length) ∧ H₃ = H₂, ⟨⟨[], rfl, by simp, rfl⟩, rfl⟩, fun _ _ _ _ => trivial, ?_, ?_⟩
  · rintro done x rest acc H₃ hitems ⟨⟨cs, rfl, hcs, hcl⟩, rfl⟩
    have hx : (intsV (rangeL 0 (v4.fmod 30)))[done.length]? = some x := by rw [hitems]; simp
    obtain ⟨rfl, hlt⟩ := rangeL_get hx
    walk_at "st"
    have hmul : IntMulOk (0 + (done.length : Int)) stp := mulOk_l (bits_of (k := 20) (by omega) (by decide))
    refine ⟨hmul, hat _ _ _ hs2 (by decide) fun v hv => ?_⟩
    walk_at "st"
    generalize (0 + (done.length : Int)) * stp + v = t
    refine ⟨by omega, by omega, ?_⟩
    obtain ⟨e1, e2⟩ := fmod_pos_bounds t (b := (sz : Int) - 1) (by omega)
    generalize t.fmod ((sz : Int) - 1) = t' at e1 e2
    obtain ⟨g1, g2⟩ := fmod_pos_bounds ((h : Int) + 1 + t') (b := (sz : Int)) (by omega)
    have hne : ((h : Int) + 1 + t').fmod sz ≠ h := by
      rw [Int.fmod_eq_emod_of_nonneg _ (by omega)]
      by_cases q : (h : Int) + 1 + t' < sz
      · rw [Int.emod_eq_of_lt (by omega) q]; omega
      · have : ((h : Int) + 1 + t') % sz = ((h : Int) + 1 + t' - sz) % sz := by rw [Int.sub_emod_right]
        rw [this, Int.emod_eq_of_lt (by omega) (by omega)]; omega
    obtain ⟨c, ec⟩ := Int.eq_ofNat_of_zero_le g1
    rw [ec] at g2 hne ⊢
    refine ⟨H₃, LE.refl _, ⟨cs ++ [c], by simp [intsV], ?_, by simp [hcl]⟩, rfl⟩
    intro y hy
    rcases List.mem_append.mp hy with hy | hy
    · exact hcs y hy
    · have := List.mem_singleton.mp hy
      subst this
      exact ⟨by omega, by omega⟩
  rintro acc H₃ ⟨⟨cs0, rfl, hcs0, hcl0⟩, rfl⟩ cells0 hcells0
  have hcl0 : cs0.length ≤ 30 := by rw [hcl0]; simp [intsV, rangeL]; omega
  refine S_cut (fun μ H' => ∃ (cells : Addr) (cs : List Nat), μ = [.ref sa, .int sz, .ref row, .int h, .int p, .int stp, .ref cells, .unb, .unb, .unb, .unb, .unb, .unb] ∧ lk cx H' cells = some (.list (intsV (cs.map fun c : Nat => (c : Int)))) ∧ (∀ c ∈ cs, c < sz ∧ c ≠ h) ∧ cs.length ≤ 30 ∧ lk cx H' row = some (.list (intsV ys))) ?_ ?_
  · walk_at "st"
    refine hat _ _ _ (lk_fresh hcells0 hs2) (by decide) fun v hv => ?_
    walk_at "st"
    refine ⟨by decide, by decide, fun _ => S_cons ?_, fun _ => S_nil ?_⟩
    · walk_at "st"
      refine ⟨by simp, fun r hr => S_nil ⟨r, [], rfl, lk_same, by simp, by simp, lk_fresh hr (lk_fresh hcells0 hrw)⟩⟩
    · exact ⟨cells0, cs0, rfl, lk_same, hcs0, hcl0, lk_fresh hcells0 hrw⟩
  rintro μ' H' ⟨cells, cs, rfl, hcells, hcs, hcl, hrw⟩
  clear hcs0 hcl0 hcells0 hs2 hs hrow
  refine S_cons ?_
  walk_at "st"
  simp only [hrw, ints_length, hyl]
  refine ⟨by omega, fun due hdue => S_cons ?_⟩
  walk_at "st"
  simp only [lk_fresh hdue hrw, ints_length, hyl]
  refine ⟨by omega, fun chain hchain => S_cons ?_⟩
  walk_at "st"
  refine ⟨by simp, fun seen hseen => ?_⟩
  have hcells1 := lk_fresh (o := .list []) hseen (lk_fresh (o := .list (intsV ys)) hchain (lk_fresh (o := .list (intsV ys)) hdue hcells))
  have n1 : due ≠ chain := hchain.ne lk_same
  have n2 : due ≠ seen := hseen.ne (o := .list (intsV ys)) (by rw [lk_ne n1, lk_same])
  have n3 : chain ≠ seen := hseen.ne lk_same
  have n4 : cells ≠ due := hdue.ne hcells
  have n5 : cells ≠ chain := hchain.ne (lk_fresh hdue hcells)
  have n6 : cells ≠ seen := hseen.ne (lk_fresh hchain (lk_fresh hdue hcells))
  have inv0 : Inv3 cx h e p sz row due chain cells seen (intsV (cs.map fun c : Nat => (c : Int))) 0 (upd (upd (upd H' due (.list (intsV ys))) chain (.list (intsV ys))) seen (.list [])) :=
    ⟨⟨ys, ys, [], e, by rw [upd_ne _ n2, upd_ne _ n1, upd_same], by rw [upd_ne _ n3, upd_same], lk_same, hyl, hyl, hyh, rfl, List.nodup_nil, by simp, by
      rw [setAll_nil]
      apply List.ext_getElem?; intro i
      rw [List.getElem?_set]
      by_cases q : h = i
      · subst q; rw [if_pos rfl, if_pos (by omega)]; exact hyh.symm
      · simp [q], by simp⟩, hcells1, n1, n4, n5, Ne.symm n2, Ne.symm n3⟩
  generalize upd (upd (upd H' due (.list (intsV ys))) chain (.list (intsV ys))) seen (.list []) = H4 at inv0 ⊢
  clear hcells1 hseen hchain hdue hcells hrw
  refine S_cut (fun μ H' => ∃ (z : V) (seen : Addr), μ = [.ref sa, .int sz, .ref row, .int h, .int p, .int stp, .ref cells, .ref due, .ref chain, .ref seen, z, .unb, .unb] ∧ Inv3 cx h e p sz row due chain cells seen (intsV (cs.map fun c : Nat => (c : Int))) 30 H') ?_ ?_
  · walk_at "st"
    simp only [inv0.items]
    refine ⟨by simp [intsV]; omega, fun done μ H' => ∃ (z : V) (seen : Addr), μ = [.ref sa, .int sz, .ref row, .int h, .int p, .int stp, .ref cells, .ref due, .ref chain, .ref seen, z, .unb, .unb] ∧ Inv3 cx h e p sz row due chain cells seen (intsV (cs.map fun c : Nat => (c : Int))) done.length H', ⟨_, _, rfl, inv0⟩, ?_, ?_, ?_⟩
    · rintro done μ H' ⟨z, seen, rfl, I⟩; exact I.items
    · rintro done x rest μ H5 hitems ⟨z, seen', rfl, I⟩
      obtain ⟨c, rfl, hcsz, hch⟩ : ∃ c : Nat, x = .int c ∧ c < sz ∧ c ≠ h := by
        have hm : x ∈ intsV (cs.map fun c : Nat => (c : Int)) := by rw [hitems]; simp
        obtain ⟨_, hm1, rfl⟩ := List.mem_map.mp hm
        obtain ⟨c, hc, rfl⟩ := List.mem_map.mp hm1
        exact ⟨c, rfl, hcs c hc⟩
      obtain ⟨⟨zs, ds, cc, w, hdue, hchain, hseen, hzl, hdl, hzh, hcn, hnd, hhn, hset, hccl⟩, hit, m1, m2, m3, m4, m5⟩ := I
      refine S_cons ?_
      walk_at "st"
      simp only [hseen, asInts_ints, Option.map_some]
      have hmem : (cc.reverse.map fun c : Nat => (c : Int)).contains (c : Int) = decide (c ∈ cc) := by
        rw [Bool.eq_iff_iff, List.contains_iff_mem, decide_eq_true_iff, List.mem_map]
        exact ⟨fun ⟨y, hy, ey⟩ => by rw [← Int.ofNat_inj.mp ey]; exact List.mem_reverse.mp hy, fun hy => ⟨c, List.mem_reverse.mpr hy, rfl⟩⟩
      rw [hmem]
      by_cases hin : c ∈ cc
      · rw [decide_eq_true hin]
        refine ⟨fun q => (by cases q), fun _ => S_nil (S_nil ⟨_, LE.refl _, _, _, rfl, ⟨zs, ds, cc, w, hdue, hchain, hseen, hzl, hdl, hzh, hcn, hnd, hhn, hset, by simp; omega⟩, hit, m1, m2, m3, m4, m5⟩)⟩
      · rw [decide_eq_false hin]
        refine ⟨fun _ => S_cons ?_, fun q => by cases q⟩
        walk_at "st"
        refine ⟨by simp, fun r1 hr1 => ?_⟩
        simp only [lk_fresh hr1 hseen, lk_same]
        have hdn : done.length < 31 := by have := congrArg List.length hitems; simp [intsV] at this; omega
        refine ⟨by simp [intsV]; omega, fun r2 hr2 => S_cons ?_⟩
        have k1 : r2 ≠ due := fun q => hr2.ne (lk_fresh (o := .list [.int c]) hr1 (lk_of hdue)) q.symm
        have k2 : r2 ≠ chain := fun q => hr2.ne (lk_fresh (o := .list [.int c]) hr1 (lk_of hchain)) q.symm
        have hit2 := lk_fresh (o := .list (intsV (cc.reverse.map fun c : Nat => (c : Int)) ++ [.int c])) hr2 (lk_fresh (o := .list [.int c]) hr1 hit)
        have hsn : lk cx (upd (upd H5 r1 (.list [.int c])) r2 (.list (intsV (cc.reverse.map fun c : Nat => (c : Int)) ++ [.int c]))) r2 = some (.list (intsV ((c :: cc).reverse.map fun c : Nat => (c : Int)))) := by rw [lk_same]; simp [intsV]
        have hdue2 : (upd (upd H5 r1 (.list [.int c])) r2 (.list (intsV (cc.reverse.map fun c : Nat => (c : Int)) ++ [.int c]))) due = some (.list (intsV ds)) := by rw [upd_ne _ (Ne.symm k1), upd_ne _ (hr1.ne' hdue)]; exact hdue
        have hchain2 : (upd (upd H5 r1 (.list [.int c])) r2 (.list (intsV (cc.reverse.map fun c : Nat => (c : Int)) ++ [.int c]))) chain = some (.list (intsV zs)) := by rw [upd_ne _ (Ne.symm k2), upd_ne _ (hr1.ne' hchain)]; exact hchain
        generalize upd (upd H5 r1 (.list [.int c])) r2 (.list (intsV (cc.reverse.map fun c : Nat => (c : Int)) ++ [.int c])) = H6 at hit2 hsn hdue2 hchain2 ⊢
        walk_at "st"
        simp only [hdue2, ints_length, Int.toNat_natCast, ints_set, hdl]
        refine ⟨mulOk_l (by decide), by omega, by omega, hcsz, S_cons ?_⟩
        walk_at "st"
        have hchain3 : (upd H6 due (.list (intsV (ds.set c (2 * p + 1))))) chain = some (.list (intsV zs)) := by rw [upd_ne _ (Ne.symm m1)]; exact hchain2
        simp only [lk_of hchain3, hchain3, ints_length, ints_get?, Int.toNat_natCast, ints_set, hzh, Option.map_some, hzl]
        refine ⟨by omega, by omega, by omega, by omega, hcsz, S_cons ?_⟩
        walk_at "st"
        simp only [upd_same, ints_length, Int.toNat_natCast, ints_set, upd_upd, List.length_set, hzl]
        refine ⟨mulOk_l (by decide), by omega, by omega, hhl, S_nil (S_nil ⟨_, LE.refl _, _, r2, rfl, ⟨(zs.set c w).set h (2 * (c : Int) + 1), ds.set c (2 * p + 1), c :: cc, 2 * (c : Int) + 1, ?_, upd_same _ _ _, ?_, by simp [hzl], by simp [hdl], by simp [hzl, hhl], ⟨rfl, w, ?_, ?_⟩, List.nodup_cons.mpr ⟨hin, hnd⟩, ?_, ?_, ?_⟩, ?_, m1, m2, m3, k1, k2⟩)⟩
        · rw [upd_ne _ m1, upd_same]
        · rw [lk_ne k2, lk_ne k1]; exact hsn
        · rw [List.getElem?_set_ne (Ne.symm hch)]; simp [hzl, hcsz]
        · exact Chain.set hhn (Chain.set hin hcn)
        · simp only [List.mem_cons, not_or]; exact ⟨Ne.symm hch, hhn⟩
        · rw [← setAll_cons, List.set_comm _ _ hch, List.set_set, List.set_comm _ _ (Ne.symm hch), setAll_set _ hhn, setAll_set _ hin, List.set_set, ← hset, List.set_comm _ _ hch]
        · simp only [List.length_cons, List.length_append, List.length_nil]; omega
        · rw [lk_ne m3, lk_ne m2]; exact hit2
    · rintro μ H' ⟨z, seen, rfl, ⟨zs, ds, cc, w, i1, i2, i3, i4, i5, i6, i7, i8, i9, i10, i11⟩, j1, j2, j3, j4, j5, j6⟩
      exact ⟨z, seen, rfl, ⟨zs, ds, cc, w, i1, i2, i3, i4, i5, i6, i7, i8, i9, i10, by simp [intsV] at i11; omega⟩, j1, j2, j3, j4, j5, j6⟩
  rintro μ' H' ⟨z, seen', rfl, ⟨zs, ds, cc, w, hdue, hchain, hseen, hzl, hdl, hzh, hcn, hnd, hhn, hset, hccl⟩, hit, m1, m2, m3, m4, m5⟩
  refine S_cons ?_
  walk_at "st"
  simp only [lk_of hchain, ints_length, hzl]
  refine ⟨by omega, fun hand hhand => S_cons ?_⟩
  walk_at "st"
  refine hl _ zs h p w e cc _ _ lk_same (by omega) hzh hcn hnd hhn he fun fnd hfnd => ?_
  have q1 : hand ≠ fnd := hfnd.ne lk_same
  refine S_cons ?_
  walk_at "st"
  refine hw _ _ ds _ _ (by rw [upd_same, hset]) (lk_fresh hfnd (lk_fresh hhand (lk_of hdue))) (by omega) ?_
  walk_at "st"
  refine S_nil (S_cons ?_)
  walk_at "st"
  simp only [upd_same, upd_upd, ints_length, List.length_set, setAll_length, hzl]
  refine ⟨trivial, by omega, S_cons ?_⟩
  walk_at "st"
  refine hw _ _ zs _ _ (by rw [upd_ne _ q1, upd_same]) (lk_fresh hfnd (lk_fresh hhand (lk_of hchain))) (by omega) ?_
  exact RQ.here (hQ _)
end
end Mine
end

section
open PySem PySem.W PyProof.Rows
namespace Mine

def fdAt (K : Frag) (f : Addr) : FuncData := match K.lookup f with
  | some ⟨_, _, .func fd, _⟩ => fd
  | _ => default
def bodyOf (fd : FuncData) : List Stmt := match fd.body with
  | .stmts b => b
  | _ => []
def codeOk (K : Frag) (fd : FuncData) : Bool := match fd.code with
  | .ref c => match K.lookup c with
    | some ⟨_, _, .fields vs, _⟩ => match (vs[1]? : Option Value) with
      | some (.str q _) => q == fd.qualname
      | _ => false
    | _ => false
  | _ => false
def isStmts (fd : FuncData) : Bool := match fd.body with
  | .stmts _ => true
  | _ => false
def isFunc (K : Frag) (f : Addr) : Bool := match K.lookup f with
  | some ⟨_, _, .func _, _⟩ => true
  | _ => false
def defOk (K : Frag) (f : Addr) : Bool := isFunc K f && Nat.beq (fdAt K f).globals mainGlobals && Nat.beq (fdAt K f).builtins builtinsNs && (fdAt K f).closure.isEmpty && codeOk K (fdAt K f) && isStmts (fdAt K f) &&
  decide ((fdAt K f).scope.kind = .function) && !(fdAt K f).scope.isCoroutine && !(fdAt K f).scope.isGenerator

theorem def_of {cx : Cx} {K : Frag} (X : K.In cx.base) {f : Addr} (h : defOk K f = true) (ps : List Str) (hb : ∀ vs : List Value, vs.length = ps.length → bindArgs (fdAt K f) ⟨vs, []⟩ = pure (ps.zip vs)) :
    Def cx f ps (bodyOf (fdAt K f)) (fdAt K f).scope := by
  simp only [defOk, Bool.and_eq_true, Bool.not_eq_true', decide_eq_true_eq] at h
  obtain ⟨⟨⟨⟨⟨⟨⟨⟨h1, h2⟩, h3⟩, h4⟩, h5⟩, h6⟩, h7⟩, h8⟩, h9⟩ := h
  refine ⟨?_, h7, h8, h9⟩
  unfold isFunc at h1
  split at h1
  · rename_i c d fd sl e
    have efd : fdAt K f = fd := by unfold fdAt; rw [e]
    rw [efd] at h2 h3 h4 h5 h6 hb ⊢
    refine ⟨_, fd, X _ _ e, rfl, ?_, rfl, Nat.eq_of_beq_eq_true h2, Nat.eq_of_beq_eq_true h3, by simpa using h4, ?_, hb⟩
    · unfold isStmts at h6
      unfold bodyOf
      split at h6
      · rename_i q; rw [q]
      · cases h6
    · unfold codeOk at h5
      split at h5
      · rename_i cc ec
        split at h5
        · rename_i e2
          split at h5
          · rename_i q t e3
            rw [ec]
            exact ⟨cc, _, _, t, rfl, X _ _ e2, rfl, by rw [e3, eq_of_beq h5]⟩
          · cases h5
        · cases h5
      · cases h5
  · cases h1

/-- a global name, as the head's facts tell it -/
def GT := List (Str × Value)
def GT.all (h : Heap) : List (Str × Value) → Prop
  | [] => True
  | (x, v) :: r => GlobAt h x v ∧ GT.all h r
theorem GT.at {h : Heap} : ∀ {l : List (Str × Value)}, GT.all h l → ∀ x v, l.lookup x = some v → GlobAt h x v
  | (y, w) :: r, a, x, v, e => by
    rw [List.lookup_cons] at e
    cases hb : x == y with
    | true => rw [hb] at e; cases e; rw [eq_of_beq hb]; exact a.1
    | false => rw [hb] at e; exact GT.at a.2 x v e

theorem glob_K {p : Program} {loose : List Str} {mean : ExcName → Option Value} {mg mb : Str → Option Value} {h : Heap} (T : Top p loose mean mg mb h) {K : Frag} (X : K.In h) {x : Str} {v : Value} (e : nsIn K mainGlobals x = some (some v)) : GlobAt h x v :=
  .inl ⟨mg, T.g, mg_of X T.g e⟩
theorem glob_B {p : Program} {loose : List Str} {mean : ExcName → Option Value} {mg mb : Str → Option Value} {h : Heap} (T : Top p loose mean mg mb h) {K : Frag} (X : K.In h) {x : Str} {v : Value} (e : nsIn K mainGlobals x = some none) (hv : bootBuiltins x = some v) (hn : x ≠ "__name__") : GlobAt h x v :=
  .inr ⟨mg, mb, T.g, mg_none_of X T.g e, T.b, (T.builtins x hn).trans hv⟩

theorem ints_of : ∀ {vs : List Value} {ns : List Int}, IntsAre vs ns → vs.map abs = intsV ns
  | _, _, .nil => rfl
  | _, _, .cons n t r => by simp only [List.map_cons, intsV, abs]; rw [ints_of r]; rfl

theorem law_good {l : OpenLaw} {cl : Str → Option Addr} {mean : ExcName → Option Value} {args : List WData} {s₁ s' : Shared} (hk : ∀ b o, s₁.heap.get? b = some o → s'.heap.get? b = some o) (hos : s'.os = s₁.os) (hg : s'.gens = #[]) :
    GoodWG l.row.claim cl mean args s₁ (.ok (.ret (.bool true))) s' :=
  GoodW.toG ⟨.inl ⟨.bool true, .bool true, [], rfl, raisesW_false (fun _ h => nomatch h), .bool true, postW_of (X := (true == true)) rfl (w_eq_bool (w_res rfl) w_lit) rfl, fun _ => ⟨.nil, fun _ h => nomatch h⟩⟩, hk, hos, hg⟩

theorem law_end {l : OpenLaw} {cl : Str → Option Addr} {mean : ExcName → Option Value} {args : List WData} {cx : Cx} {s₁ : Shared} (hb : cx.base = s₁.heap) (hg : s₁.gens = #[]) {f sa : Addr} {n : Nat} (hn : n ≤ 100)
    (h : CallP cx n f [.ref sa] (fun _ => none) fun v _ => v = .bool true) : codeAny (model cx.prog cx.w) callerA (.call (.ref f) ⟨[.ref sa], []⟩) (GoodWG l.row.claim cl mean args s₁) s₁ := by
  refine codeAny_mono (h callerA s₁ [.ref sa] ⟨rfl, by show 1 + claimMargin + n < 850; unfold claimMargin; omega, by show 4 + 16 * n < 9000; omega, [], rfl⟩ ⟨fun _ _ e => (nomatch e), fun b o e => by rw [hb] at e; exact e, fun _ _ e => (nomatch e)⟩ rfl) fun r s' hr => ?_
  obtain ⟨v, H', rfl, S, k, hv⟩ := hr
  have := abs_bool hv; subst this
  exact law_good (fun b o e => k.keep b o e rfl id) k.os (k.gens.trans hg)
end Mine
end

section
open PySem PySem.W PyProof.Rows
namespace Mine
def bt : List (Str × Value) := [("len", .builtin "len"), ("list", .type "list"), ("int", .type "int"), ("tuple", .type "tuple"), ("isinstance", .builtin "isinstance"), ("range", .type "range"), ("sum", .builtin "sum"), ("max", .builtin "max"), ("min", .builtin "min")]
def stdB : List (Str × BF) := [("len", .len), ("list", .list), ("int", .int), ("sum", .sum), ("max", .max), ("min", .min)]
def stdT : List (Str × String) := [("int", "int"), ("list", "list"), ("tuple", "tuple")]
theorem script_obj {P : Params} {h : Heap} {sa : Addr} {vs : List Value} {ns : List Int} (hW : Well P h (.ref sa) (ofPy (PyData.list (ns.map PyData.int)))) (hL : h.IsList sa vs.toArray) (hI : IntsAre vs ns) : Rep h sa (.list (intsV ns)) := by
  generalize hd : ofPy (PyData.list (ns.map PyData.int)) = d at hW
  obtain ⟨o, ho, hc, k, hk⟩ := hL
  cases hW with
  | list e _ =>
    rw [ho] at e
    cases e
    simp only at hk
    cases hk
    exact ⟨_, _, ho, by simpa using ints_of hI⟩
  | _ => first | (rename_i e _; rw [ho] at e; cases e; simp at hc; done) | (rename_i e; rw [ho] at e; cases e; simp at hc; done) | (simp [ofPy] at hd)

theorem lookup_app {x : Str} {f : Addr} : ∀ {fns : List (Str × Addr)} {r : List (Str × Value)}, fns.lookup x = some f → (fns.map (fun p => (p.1, Value.ref p.2)) ++ r).lookup x = some (.ref f)
  | (y, g) :: l, r, e => by
    rw [List.lookup_cons] at e
    rw [List.map_cons, List.cons_append, List.lookup_cons]
    cases hb : x == y with
    | true => rw [hb] at e; cases e; rfl
    | false => rw [hb] at e; exact lookup_app e

theorem tbl_ok {cx : Cx} {K : Frag} (X : K.In cx.base) {fns : List (Str × Addr)} {r : List (Str × Value)} {bs : List (Str × BF)} {ts : List (Str × String)} (hg : cx.gl = fun x => (fns.map (fun p => (p.1, Value.ref p.2)) ++ r).lookup x)
    (h1 : (fns.all fun p => isFunc K p.2) = true) (h2 : (bs.all fun p => decide ((fns.map (fun p => (p.1, Value.ref p.2)) ++ r).lookup p.1 = some p.2.val)) = true)
    (h3 : (ts.all fun p => decide ((fns.map (fun p => (p.1, Value.ref p.2)) ++ r).lookup p.1 = some (.type p.2))) = true)
    (h4 : (fns.map (fun p => (p.1, Value.ref p.2)) ++ r).lookup ("isinstance" : Str) = some (.builtin "isinstance")) (h5 : (fns.map (fun p => (p.1, Value.ref p.2)) ++ r).lookup ("range" : Str) = some (.type "range")) : Tbl.OK cx ⟨fns, bs, ts⟩ := by
  refine ⟨fun x f e => ⟨by rw [hg]; exact lookup_app e, ?_⟩, fun x b e => ?_, fun x b e => ?_, by rw [hg]; exact h4, by rw [hg]; exact h5⟩
  · have := List.all_eq_true.mp h1 _ (lookup_mem e)
    unfold isFunc at this
    split at this
    · rename_i c d fd sl q
      exact ⟨_, fd, X _ _ q, rfl⟩
    · cases this
  · rw [hg]; exact of_decide_eq_true (List.all_eq_true.mp h2 _ (lookup_mem e))
  · rw [hg]; exact of_decide_eq_true (List.all_eq_true.mp h3 _ (lookup_mem e))

theorem arity1 {fd : FuncData} {p : Str} (h : ∀ a, bindArgs fd ⟨[a], []⟩ = pure [(p, a)]) : ∀ vs : List Value, vs.length = [p].length → bindArgs fd ⟨vs, []⟩ = pure ([p].zip vs)
  | [a], _ => h a
theorem arity2 {fd : FuncData} {p q : Str} (h : ∀ a b, bindArgs fd ⟨[a, b], []⟩ = pure [(p, a), (q, b)]) : ∀ vs : List Value, vs.length = [p, q].length → bindArgs fd ⟨vs, []⟩ = pure ([p, q].zip vs)
  | [a, b], _ => h a b

theorem arity3 {fd : FuncData} {p q r : Str} (h : ∀ a b c, bindArgs fd ⟨[a, b, c], []⟩ = pure [(p, a), (q, b), (r, c)]) : ∀ vs : List Value, vs.length = [p, q, r].length → bindArgs fd ⟨vs, []⟩ = pure ([p, q, r].zip vs)
  | [a, b, c], _ => h a b c
theorem arity4 {fd : FuncData} {p q r t : Str} (h : ∀ a b c d, bindArgs fd ⟨[a, b, c, d], []⟩ = pure [(p, a), (q, b), (r, c), (t, d)]) : ∀ vs : List Value, vs.length = [p, q, r, t].length → bindArgs fd ⟨vs, []⟩ = pure ([p, q, r, t].zip vs)
  | [a, b, c, d], _ => h a b c d
theorem cx_ok {pr : Program} {w : World} {s₁ : Shared} {p : Program} {loose : List Str} {mean : ExcName → Option Value} {mg mb : Str → Option Value} (T : Top p loose mean mg mb s₁.heap) (hseer : s₁.heap.NoSeer) {gl : List (Str × Value)} (hg : GT.all s₁.heap gl)
    {sa : Addr} {vs : List Value} {ns : List Int} (hW : Well w.params s₁.heap (.ref sa) (ofPy (PyData.list (ns.map PyData.int)))) (hL : s₁.heap.IsList sa vs.toArray) (hI : IntsAre vs ns) (ht : pr.given.tree = none) :
    Cx.OK ⟨pr, w, s₁.heap, fun a => if a = sa then some (intsV ns) else none, fun x => gl.lookup x⟩ := ⟨T.nolimit, hseer, ht, GT.at hg, fun a vs' e => by
    show Rep s₁.heap a (.list vs')
    have e' : (if a = sa then some (intsV ns) else none) = some vs' := e
    split at e'
    · rename_i h; subst h; cases e'; exact script_obj hW hL hI
    · cases e'⟩
end Mine
end

open PySem PySem.W PyProof.Rows
set_option maxRecDepth 100000
set_option maxHeartbeats 8000000
namespace Mine
open_top hd for PySem.Challenge.rw_uf060004_03
end Mine

open PySem PySem.W PyProof.Rows
set_option maxRecDepth 100000
set_option maxHeartbeats 8000000
namespace Mine
def fns : List (Str × Addr) := [("link_word", 21), ("is_link", 28), ("told_by", 35), ("led", 42), ("_law_at", 49), ("_law_is_int", 56), ("_law_words_are", 61), ("_law_number", 68), ("law", 73)]
def gl0 : List (Str × Value) := fns.map (fun p => (p.1, Value.ref p.2)) ++ bt
def T0 : Tbl := ⟨fns, stdB, stdT⟩
abbrev cx0 (w : World) (s₁ : Shared) (sa : Addr) (ns : List Int) : Cx := ⟨PySem.Challenge.pw_uf060004_03, w, s₁.heap, fun a => if a = sa then some (intsV ns) else none, fun x => gl0.lookup x⟩
theorem glob0 {w : World} {s₁ : Shared} {p : Program} {loose : List Str} {mean : ExcName → Option Value} {mg mb : Str → Option Value} (T : Top p loose mean mg mb s₁.heap) (KX : (hd.heap_39 w.params).In s₁.heap) : GT.all s₁.heap gl0 := by
  refine ⟨glob_K T KX (by kernel_rfl), glob_K T KX (by kernel_rfl), glob_K T KX (by kernel_rfl), glob_K T KX (by kernel_rfl), glob_K T KX (by kernel_rfl), glob_K T KX (by kernel_rfl), glob_K T KX (by kernel_rfl), glob_K T KX (by kernel_rfl), glob_K T KX (by kernel_rfl),
    glob_B T KX (by kernel_rfl) (by decide +kernel) (by decide), glob_B T KX (by kernel_rfl) (by decide +kernel) (by decide), glob_B T KX (by kernel_rfl) (by decide +kernel) (by decide), glob_B T KX (by kernel_rfl) (by decide +kernel) (by decide), glob_B T KX (by kernel_rfl) (by decide +kernel) (by decide), glob_B T KX (by kernel_rfl) (by decide +kernel) (by decide), glob_B T KX (by kernel_rfl) (by decide +kernel) (by decide), glob_B T KX (by kernel_rfl) (by decide +kernel) (by decide), glob_B T KX (by kernel_rfl) (by decide +kernel) (by decide), trivial⟩
section
variable {w : World} {s₁ : Shared} {sa : Addr} {ns : List Int}
theorem d_link_word (KX : (hd.heap_39 w.params).In s₁.heap) : Def (cx0 w s₁ sa ns) 21 ["place"] (bodyOf (fdAt (hd.heap_39 w.params) 21)) (fdAt (hd.heap_39 w.params) 21).scope := def_of KX (by kernel_rfl) _ (arity1 fun a => by kernel_rfl)
theorem d_is_link (KX : (hd.heap_39 w.params).In s₁.heap) : Def (cx0 w s₁ sa ns) 28 ["word"] (bodyOf (fdAt (hd.heap_39 w.params) 28)) (fdAt (hd.heap_39 w.params) 28).scope := def_of KX (by kernel_rfl) _ (arity1 fun a => by kernel_rfl)
theorem d_told_by (KX : (hd.heap_39 w.params).In s₁.heap) : Def (cx0 w s₁ sa ns) 35 ["word"] (bodyOf (fdAt (hd.heap_39 w.params) 35)) (fdAt (hd.heap_39 w.params) 35).scope := def_of KX (by kernel_rfl) _ (arity1 fun a => by kernel_rfl)
theorem d_led (KX : (hd.heap_39 w.params).In s₁.heap) : Def (cx0 w s₁ sa ns) 42 ["row", "head", "place"] (bodyOf (fdAt (hd.heap_39 w.params) 42)) (fdAt (hd.heap_39 w.params) 42).scope := def_of KX (by kernel_rfl) _ (arity3 fun a b c => by kernel_rfl)
theorem d_law_at (KX : (hd.heap_39 w.params).In s₁.heap) : Def (cx0 w s₁ sa ns) 49 ["_law_script", "_law_place"] (bodyOf (fdAt (hd.heap_39 w.params) 49)) (fdAt (hd.heap_39 w.params) 49).scope := def_of KX (by kernel_rfl) _ (arity2 fun a b => by kernel_rfl)
theorem d_law_is_int (KX : (hd.heap_39 w.params).In s₁.heap) : Def (cx0 w s₁ sa ns) 56 ["_law_value"] (bodyOf (fdAt (hd.heap_39 w.params) 56)) (fdAt (hd.heap_39 w.params) 56).scope := def_of KX (by kernel_rfl) _ (arity1 fun a => by kernel_rfl)
theorem d_law_words_are (KX : (hd.heap_39 w.params).In s₁.heap) : Def (cx0 w s₁ sa ns) 61 ["_law_found", "_law_due"] (bodyOf (fdAt (hd.heap_39 w.params) 61)) (fdAt (hd.heap_39 w.params) 61).scope := def_of KX (by kernel_rfl) _ (arity2 fun a b => by kernel_rfl)
theorem d_law_number (KX : (hd.heap_39 w.params).In s₁.heap) : Def (cx0 w s₁ sa ns) 68 ["_law_seed"] (bodyOf (fdAt (hd.heap_39 w.params) 68)) (fdAt (hd.heap_39 w.params) 68).scope := def_of KX (by kernel_rfl) _ (arity1 fun a => by kernel_rfl)
theorem d_law (KX : (hd.heap_39 w.params).In s₁.heap) : Def (cx0 w s₁ sa ns) 73 ["_law_script"] (bodyOf (fdAt (hd.heap_39 w.params) 73)) (fdAt (hd.heap_39 w.params) 73).scope := def_of KX (by kernel_rfl) _ (arity1 fun a => by kernel_rfl)
end
-- calls: call_intro C TO (d_NAME KX) (rest := REST) (ms := M) (by decide) (by kernel_rfl) (by kernel_rfl) rfl
-- link_word 21 rest := []
-- is_link 28 rest := []
-- told_by 35 rest := []
-- led 42 rest := ["found", "word", "cell"]
-- _law_at 49 rest := []
-- _law_is_int 56 rest := []
-- _law_words_are 61 rest := []
-- _law_number 68 rest := []
-- law 73 rest := ["_law_size", "_law_row", "_law_head", "_law_place", "_law_step", "_law_cells", "_law_due", "_law_chain", "_law_seen", "_law_at_here", "_law_handed", "_law_found"]
theorem walk0 {w : World} {s₁ : Shared} {p : Program} {loose : List Str} {mean : ExcName → Option Value} {mg mb : Str → Option Value} (T : Top p loose mean mg mb s₁.heap) (hseer : s₁.heap.NoSeer) (KX : (hd.heap_39 w.params).In s₁.heap)
    {sa : Addr} {vs : List Value} {ns : List Int} (hW : Well w.params s₁.heap (.ref sa) (ofPy (PyData.list (ns.map PyData.int)))) (hL : s₁.heap.IsList sa vs.toArray) (hI : IntsAre vs ns) (hlay : (PyData.list (ns.map PyData.int)).layable0 = true) (hlen : ns.length ≤ 63) :
    CallP (cx0 w s₁ sa ns) 9 73 [.ref sa] (fun _ => none) fun v _ => v = .bool true := by
  have C : (cx0 w s₁ sa ns).OK := cx_ok T hseer (glob0 T KX) hW hL hI rfl
  have TO : Tbl.OK (cx0 w s₁ sa ns) T0 := tbl_ok KX rfl (by kernel_rfl) (by kernel_rfl) (by kernel_rfl) (by kernel_rfl) (by kernel_rfl)
  have hbits : ∀ v, (v ∈ ns ∨ v = 0) → Builtin.Int.intBits v ≤ 1048576 := fun v h => h.elim (fun h => intBits_le_of_item h hlay) (fun h => by subst h; decide)
  have s_told : ∀ n, Fn1 (cx0 w s₁ sa ns) (n + 1) 35 fun w => .int (w.fdiv 2) := fun n w' H Q h => call_intro C TO (d_told_by KX) (rest := []) (ms := m_told_by) (by decide) (by kernel_rfl) (by kernel_rfl) rfl (told_ms h)
  have s_link : ∀ n, Fn1 (cx0 w s₁ sa ns) (n + 1) 21 fun p => .int (2 * p + 1) := fun n p H Q h => call_intro C TO (d_link_word KX) (rest := []) (ms := m_link_word) (by decide) (by kernel_rfl) (by kernel_rfl) rfl (link_ms h)
  have s_islink : ∀ n, Fn1 (cx0 w s₁ sa ns) (n + 1) 28 fun w => .bool (w.fmod 2 == 1) := fun n p H Q h => call_intro C TO (d_is_link KX) (rest := []) (ms := m_is_link) (by decide) (by kernel_rfl) (by kernel_rfl) rfl (islink_ms h)
  have s_led : ∀ n, LedSpec (cx0 w s₁ sa ns) (n + 2) 42 := fun n row xs h p w' e cs H Q h1 h2 h3 h4 h5 h6 h7 h8 => call_intro C TO (d_led KX) (rest := ["found", "word", "cell"]) (ms := m_led 28 35 21) (by decide) (by kernel_rfl) (by kernel_rfl) rfl (led_ms (s_islink n) (s_told n) (s_link n) h1 h2 h3 h4 h5 h6 h7 h8)
  have s_at : ∀ n, AtSpec (cx0 w s₁ sa ns) (n + 1) 49 sa ns := fun n p H Q h1 h2 h3 => call_intro C TO (d_law_at KX) (rest := []) (ms := m_law_at) (by decide) (by kernel_rfl) (by kernel_rfl) rfl (at_ms h1 (by omega) h2 fun v hv => h3 v (hbits v hv))
  have s_isint : ∀ n v H Q, Q (.bool true) H → CallP (cx0 w s₁ sa ns) (n + 1) 56 [.int v] H Q := fun n v H Q h => call_intro C TO (d_law_is_int KX) (rest := []) (ms := m_law_is_int) (by decide) (by kernel_rfl) (by kernel_rfl) rfl (isint_ms h)
  have s_words : ∀ n, WordsSpec (cx0 w s₁ sa ns) (n + 2) 61 := fun n fa da xs H Q h1 h2 h3 h4 => call_intro C TO (d_law_words_are KX) (rest := []) (ms := m_law_words_are 56) (by decide) (by kernel_rfl) (by kernel_rfl) rfl (words_ms (s_isint n) h1 h2 h3 h4)
  have s_num : ∀ n, NumSpec (cx0 w s₁ sa ns) (n + 1) 68 := fun n s H Q h1 h2 => call_intro C TO (d_law_number KX) (rest := []) (ms := m_law_number) (by decide) (by kernel_rfl) (by kernel_rfl) rfl (number_ms h1 h2)
  refine call_intro C TO (d_law KX) (rest := ["_law_size", "_law_row", "_law_head", "_law_place", "_law_step", "_law_cells", "_law_due", "_law_chain", "_law_seen", "_law_at_here", "_law_handed", "_law_found"]) (ms := m_law3 49 68 42 61) (by decide) (by kernel_rfl) (by kernel_rfl) rfl ?_
  exact law3_ms (s_at 7) (s_num 7) (s_words 6) (s_led 6) (by simp [lk]) fun _ => rfl
end Mine

theorem PySem.Challenge.cw_uf060004_03_holds : PySem.Challenge.rw_uf060004_03.Holds := by
  refine Mine.hd ?_
  intro w s₀ s₁ mg mb G Y fa o pm cd doc dV kV ho hd hcd hD hmg hg args vals as hpre hlay hrd hwl hlo
  have KX := kIn_of Y
  refine Ground.open G ?_
  intro T B D TE TW
  wrow_args hpre hlay hrd hwl hlo
  refine enter_call ?_
  rename_i ns _ _ hlay _ _ _ _ sa vs _ hL _ hW _ hI _ hlen _
  have hfa : fa = 73 := by
    have h1 : mg ("law" : Str) = some (.ref fa) := hmg
    have h2 : mg ("law" : Str) = some (.ref 73) := mg_of KX T.g (by kernel_rfl)
    rw [h1] at h2; cases h2; rfl
  subst hfa
  exact Mine.law_end (cx := Mine.cx0 w s₁ sa ns) rfl hg (by decide) (Mine.walk0 T (T.seer (by decide +kernel)) KX hW hL hI hlay (by omega))

