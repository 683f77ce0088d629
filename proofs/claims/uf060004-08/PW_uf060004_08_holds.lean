import PyProof.Rows.All
import Wide.All
import OpenK.KWalk
import Wide.FinOn
import KE.IntBitsLaws
import PyProof.Comp
import PyProof.CompFree
import PyProof.SliceList
import PyProof.Cells
import PyProof.Seq
import PyProof.RangeIter
import PyProof.Rules3
import PyProof.ListIndex
import PyProof.PlainList
import PyProof.Rows.Globals
import PyProof.NoPylong
import PyProof.DictRoads
import PyProof.DictTable
import PyProof.SeqI3
import PyProof.P3Statements
import PyProof.ListOps
import PyProof.WalkInts
import PyProof.EqAt
import PyProof.IsiPairs
import PyProof.IsiHeapPairs
import PyProof.Rows.RuleB_mul
import PyProof.Rows.RuleB_mod
import PyProof.Rows.RuleB_floordiv
import PyProof.Rows.RuleB_pow
import PyProof.Rows.RuleC_int
import PyProof.Rows.RuleC_bool
import PyProof.Rows.RuleU_int
import PyProof.Rows.IntRules
import PyProof.Rows.StrRules
import PyProof.IsRules
import PyProof.Rows.StrTemp
import PyProof.Rows.TupSub
import PyProof.Rows.ListMul
import PyProof.Conv_int_bool
import PyProof.Rows.Tup
import PyProof.Rows.Chain
import PyProof.Rows.Nodes
import PyProof.EqKinds
import PyProof.IsiNone
import PyProof.Rows.RuleIs
import PyProof.Rows.EqDataRows
import PyProof.ListCopy
import PyProof.SeqI
import PyProof.FactsAll.list_0
import PyProof.FactsAll.list_3
import PyProof.CallRoads
import PyProof.Rows.TupMore
import PyProof.Rows.CatchBare
import PyProof.RulesDelMore
import PyProof.Rows.ExtendIn
import PyProof.RangeFor
import PyProof.WalksMore
import PyProof.CompMap
import PyProof.StationsW
import PyProof.ExcBaseAll.ValueError
import PyProof.CompUse
import PyProof.AssignAttr
import PyProof.Rows.Walk
import PySem.Challenge.RW_uf060004_08
set_option Elab.async false
section
open PySem PySem.W PyProof.Rows
set_option maxRecDepth 100000
set_option maxHeartbeats 8000000
namespace Mine
noncomputable def clsI (i : Nat) : List Stmt := match PySem.Challenge.pw_uf060004_08.main.body[i]? with
  | some (.ClassDef _ _ _ b _ _ _ _ _ _ _) => b
  | _ => []
noncomputable def clsB : List Stmt := clsI 32
noncomputable def dP (i : Nat) : PySem.Arguments := match PySem.Challenge.pw_uf060004_08.main.body[i]? with
  | some (.FunctionDef _ x _ _ _ _ _ _ _ _) => x
  | _ => default
noncomputable def dPm (i : Nat) : PySem.Arguments := match clsB[i]? with
  | some (.FunctionDef _ x _ _ _ _ _ _ _ _) => x
  | _ => default
noncomputable def dB (i : Nat) : List Stmt := match PySem.Challenge.pw_uf060004_08.main.body[i]? with
  | some (.FunctionDef _ _ x _ _ _ _ _ _ _) => x
  | _ => []
noncomputable def dBm (i : Nat) : List Stmt := match clsB[i]? with
  | some (.FunctionDef _ _ x _ _ _ _ _ _ _) => x
  | _ => []
noncomputable def dS (i : Nat) : Scope := match PySem.Challenge.pw_uf060004_08.main.body[i]? with
  | some (.FunctionDef _ _ _ _ _ _ x _ _ _) => x
  | _ => default
noncomputable def dSm (i : Nat) : Scope := match clsB[i]? with
  | some (.FunctionDef _ _ _ _ _ _ x _ _ _) => x
  | _ => default
noncomputable def kk (P : PySem.Params) : Frag := [(3, { cls := PySem.Value.type "dict", data := PySem.Data.dict #[{ hash := PySem.PyData.keyHash P (PySem.Str.ofString "__name__"), key := PySem.Value.str (PySem.Str.ofString "__name__") 165, val := PySem.Value.str (PySem.Str.ofString "law_uf060004_08") 571 }, { hash := PySem.PyData.keyHash P (PySem.Str.ofString "__doc__"), key := PySem.Value.str (PySem.Str.ofString "__doc__") 166, val := PySem.Value.none }, { hash := PySem.PyData.keyHash P (PySem.Str.ofString "__package__"), key := PySem.Value.str (PySem.Str.ofString "__package__") 167, val := PySem.Value.none }, { hash := PySem.PyData.keyHash P (PySem.Str.ofString "__loader__"), key := PySem.Value.str (PySem.Str.ofString "__loader__") 168, val := PySem.Value.builtin "__main__.__loader__#opaque" }, { hash := PySem.PyData.keyHash P (PySem.Str.ofString "__spec__"), key := PySem.Value.str (PySem.Str.ofString "__spec__") 169, val := PySem.Value.none }, { hash := PySem.PyData.keyHash P (PySem.Str.ofString "__annotations__"), key := PySem.Value.str (PySem.Str.ofString "__annotations__") 170, val := PySem.Value.ref 6 }, { hash := PySem.PyData.keyHash P (PySem.Str.ofString "__builtins__"), key := PySem.Value.str (PySem.Str.ofString "__builtins__") 171, val := PySem.Value.ref 4 }, { hash := PySem.PyData.keyHash P (PySem.Str.ofString "__file__"), key := PySem.Value.str (PySem.Str.ofString "__file__") 173, val := PySem.Value.str (PySem.Str.ofString "/claim/cut.py") 172 }, { hash := PySem.PyData.keyHash P (PySem.Str.ofString "__cached__"), key := PySem.Value.str (PySem.Str.ofString "__cached__") 174, val := PySem.Value.none }, { hash := PySem.PyData.keyHash P (PySem.Str.ofString "SlideError"), key := PySem.Value.str (PySem.Str.ofString "SlideError") 206, val := PySem.Value.ref 24 }, { hash := PySem.PyData.keyHash P (PySem.Str.ofString "BadSize"), key := PySem.Value.str (PySem.Str.ofString "BadSize") 222, val := PySem.Value.ref 37 }, { hash := PySem.PyData.keyHash P (PySem.Str.ofString "BadThing"), key := PySem.Value.str (PySem.Str.ofString "BadThing") 238, val := PySem.Value.ref 49 }, { hash := PySem.PyData.keyHash P (PySem.Str.ofString "NoBox"), key := PySem.Value.str (PySem.Str.ofString "NoBox") 254, val := PySem.Value.ref 61 }, { hash := PySem.PyData.keyHash P (PySem.Str.ofString "NoField"), key := PySem.Value.str (PySem.Str.ofString "NoField") 270, val := PySem.Value.ref 73 }, { hash := PySem.PyData.keyHash P (PySem.Str.ofString "NoRoom"), key := PySem.Value.str (PySem.Str.ofString "NoRoom") 286, val := PySem.Value.ref 85 }, { hash := PySem.PyData.keyHash P (PySem.Str.ofString "number_word"), key := PySem.Value.str (PySem.Str.ofString "number_word") 295, val := PySem.Value.ref 94 }, { hash := PySem.PyData.keyHash P (PySem.Str.ofString "link_word"), key := PySem.Value.str (PySem.Str.ofString "link_word") 302, val := PySem.Value.ref 101 }, { hash := PySem.PyData.keyHash P (PySem.Str.ofString "head_word"), key := PySem.Value.str (PySem.Str.ofString "head_word") 310, val := PySem.Value.ref 108 }, { hash := PySem.PyData.keyHash P (PySem.Str.ofString "is_link"), key := PySem.Value.str (PySem.Str.ofString "is_link") 317, val := PySem.Value.ref 115 }, { hash := PySem.PyData.keyHash P (PySem.Str.ofString "told_by"), key := PySem.Value.str (PySem.Str.ofString "told_by") 324, val := PySem.Value.ref 122 }, { hash := PySem.PyData.keyHash P (PySem.Str.ofString "fields_of"), key := PySem.Value.str (PySem.Str.ofString "fields_of") 331, val := PySem.Value.ref 129 }, { hash := PySem.PyData.keyHash P (PySem.Str.ofString "is_marked"), key := PySem.Value.str (PySem.Str.ofString "is_marked") 338, val := PySem.Value.ref 136 }, { hash := PySem.PyData.keyHash P (PySem.Str.ofString "hung"), key := PySem.Value.str (PySem.Str.ofString "hung") 350, val := PySem.Value.ref 143 }, { hash := PySem.PyData.keyHash P (PySem.Str.ofString "led"), key := PySem.Value.str (PySem.Str.ofString "led") 362, val := PySem.Value.ref 150 }, { hash := PySem.PyData.keyHash P (PySem.Str.ofString "heads"), key := PySem.Value.str (PySem.Str.ofString "heads") 374, val := PySem.Value.ref 157 }, { hash := PySem.PyData.keyHash P (PySem.Str.ofString "with_mark"), key := PySem.Value.str (PySem.Str.ofString "with_mark") 383, val := PySem.Value.ref 164 }, { hash := PySem.PyData.keyHash P (PySem.Str.ofString "marked"), key := PySem.Value.str (PySem.Str.ofString "marked") 395, val := PySem.Value.ref 171 }, { hash := PySem.PyData.keyHash P (PySem.Str.ofString "threaded"), key := PySem.Value.str (PySem.Str.ofString "threaded") 407, val := PySem.Value.ref 178 }, { hash := PySem.PyData.keyHash P (PySem.Str.ofString "moved"), key := PySem.Value.str (PySem.Str.ofString "moved") 419, val := PySem.Value.ref 185 }, { hash := PySem.PyData.keyHash P (PySem.Str.ofString "pushed"), key := PySem.Value.str (PySem.Str.ofString "pushed") 430, val := PySem.Value.ref 192 }, { hash := PySem.PyData.keyHash P (PySem.Str.ofString "pushed_sliding"), key := PySem.Value.str (PySem.Str.ofString "pushed_sliding") 431, val := PySem.Value.ref 192 }, { hash := PySem.PyData.keyHash P (PySem.Str.ofString "MOST_CELLS"), key := PySem.Value.str (PySem.Str.ofString "MOST_CELLS") 435, val := PySem.Value.int 400 434 }, { hash := PySem.PyData.keyHash P (PySem.Str.ofString "MOST_DOORS"), key := PySem.Value.str (PySem.Str.ofString "MOST_DOORS") 437, val := PySem.Value.int 20 436 }, { hash := PySem.PyData.keyHash P (PySem.Str.ofString "is_whole"), key := PySem.Value.str (PySem.Str.ofString "is_whole") 444, val := PySem.Value.ref 199 }, { hash := PySem.PyData.keyHash P (PySem.Str.ofString "need_things"), key := PySem.Value.str (PySem.Str.ofString "need_things") 452, val := PySem.Value.ref 206 }, { hash := PySem.PyData.keyHash P (PySem.Str.ofString "word_of"), key := PySem.Value.str (PySem.Str.ofString "word_of") 459, val := PySem.Value.ref 213 }, { hash := PySem.PyData.keyHash P (PySem.Str.ofString "Room"), key := PySem.Value.str (PySem.Str.ofString "Room") 570, val := PySem.Value.ref 296 }, { hash := PySem.PyData.keyHash P (PySem.Str.ofString "_law_at"), key := PySem.Value.str (PySem.Str.ofString "_law_at") 580, val := PySem.Value.ref 307 }, { hash := PySem.PyData.keyHash P (PySem.Str.ofString "_law_is_int"), key := PySem.Value.str (PySem.Str.ofString "_law_is_int") 587, val := PySem.Value.ref 314 }, { hash := PySem.PyData.keyHash P (PySem.Str.ofString "_law_words_are"), key := PySem.Value.str (PySem.Str.ofString "_law_words_are") 593, val := PySem.Value.ref 319 }, { hash := PySem.PyData.keyHash P (PySem.Str.ofString "_law_number"), key := PySem.Value.str (PySem.Str.ofString "_law_number") 600, val := PySem.Value.ref 326 }, { hash := PySem.PyData.keyHash P (PySem.Str.ofString "_law_places_of"), key := PySem.Value.str (PySem.Str.ofString "_law_places_of") 611, val := PySem.Value.ref 333 }, { hash := PySem.PyData.keyHash P (PySem.Str.ofString "_law_cells_of"), key := PySem.Value.str (PySem.Str.ofString "_law_cells_of") 624, val := PySem.Value.ref 340 }, { hash := PySem.PyData.keyHash P (PySem.Str.ofString "_law_thing"), key := PySem.Value.str (PySem.Str.ofString "_law_thing") 632, val := PySem.Value.ref 347 }, { hash := PySem.PyData.keyHash P (PySem.Str.ofString "_law_handed"), key := PySem.Value.str (PySem.Str.ofString "_law_handed") 640, val := PySem.Value.ref 354 }, { hash := PySem.PyData.keyHash P (PySem.Str.ofString "_law_come_to"), key := PySem.Value.str (PySem.Str.ofString "_law_come_to") 646, val := PySem.Value.ref 359 }, { hash := PySem.PyData.keyHash P (PySem.Str.ofString "_law_many"), key := PySem.Value.str (PySem.Str.ofString "_law_many") 654, val := PySem.Value.ref 366 }, { hash := PySem.PyData.keyHash P (PySem.Str.ofString "_law_made"), key := PySem.Value.str (PySem.Str.ofString "_law_made") 660, val := PySem.Value.ref 371 }, { hash := PySem.PyData.keyHash P (PySem.Str.ofString "_law_put"), key := PySem.Value.str (PySem.Str.ofString "_law_put") 666, val := PySem.Value.ref 376 }, { hash := PySem.PyData.keyHash P (PySem.Str.ofString "_law_told"), key := PySem.Value.str (PySem.Str.ofString "_law_told") 672, val := PySem.Value.ref 381 }, { hash := PySem.PyData.keyHash P (PySem.Str.ofString "_law_stands"), key := PySem.Value.str (PySem.Str.ofString "_law_stands") 678, val := PySem.Value.ref 386 }, { hash := PySem.PyData.keyHash P (PySem.Str.ofString "_law_begun"), key := PySem.Value.str (PySem.Str.ofString "_law_begun") 688, val := PySem.Value.ref 393 }, { hash := PySem.PyData.keyHash P (PySem.Str.ofString "_law_refused"), key := PySem.Value.str (PySem.Str.ofString "_law_refused") 697, val := PySem.Value.ref 400 }, { hash := PySem.PyData.keyHash P (PySem.Str.ofString "_law_no_boxes"), key := PySem.Value.str (PySem.Str.ofString "_law_no_boxes") 703, val := PySem.Value.ref 405 }, { hash := PySem.PyData.keyHash P (PySem.Str.ofString "_law_pushed"), key := PySem.Value.str (PySem.Str.ofString "_law_pushed") 709, val := PySem.Value.ref 410 }, { hash := PySem.PyData.keyHash P (PySem.Str.ofString "law"), key := PySem.Value.str (PySem.Str.ofString "law") 722, val := PySem.Value.ref 417 }] 56 }),
  (93, { cls := PySem.Value.type "code", data := PySem.Data.fields #[PySem.Value.str (PySem.Str.ofString "number_word") 289, PySem.Value.str (PySem.Str.ofString "number_word") 290, PySem.Value.str (PySem.Str.ofString "/claim/cut.py") 291, PySem.Value.int 15 0, PySem.Value.int 1 0, PySem.Value.int 0 0, PySem.Value.int 0 0, PySem.Value.int 3 0, PySem.Value.ref 88, PySem.Value.bool true, PySem.Value.int 181 0, PySem.Value.ref 89, PySem.Value.none, PySem.Value.ref 90, PySem.Value.ref 91, PySem.Value.ref 92, PySem.Value.int 293 0, PySem.Value.int 15 0, PySem.Value.str (PySem.Str.ofString "/claim/cut.py") 294] }),
  (94, { cls := PySem.Value.type "function", data := PySem.Data.func { name := PySem.Str.ofString "number_word", qualname := PySem.Str.ofString "number_word", params := (dP 8), body := .stmts (dB 8), scope := (dS 8), globals := 3, closure := [], defaults := PySem.Value.none, kwdefaults := PySem.Value.none, pyModule := PySem.Value.str (PySem.Str.ofString "threadslide.words") 287, code := PySem.Value.ref 93 } }),
  (100, { cls := PySem.Value.type "code", data := PySem.Data.fields #[PySem.Value.str (PySem.Str.ofString "link_word") 296, PySem.Value.str (PySem.Str.ofString "link_word") 297, PySem.Value.str (PySem.Str.ofString "/claim/cut.py") 298, PySem.Value.int 17 0, PySem.Value.int 1 0, PySem.Value.int 0 0, PySem.Value.int 0 0, PySem.Value.int 3 0, PySem.Value.ref 95, PySem.Value.bool true, PySem.Value.int 181 0, PySem.Value.ref 96, PySem.Value.none, PySem.Value.ref 97, PySem.Value.ref 98, PySem.Value.ref 99, PySem.Value.int 300 0, PySem.Value.int 17 0, PySem.Value.str (PySem.Str.ofString "/claim/cut.py") 301] }),
  (101, { cls := PySem.Value.type "function", data := PySem.Data.func { name := PySem.Str.ofString "link_word", qualname := PySem.Str.ofString "link_word", params := (dP 9), body := .stmts (dB 9), scope := (dS 9), globals := 3, closure := [], defaults := PySem.Value.none, kwdefaults := PySem.Value.none, pyModule := PySem.Value.str (PySem.Str.ofString "threadslide.words") 287, code := PySem.Value.ref 100 } }),
  (107, { cls := PySem.Value.type "code", data := PySem.Data.fields #[PySem.Value.str (PySem.Str.ofString "head_word") 303, PySem.Value.str (PySem.Str.ofString "head_word") 304, PySem.Value.str (PySem.Str.ofString "/claim/cut.py") 305, PySem.Value.int 19 0, PySem.Value.int 2 0, PySem.Value.int 0 0, PySem.Value.int 0 0, PySem.Value.int 3 0, PySem.Value.ref 102, PySem.Value.bool true, PySem.Value.int 181 0, PySem.Value.ref 103, PySem.Value.none, PySem.Value.ref 104, PySem.Value.ref 105, PySem.Value.ref 106, PySem.Value.int 308 0, PySem.Value.int 19 0, PySem.Value.str (PySem.Str.ofString "/claim/cut.py") 309] }),
  (108, { cls := PySem.Value.type "function", data := PySem.Data.func { name := PySem.Str.ofString "head_word", qualname := PySem.Str.ofString "head_word", params := (dP 10), body := .stmts (dB 10), scope := (dS 10), globals := 3, closure := [], defaults := PySem.Value.none, kwdefaults := PySem.Value.none, pyModule := PySem.Value.str (PySem.Str.ofString "threadslide.words") 287, code := PySem.Value.ref 107 } }),
  (114, { cls := PySem.Value.type "code", data := PySem.Data.fields #[PySem.Value.str (PySem.Str.ofString "is_link") 311, PySem.Value.str (PySem.Str.ofString "is_link") 312, PySem.Value.str (PySem.Str.ofString "/claim/cut.py") 313, PySem.Value.int 23 0, PySem.Value.int 1 0, PySem.Value.int 0 0, PySem.Value.int 0 0, PySem.Value.int 3 0, PySem.Value.ref 109, PySem.Value.bool true, PySem.Value.int 181 0, PySem.Value.ref 110, PySem.Value.none, PySem.Value.ref 111, PySem.Value.ref 112, PySem.Value.ref 113, PySem.Value.int 315 0, PySem.Value.int 23 0, PySem.Value.str (PySem.Str.ofString "/claim/cut.py") 316] }),
  (115, { cls := PySem.Value.type "function", data := PySem.Data.func { name := PySem.Str.ofString "is_link", qualname := PySem.Str.ofString "is_link", params := (dP 11), body := .stmts (dB 11), scope := (dS 11), globals := 3, closure := [], defaults := PySem.Value.none, kwdefaults := PySem.Value.none, pyModule := PySem.Value.str (PySem.Str.ofString "threadslide.words") 287, code := PySem.Value.ref 114 } }),
  (121, { cls := PySem.Value.type "code", data := PySem.Data.fields #[PySem.Value.str (PySem.Str.ofString "told_by") 318, PySem.Value.str (PySem.Str.ofString "told_by") 319, PySem.Value.str (PySem.Str.ofString "/claim/cut.py") 320, PySem.Value.int 25 0, PySem.Value.int 1 0, PySem.Value.int 0 0, PySem.Value.int 0 0, PySem.Value.int 3 0, PySem.Value.ref 116, PySem.Value.bool true, PySem.Value.int 181 0, PySem.Value.ref 117, PySem.Value.none, PySem.Value.ref 118, PySem.Value.ref 119, PySem.Value.ref 120, PySem.Value.int 322 0, PySem.Value.int 25 0, PySem.Value.str (PySem.Str.ofString "/claim/cut.py") 323] }),
  (122, { cls := PySem.Value.type "function", data := PySem.Data.func { name := PySem.Str.ofString "told_by", qualname := PySem.Str.ofString "told_by", params := (dP 12), body := .stmts (dB 12), scope := (dS 12), globals := 3, closure := [], defaults := PySem.Value.none, kwdefaults := PySem.Value.none, pyModule := PySem.Value.str (PySem.Str.ofString "threadslide.words") 287, code := PySem.Value.ref 121 } }),
  (128, { cls := PySem.Value.type "code", data := PySem.Data.fields #[PySem.Value.str (PySem.Str.ofString "fields_of") 325, PySem.Value.str (PySem.Str.ofString "fields_of") 326, PySem.Value.str (PySem.Str.ofString "/claim/cut.py") 327, PySem.Value.int 27 0, PySem.Value.int 1 0, PySem.Value.int 0 0, PySem.Value.int 0 0, PySem.Value.int 3 0, PySem.Value.ref 123, PySem.Value.bool true, PySem.Value.int 181 0, PySem.Value.ref 124, PySem.Value.none, PySem.Value.ref 125, PySem.Value.ref 126, PySem.Value.ref 127, PySem.Value.int 329 0, PySem.Value.int 27 0, PySem.Value.str (PySem.Str.ofString "/claim/cut.py") 330] }),
  (129, { cls := PySem.Value.type "function", data := PySem.Data.func { name := PySem.Str.ofString "fields_of", qualname := PySem.Str.ofString "fields_of", params := (dP 13), body := .stmts (dB 13), scope := (dS 13), globals := 3, closure := [], defaults := PySem.Value.none, kwdefaults := PySem.Value.none, pyModule := PySem.Value.str (PySem.Str.ofString "threadslide.words") 287, code := PySem.Value.ref 128 } }),
  (135, { cls := PySem.Value.type "code", data := PySem.Data.fields #[PySem.Value.str (PySem.Str.ofString "is_marked") 332, PySem.Value.str (PySem.Str.ofString "is_marked") 333, PySem.Value.str (PySem.Str.ofString "/claim/cut.py") 334, PySem.Value.int 29 0, PySem.Value.int 1 0, PySem.Value.int 0 0, PySem.Value.int 0 0, PySem.Value.int 3 0, PySem.Value.ref 130, PySem.Value.bool true, PySem.Value.int 181 0, PySem.Value.ref 131, PySem.Value.none, PySem.Value.ref 132, PySem.Value.ref 133, PySem.Value.ref 134, PySem.Value.int 336 0, PySem.Value.int 29 0, PySem.Value.str (PySem.Str.ofString "/claim/cut.py") 337] }),
  (136, { cls := PySem.Value.type "function", data := PySem.Data.func { name := PySem.Str.ofString "is_marked", qualname := PySem.Str.ofString "is_marked", params := (dP 14), body := .stmts (dB 14), scope := (dS 14), globals := 3, closure := [], defaults := PySem.Value.none, kwdefaults := PySem.Value.none, pyModule := PySem.Value.str (PySem.Str.ofString "threadslide.words") 287, code := PySem.Value.ref 135 } }),
  (142, { cls := PySem.Value.type "code", data := PySem.Data.fields #[PySem.Value.str (PySem.Str.ofString "hung") 341, PySem.Value.str (PySem.Str.ofString "hung") 342, PySem.Value.str (PySem.Str.ofString "/claim/cut.py") 343, PySem.Value.int 32 0, PySem.Value.int 2 0, PySem.Value.int 0 0, PySem.Value.int 0 0, PySem.Value.int 3 0, PySem.Value.ref 137, PySem.Value.bool true, PySem.Value.int 181 0, PySem.Value.ref 138, PySem.Value.none, PySem.Value.ref 139, PySem.Value.ref 140, PySem.Value.ref 141, PySem.Value.int 348 0, PySem.Value.int 32 0, PySem.Value.str (PySem.Str.ofString "/claim/cut.py") 349] }),
  (143, { cls := PySem.Value.type "function", data := PySem.Data.func { name := PySem.Str.ofString "hung", qualname := PySem.Str.ofString "hung", params := (dP 16), body := .stmts (dB 16), scope := (dS 16), globals := 3, closure := [], defaults := PySem.Value.none, kwdefaults := PySem.Value.none, pyModule := PySem.Value.str (PySem.Str.ofString "threadslide.chains") 339, code := PySem.Value.ref 142 } }),
  (149, { cls := PySem.Value.type "code", data := PySem.Data.fields #[PySem.Value.str (PySem.Str.ofString "led") 351, PySem.Value.str (PySem.Str.ofString "led") 352, PySem.Value.str (PySem.Str.ofString "/claim/cut.py") 353, PySem.Value.int 38 0, PySem.Value.int 3 0, PySem.Value.int 0 0, PySem.Value.int 0 0, PySem.Value.int 3 0, PySem.Value.ref 144, PySem.Value.bool true, PySem.Value.int 181 0, PySem.Value.ref 145, PySem.Value.none, PySem.Value.ref 146, PySem.Value.ref 147, PySem.Value.ref 148, PySem.Value.int 360 0, PySem.Value.int 38 0, PySem.Value.str (PySem.Str.ofString "/claim/cut.py") 361] }),
  (150, { cls := PySem.Value.type "function", data := PySem.Data.func { name := PySem.Str.ofString "led", qualname := PySem.Str.ofString "led", params := (dP 17), body := .stmts (dB 17), scope := (dS 17), globals := 3, closure := [], defaults := PySem.Value.none, kwdefaults := PySem.Value.none, pyModule := PySem.Value.str (PySem.Str.ofString "threadslide.chains") 339, code := PySem.Value.ref 149 } }),
  (156, { cls := PySem.Value.type "code", data := PySem.Data.fields #[PySem.Value.str (PySem.Str.ofString "heads") 365, PySem.Value.str (PySem.Str.ofString "heads") 366, PySem.Value.str (PySem.Str.ofString "/claim/cut.py") 367, PySem.Value.int 48 0, PySem.Value.int 2 0, PySem.Value.int 0 0, PySem.Value.int 0 0, PySem.Value.int 3 0, PySem.Value.ref 151, PySem.Value.bool true, PySem.Value.int 181 0, PySem.Value.ref 152, PySem.Value.none, PySem.Value.ref 153, PySem.Value.ref 154, PySem.Value.ref 155, PySem.Value.int 372 0, PySem.Value.int 48 0, PySem.Value.str (PySem.Str.ofString "/claim/cut.py") 373] }),
  (157, { cls := PySem.Value.type "function", data := PySem.Data.func { name := PySem.Str.ofString "heads", qualname := PySem.Str.ofString "heads", params := (dP 19), body := .stmts (dB 19), scope := (dS 19), globals := 3, closure := [], defaults := PySem.Value.none, kwdefaults := PySem.Value.none, pyModule := PySem.Value.str (PySem.Str.ofString "threadslide.sliding") 363, code := PySem.Value.ref 156 } }),
  (163, { cls := PySem.Value.type "code", data := PySem.Data.fields #[PySem.Value.str (PySem.Str.ofString "with_mark") 375, PySem.Value.str (PySem.Str.ofString "with_mark") 376, PySem.Value.str (PySem.Str.ofString "/claim/cut.py") 377, PySem.Value.int 55 0, PySem.Value.int 2 0, PySem.Value.int 0 0, PySem.Value.int 0 0, PySem.Value.int 3 0, PySem.Value.ref 158, PySem.Value.bool true, PySem.Value.int 181 0, PySem.Value.ref 159, PySem.Value.none, PySem.Value.ref 160, PySem.Value.ref 161, PySem.Value.ref 162, PySem.Value.int 381 0, PySem.Value.int 55 0, PySem.Value.str (PySem.Str.ofString "/claim/cut.py") 382] }),
  (164, { cls := PySem.Value.type "function", data := PySem.Data.func { name := PySem.Str.ofString "with_mark", qualname := PySem.Str.ofString "with_mark", params := (dP 20), body := .stmts (dB 20), scope := (dS 20), globals := 3, closure := [], defaults := PySem.Value.none, kwdefaults := PySem.Value.none, pyModule := PySem.Value.str (PySem.Str.ofString "threadslide.sliding") 363, code := PySem.Value.ref 163 } }),
  (170, { cls := PySem.Value.type "code", data := PySem.Data.fields #[PySem.Value.str (PySem.Str.ofString "marked") 384, PySem.Value.str (PySem.Str.ofString "marked") 385, PySem.Value.str (PySem.Str.ofString "/claim/cut.py") 386, PySem.Value.int 59 0, PySem.Value.int 2 0, PySem.Value.int 0 0, PySem.Value.int 0 0, PySem.Value.int 3 0, PySem.Value.ref 165, PySem.Value.bool true, PySem.Value.int 181 0, PySem.Value.ref 166, PySem.Value.none, PySem.Value.ref 167, PySem.Value.ref 168, PySem.Value.ref 169, PySem.Value.int 393 0, PySem.Value.int 59 0, PySem.Value.str (PySem.Str.ofString "/claim/cut.py") 394] }),
  (171, { cls := PySem.Value.type "function", data := PySem.Data.func { name := PySem.Str.ofString "marked", qualname := PySem.Str.ofString "marked", params := (dP 21), body := .stmts (dB 21), scope := (dS 21), globals := 3, closure := [], defaults := PySem.Value.none, kwdefaults := PySem.Value.none, pyModule := PySem.Value.str (PySem.Str.ofString "threadslide.sliding") 363, code := PySem.Value.ref 170 } }),
  (177, { cls := PySem.Value.type "code", data := PySem.Data.fields #[PySem.Value.str (PySem.Str.ofString "threaded") 396, PySem.Value.str (PySem.Str.ofString "threaded") 397, PySem.Value.str (PySem.Str.ofString "/claim/cut.py") 398, PySem.Value.int 69 0, PySem.Value.int 2 0, PySem.Value.int 0 0, PySem.Value.int 0 0, PySem.Value.int 3 0, PySem.Value.ref 172, PySem.Value.bool true, PySem.Value.int 181 0, PySem.Value.ref 173, PySem.Value.none, PySem.Value.ref 174, PySem.Value.ref 175, PySem.Value.ref 176, PySem.Value.int 405 0, PySem.Value.int 69 0, PySem.Value.str (PySem.Str.ofString "/claim/cut.py") 406] }),
  (178, { cls := PySem.Value.type "function", data := PySem.Data.func { name := PySem.Str.ofString "threaded", qualname := PySem.Str.ofString "threaded", params := (dP 22), body := .stmts (dB 22), scope := (dS 22), globals := 3, closure := [], defaults := PySem.Value.none, kwdefaults := PySem.Value.none, pyModule := PySem.Value.str (PySem.Str.ofString "threadslide.sliding") 363, code := PySem.Value.ref 177 } }),
  (184, { cls := PySem.Value.type "code", data := PySem.Data.fields #[PySem.Value.str (PySem.Str.ofString "moved") 408, PySem.Value.str (PySem.Str.ofString "moved") 409, PySem.Value.str (PySem.Str.ofString "/claim/cut.py") 410, PySem.Value.int 82 0, PySem.Value.int 4 0, PySem.Value.int 0 0, PySem.Value.int 0 0, PySem.Value.int 3 0, PySem.Value.ref 179, PySem.Value.bool true, PySem.Value.int 181 0, PySem.Value.ref 180, PySem.Value.none, PySem.Value.ref 181, PySem.Value.ref 182, PySem.Value.ref 183, PySem.Value.int 417 0, PySem.Value.int 82 0, PySem.Value.str (PySem.Str.ofString "/claim/cut.py") 418] }),
  (185, { cls := PySem.Value.type "function", data := PySem.Data.func { name := PySem.Str.ofString "moved", qualname := PySem.Str.ofString "moved", params := (dP 23), body := .stmts (dB 23), scope := (dS 23), globals := 3, closure := [], defaults := PySem.Value.none, kwdefaults := PySem.Value.none, pyModule := PySem.Value.str (PySem.Str.ofString "threadslide.sliding") 363, code := PySem.Value.ref 184 } }),
  (191, { cls := PySem.Value.type "code", data := PySem.Data.fields #[PySem.Value.str (PySem.Str.ofString "pushed") 420, PySem.Value.str (PySem.Str.ofString "pushed") 421, PySem.Value.str (PySem.Str.ofString "/claim/cut.py") 422, PySem.Value.int 88 0, PySem.Value.int 2 0, PySem.Value.int 0 0, PySem.Value.int 0 0, PySem.Value.int 3 0, PySem.Value.ref 186, PySem.Value.bool true, PySem.Value.int 181 0, PySem.Value.ref 187, PySem.Value.none, PySem.Value.ref 188, PySem.Value.ref 189, PySem.Value.ref 190, PySem.Value.int 428 0, PySem.Value.int 88 0, PySem.Value.str (PySem.Str.ofString "/claim/cut.py") 429] }),
  (192, { cls := PySem.Value.type "function", data := PySem.Data.func { name := PySem.Str.ofString "pushed", qualname := PySem.Str.ofString "pushed", params := (dP 24), body := .stmts (dB 24), scope := (dS 24), globals := 3, closure := [], defaults := PySem.Value.none, kwdefaults := PySem.Value.none, pyModule := PySem.Value.str (PySem.Str.ofString "threadslide.sliding") 363, code := PySem.Value.ref 191 } }),
  (198, { cls := PySem.Value.type "code", data := PySem.Data.fields #[PySem.Value.str (PySem.Str.ofString "is_whole") 438, PySem.Value.str (PySem.Str.ofString "is_whole") 439, PySem.Value.str (PySem.Str.ofString "/claim/cut.py") 440, PySem.Value.int 104 0, PySem.Value.int 1 0, PySem.Value.int 0 0, PySem.Value.int 0 0, PySem.Value.int 3 0, PySem.Value.ref 193, PySem.Value.bool true, PySem.Value.int 181 0, PySem.Value.ref 194, PySem.Value.none, PySem.Value.ref 195, PySem.Value.ref 196, PySem.Value.ref 197, PySem.Value.int 442 0, PySem.Value.int 104 0, PySem.Value.str (PySem.Str.ofString "/claim/cut.py") 443] }),
  (199, { cls := PySem.Value.type "function", data := PySem.Data.func { name := PySem.Str.ofString "is_whole", qualname := PySem.Str.ofString "is_whole", params := (dP 29), body := .stmts (dB 29), scope := (dS 29), globals := 3, closure := [], defaults := PySem.Value.none, kwdefaults := PySem.Value.none, pyModule := PySem.Value.str (PySem.Str.ofString "threadslide.rooms") 432, code := PySem.Value.ref 198 } }),
  (205, { cls := PySem.Value.type "code", data := PySem.Data.fields #[PySem.Value.str (PySem.Str.ofString "need_things") 445, PySem.Value.str (PySem.Str.ofString "need_things") 446, PySem.Value.str (PySem.Str.ofString "/claim/cut.py") 447, PySem.Value.int 106 0, PySem.Value.int 1 0, PySem.Value.int 0 0, PySem.Value.int 0 0, PySem.Value.int 3 0, PySem.Value.ref 200, PySem.Value.bool true, PySem.Value.int 181 0, PySem.Value.ref 201, PySem.Value.none, PySem.Value.ref 202, PySem.Value.ref 203, PySem.Value.ref 204, PySem.Value.int 450 0, PySem.Value.int 106 0, PySem.Value.str (PySem.Str.ofString "/claim/cut.py") 451] }),
  (206, { cls := PySem.Value.type "function", data := PySem.Data.func { name := PySem.Str.ofString "need_things", qualname := PySem.Str.ofString "need_things", params := (dP 30), body := .stmts (dB 30), scope := (dS 30), globals := 3, closure := [], defaults := PySem.Value.none, kwdefaults := PySem.Value.none, pyModule := PySem.Value.str (PySem.Str.ofString "threadslide.rooms") 432, code := PySem.Value.ref 205 } }),
  (212, { cls := PySem.Value.type "code", data := PySem.Data.fields #[PySem.Value.str (PySem.Str.ofString "word_of") 453, PySem.Value.str (PySem.Str.ofString "word_of") 454, PySem.Value.str (PySem.Str.ofString "/claim/cut.py") 455, PySem.Value.int 112 0, PySem.Value.int 1 0, PySem.Value.int 0 0, PySem.Value.int 0 0, PySem.Value.int 3 0, PySem.Value.ref 207, PySem.Value.bool true, PySem.Value.int 181 0, PySem.Value.ref 208, PySem.Value.none, PySem.Value.ref 209, PySem.Value.ref 210, PySem.Value.ref 211, PySem.Value.int 457 0, PySem.Value.int 112 0, PySem.Value.str (PySem.Str.ofString "/claim/cut.py") 458] }),
  (213, { cls := PySem.Value.type "function", data := PySem.Data.func { name := PySem.Str.ofString "word_of", qualname := PySem.Str.ofString "word_of", params := (dP 31), body := .stmts (dB 31), scope := (dS 31), globals := 3, closure := [], defaults := PySem.Value.none, kwdefaults := PySem.Value.none, pyModule := PySem.Value.str (PySem.Str.ofString "threadslide.rooms") 432, code := PySem.Value.ref 212 } }),
  (226, { cls := PySem.Value.type "code", data := PySem.Data.fields #[PySem.Value.str (PySem.Str.ofString "__init__") 472, PySem.Value.str (PySem.Str.ofString "Room.__init__") 473, PySem.Value.str (PySem.Str.ofString "/claim/cut.py") 474, PySem.Value.int 118 0, PySem.Value.int 3 0, PySem.Value.int 0 0, PySem.Value.int 0 0, PySem.Value.int 3 0, PySem.Value.ref 221, PySem.Value.bool true, PySem.Value.int 181 0, PySem.Value.ref 222, PySem.Value.none, PySem.Value.ref 223, PySem.Value.ref 224, PySem.Value.ref 225, PySem.Value.int 478 0, PySem.Value.int 118 0, PySem.Value.str (PySem.Str.ofString "/claim/cut.py") 479] }),
  (227, { cls := PySem.Value.type "function", data := PySem.Data.func { name := PySem.Str.ofString "__init__", qualname := PySem.Str.ofString "Room.__init__", params := (dPm 0), body := .stmts (dBm 0), scope := (dSm 0), globals := 3, closure := [], defaults := PySem.Value.none, kwdefaults := PySem.Value.none, pyModule := PySem.Value.str (PySem.Str.ofString "threadslide.rooms") 432, code := PySem.Value.ref 226 } }),
  (233, { cls := PySem.Value.type "code", data := PySem.Data.fields #[PySem.Value.str (PySem.Str.ofString "need_boxes") 481, PySem.Value.str (PySem.Str.ofString "Room.need_boxes") 482, PySem.Value.str (PySem.Str.ofString "/claim/cut.py") 483, PySem.Value.int 126 0, PySem.Value.int 2 0, PySem.Value.int 0 0, PySem.Value.int 0 0, PySem.Value.int 3 0, PySem.Value.ref 228, PySem.Value.bool true, PySem.Value.int 181 0, PySem.Value.ref 229, PySem.Value.none, PySem.Value.ref 230, PySem.Value.ref 231, PySem.Value.ref 232, PySem.Value.int 488 0, PySem.Value.int 126 0, PySem.Value.str (PySem.Str.ofString "/claim/cut.py") 489] }),
  (234, { cls := PySem.Value.type "function", data := PySem.Data.func { name := PySem.Str.ofString "need_boxes", qualname := PySem.Str.ofString "Room.need_boxes", params := (dPm 1), body := .stmts (dBm 1), scope := (dSm 1), globals := 3, closure := [], defaults := PySem.Value.none, kwdefaults := PySem.Value.none, pyModule := PySem.Value.str (PySem.Str.ofString "threadslide.rooms") 432, code := PySem.Value.ref 233 } }),
  (240, { cls := PySem.Value.type "code", data := PySem.Data.fields #[PySem.Value.str (PySem.Str.ofString "need_box") 491, PySem.Value.str (PySem.Str.ofString "Room.need_box") 492, PySem.Value.str (PySem.Str.ofString "/claim/cut.py") 493, PySem.Value.int 132 0, PySem.Value.int 2 0, PySem.Value.int 0 0, PySem.Value.int 0 0, PySem.Value.int 3 0, PySem.Value.ref 235, PySem.Value.bool true, PySem.Value.int 181 0, PySem.Value.ref 236, PySem.Value.none, PySem.Value.ref 237, PySem.Value.ref 238, PySem.Value.ref 239, PySem.Value.int 496 0, PySem.Value.int 132 0, PySem.Value.str (PySem.Str.ofString "/claim/cut.py") 497] }),
  (241, { cls := PySem.Value.type "function", data := PySem.Data.func { name := PySem.Str.ofString "need_box", qualname := PySem.Str.ofString "Room.need_box", params := (dPm 2), body := .stmts (dBm 2), scope := (dSm 2), globals := 3, closure := [], defaults := PySem.Value.none, kwdefaults := PySem.Value.none, pyModule := PySem.Value.str (PySem.Str.ofString "threadslide.rooms") 432, code := PySem.Value.ref 240 } }),
  (245, { cls := PySem.Value.type "code", data := PySem.Data.fields #[PySem.Value.str (PySem.Str.ofString "made") 499, PySem.Value.str (PySem.Str.ofString "Room.made") 500, PySem.Value.str (PySem.Str.ofString "/claim/cut.py") 501, PySem.Value.int 136 0, PySem.Value.int 2 0, PySem.Value.int 0 0, PySem.Value.int 0 0, PySem.Value.int 3 0, PySem.Value.ref 242, PySem.Value.bool true, PySem.Value.int 181 0, PySem.Value.ref 243, PySem.Value.none, PySem.Value.none, PySem.Value.none, PySem.Value.ref 244, PySem.Value.int 502 0, PySem.Value.int 136 0, PySem.Value.str (PySem.Str.ofString "/claim/cut.py") 503] }),
  (246, { cls := PySem.Value.type "function", data := PySem.Data.func { name := PySem.Str.ofString "made", qualname := PySem.Str.ofString "Room.made", params := (dPm 3), body := .stmts (dBm 3), scope := (dSm 3), globals := 3, closure := [], defaults := PySem.Value.none, kwdefaults := PySem.Value.none, pyModule := PySem.Value.str (PySem.Str.ofString "threadslide.rooms") 432, code := PySem.Value.ref 245 } }),
  (252, { cls := PySem.Value.type "code", data := PySem.Data.fields #[PySem.Value.str (PySem.Str.ofString "put") 505, PySem.Value.str (PySem.Str.ofString "Room.put") 506, PySem.Value.str (PySem.Str.ofString "/claim/cut.py") 507, PySem.Value.int 148 0, PySem.Value.int 4 0, PySem.Value.int 0 0, PySem.Value.int 0 0, PySem.Value.int 3 0, PySem.Value.ref 247, PySem.Value.bool true, PySem.Value.int 181 0, PySem.Value.ref 248, PySem.Value.none, PySem.Value.ref 249, PySem.Value.ref 250, PySem.Value.ref 251, PySem.Value.int 512 0, PySem.Value.int 148 0, PySem.Value.str (PySem.Str.ofString "/claim/cut.py") 513] }),
  (253, { cls := PySem.Value.type "function", data := PySem.Data.func { name := PySem.Str.ofString "put", qualname := PySem.Str.ofString "Room.put", params := (dPm 4), body := .stmts (dBm 4), scope := (dSm 4), globals := 3, closure := [], defaults := PySem.Value.none, kwdefaults := PySem.Value.none, pyModule := PySem.Value.str (PySem.Str.ofString "threadslide.rooms") 432, code := PySem.Value.ref 252 } }),
  (259, { cls := PySem.Value.type "code", data := PySem.Data.fields #[PySem.Value.str (PySem.Str.ofString "told") 515, PySem.Value.str (PySem.Str.ofString "Room.told") 516, PySem.Value.str (PySem.Str.ofString "/claim/cut.py") 517, PySem.Value.int 156 0, PySem.Value.int 2 0, PySem.Value.int 0 0, PySem.Value.int 0 0, PySem.Value.int 3 0, PySem.Value.ref 254, PySem.Value.bool true, PySem.Value.int 181 0, PySem.Value.ref 255, PySem.Value.none, PySem.Value.ref 256, PySem.Value.ref 257, PySem.Value.ref 258, PySem.Value.int 522 0, PySem.Value.int 156 0, PySem.Value.str (PySem.Str.ofString "/claim/cut.py") 523] }),
  (260, { cls := PySem.Value.type "function", data := PySem.Data.func { name := PySem.Str.ofString "told", qualname := PySem.Str.ofString "Room.told", params := (dPm 5), body := .stmts (dBm 5), scope := (dSm 5), globals := 3, closure := [], defaults := PySem.Value.none, kwdefaults := PySem.Value.none, pyModule := PySem.Value.str (PySem.Str.ofString "threadslide.rooms") 432, code := PySem.Value.ref 259 } }),
  (266, { cls := PySem.Value.type "code", data := PySem.Data.fields #[PySem.Value.str (PySem.Str.ofString "places") 525, PySem.Value.str (PySem.Str.ofString "Room.places") 526, PySem.Value.str (PySem.Str.ofString "/claim/cut.py") 527, PySem.Value.int 166 0, PySem.Value.int 1 0, PySem.Value.int 0 0, PySem.Value.int 0 0, PySem.Value.int 3 0, PySem.Value.ref 261, PySem.Value.bool true, PySem.Value.int 181 0, PySem.Value.ref 262, PySem.Value.none, PySem.Value.ref 263, PySem.Value.ref 264, PySem.Value.ref 265, PySem.Value.int 529 0, PySem.Value.int 166 0, PySem.Value.str (PySem.Str.ofString "/claim/cut.py") 530] }),
  (267, { cls := PySem.Value.type "function", data := PySem.Data.func { name := PySem.Str.ofString "places", qualname := PySem.Str.ofString "Room.places", params := (dPm 6), body := .stmts (dBm 6), scope := (dSm 6), globals := 3, closure := [], defaults := PySem.Value.none, kwdefaults := PySem.Value.none, pyModule := PySem.Value.str (PySem.Str.ofString "threadslide.rooms") 432, code := PySem.Value.ref 266 } }),
  (271, { cls := PySem.Value.type "code", data := PySem.Data.fields #[PySem.Value.str (PySem.Str.ofString "come_to") 532, PySem.Value.str (PySem.Str.ofString "Room.come_to") 533, PySem.Value.str (PySem.Str.ofString "/claim/cut.py") 534, PySem.Value.int 169 0, PySem.Value.int 1 0, PySem.Value.int 0 0, PySem.Value.int 0 0, PySem.Value.int 3 0, PySem.Value.ref 268, PySem.Value.bool true, PySem.Value.int 181 0, PySem.Value.ref 269, PySem.Value.none, PySem.Value.none, PySem.Value.none, PySem.Value.ref 270, PySem.Value.int 535 0, PySem.Value.int 169 0, PySem.Value.str (PySem.Str.ofString "/claim/cut.py") 536] }),
  (272, { cls := PySem.Value.type "function", data := PySem.Data.func { name := PySem.Str.ofString "come_to", qualname := PySem.Str.ofString "Room.come_to", params := (dPm 7), body := .stmts (dBm 7), scope := (dSm 7), globals := 3, closure := [], defaults := PySem.Value.none, kwdefaults := PySem.Value.none, pyModule := PySem.Value.str (PySem.Str.ofString "threadslide.rooms") 432, code := PySem.Value.ref 271 } }),
  (278, { cls := PySem.Value.type "code", data := PySem.Data.fields #[PySem.Value.str (PySem.Str.ofString "pushed") 538, PySem.Value.str (PySem.Str.ofString "Room.pushed") 539, PySem.Value.str (PySem.Str.ofString "/claim/cut.py") 540, PySem.Value.int 173 0, PySem.Value.int 1 0, PySem.Value.int 0 0, PySem.Value.int 0 0, PySem.Value.int 3 0, PySem.Value.ref 273, PySem.Value.bool true, PySem.Value.int 181 0, PySem.Value.ref 274, PySem.Value.none, PySem.Value.ref 275, PySem.Value.ref 276, PySem.Value.ref 277, PySem.Value.int 544 0, PySem.Value.int 173 0, PySem.Value.str (PySem.Str.ofString "/claim/cut.py") 545] }),
  (279, { cls := PySem.Value.type "function", data := PySem.Data.func { name := PySem.Str.ofString "pushed", qualname := PySem.Str.ofString "Room.pushed", params := (dPm 8), body := .stmts (dBm 8), scope := (dSm 8), globals := 3, closure := [], defaults := PySem.Value.none, kwdefaults := PySem.Value.none, pyModule := PySem.Value.str (PySem.Str.ofString "threadslide.rooms") 432, code := PySem.Value.ref 278 } }),
  (285, { cls := PySem.Value.type "code", data := PySem.Data.fields #[PySem.Value.str (PySem.Str.ofString "used") 547, PySem.Value.str (PySem.Str.ofString "Room.used") 548, PySem.Value.str (PySem.Str.ofString "/claim/cut.py") 549, PySem.Value.int 180 0, PySem.Value.int 1 0, PySem.Value.int 0 0, PySem.Value.int 0 0, PySem.Value.int 3 0, PySem.Value.ref 280, PySem.Value.bool true, PySem.Value.int 181 0, PySem.Value.ref 281, PySem.Value.none, PySem.Value.ref 282, PySem.Value.ref 283, PySem.Value.ref 284, PySem.Value.int 551 0, PySem.Value.int 180 0, PySem.Value.str (PySem.Str.ofString "/claim/cut.py") 552] }),
  (286, { cls := PySem.Value.type "function", data := PySem.Data.func { name := PySem.Str.ofString "used", qualname := PySem.Str.ofString "Room.used", params := (dPm 9), body := .stmts (dBm 9), scope := (dSm 9), globals := 3, closure := [], defaults := PySem.Value.none, kwdefaults := PySem.Value.none, pyModule := PySem.Value.str (PySem.Str.ofString "threadslide.rooms") 432, code := PySem.Value.ref 285 } }),
  (292, { cls := PySem.Value.type "code", data := PySem.Data.fields #[PySem.Value.str (PySem.Str.ofString "cells") 554, PySem.Value.str (PySem.Str.ofString "Room.cells") 555, PySem.Value.str (PySem.Str.ofString "/claim/cut.py") 556, PySem.Value.int 183 0, PySem.Value.int 1 0, PySem.Value.int 0 0, PySem.Value.int 0 0, PySem.Value.int 3 0, PySem.Value.ref 287, PySem.Value.bool true, PySem.Value.int 181 0, PySem.Value.ref 288, PySem.Value.none, PySem.Value.ref 289, PySem.Value.ref 290, PySem.Value.ref 291, PySem.Value.int 558 0, PySem.Value.int 183 0, PySem.Value.str (PySem.Str.ofString "/claim/cut.py") 559] }),
  (293, { cls := PySem.Value.type "function", data := PySem.Data.func { name := PySem.Str.ofString "cells", qualname := PySem.Str.ofString "Room.cells", params := (dPm 10), body := .stmts (dBm 10), scope := (dSm 10), globals := 3, closure := [], defaults := PySem.Value.none, kwdefaults := PySem.Value.none, pyModule := PySem.Value.str (PySem.Str.ofString "threadslide.rooms") 432, code := PySem.Value.ref 292 } }),
  (294, { cls := PySem.Value.type "tuple", data := PySem.Data.seq #[PySem.Value.str (PySem.Str.ofString "filled") 561, PySem.Value.str (PySem.Str.ofString "row") 562] }),
  (295, { cls := PySem.Value.type "dict", data := PySem.Data.dict #[{ hash := PySem.PyData.keyHash P (PySem.Str.ofString "__module__"), key := PySem.Value.str (PySem.Str.ofString "__module__") 467, val := PySem.Value.str (PySem.Str.ofString "threadslide.rooms") 432 }, { hash := PySem.PyData.keyHash P (PySem.Str.ofString "__firstlineno__"), key := PySem.Value.str (PySem.Str.ofString "__firstlineno__") 471, val := PySem.Value.int 116 470 }, { hash := PySem.PyData.keyHash P (PySem.Str.ofString "__init__"), key := PySem.Value.str (PySem.Str.ofString "__init__") 480, val := PySem.Value.ref 227 }, { hash := PySem.PyData.keyHash P (PySem.Str.ofString "need_boxes"), key := PySem.Value.str (PySem.Str.ofString "need_boxes") 490, val := PySem.Value.ref 234 }, { hash := PySem.PyData.keyHash P (PySem.Str.ofString "need_box"), key := PySem.Value.str (PySem.Str.ofString "need_box") 498, val := PySem.Value.ref 241 }, { hash := PySem.PyData.keyHash P (PySem.Str.ofString "made"), key := PySem.Value.str (PySem.Str.ofString "made") 504, val := PySem.Value.ref 246 }, { hash := PySem.PyData.keyHash P (PySem.Str.ofString "put"), key := PySem.Value.str (PySem.Str.ofString "put") 514, val := PySem.Value.ref 253 }, { hash := PySem.PyData.keyHash P (PySem.Str.ofString "told"), key := PySem.Value.str (PySem.Str.ofString "told") 524, val := PySem.Value.ref 260 }, { hash := PySem.PyData.keyHash P (PySem.Str.ofString "places"), key := PySem.Value.str (PySem.Str.ofString "places") 531, val := PySem.Value.ref 267 }, { hash := PySem.PyData.keyHash P (PySem.Str.ofString "come_to"), key := PySem.Value.str (PySem.Str.ofString "come_to") 537, val := PySem.Value.ref 272 }, { hash := PySem.PyData.keyHash P (PySem.Str.ofString "pushed"), key := PySem.Value.str (PySem.Str.ofString "pushed") 546, val := PySem.Value.ref 279 }, { hash := PySem.PyData.keyHash P (PySem.Str.ofString "used"), key := PySem.Value.str (PySem.Str.ofString "used") 553, val := PySem.Value.ref 286 }, { hash := PySem.PyData.keyHash P (PySem.Str.ofString "cells"), key := PySem.Value.str (PySem.Str.ofString "cells") 560, val := PySem.Value.ref 293 }, { hash := PySem.PyData.keyHash P (PySem.Str.ofString "__static_attributes__"), key := PySem.Value.str (PySem.Str.ofString "__static_attributes__") 563, val := PySem.Value.ref 294 }, { hash := PySem.PyData.keyHash P (PySem.Str.ofString "__dict__"), key := PySem.Value.str (PySem.Str.ofString "__dict__") 565, val := PySem.Value.ref 297 }, { hash := PySem.PyData.keyHash P (PySem.Str.ofString "__weakref__"), key := PySem.Value.str (PySem.Str.ofString "__weakref__") 567, val := PySem.Value.ref 298 }, { hash := PySem.PyData.keyHash P (PySem.Str.ofString "__doc__"), key := PySem.Value.str (PySem.Str.ofString "__doc__") 568, val := PySem.Value.none }] 4 }),
  (296, { cls := PySem.Value.type "type", data := PySem.Data.cls { name := PySem.Str.ofString "Room", bases := [PySem.Value.type "object"], mro := [PySem.Value.ref 296, PySem.Value.type "object"], ns := 295, qualname := PySem.Str.ofString "Room" }, slots := #[none, none, some (PySem.Value.str (PySem.Str.ofString "Room") 460), some (PySem.Value.str (PySem.Str.ofString "Room") 468), some (PySem.Value.builtin "object.__new__"), some (PySem.Value.bool true)] }),
  (297, { cls := PySem.Value.type "getset_descriptor", data := PySem.Data.fields #[PySem.Value.str (PySem.Str.ofString "__dict__") 564, PySem.Value.ref 296, PySem.Value.builtin "function.__dict__", PySem.Value.builtin "function.__dict__#set"] }),
  (298, { cls := PySem.Value.type "getset_descriptor", data := PySem.Data.fields #[PySem.Value.str (PySem.Str.ofString "__weakref__") 566, PySem.Value.ref 296, PySem.Value.builtin "ExceptionGroup.__weakref__", PySem.Value.none] }),
  (306, { cls := PySem.Value.type "code", data := PySem.Data.fields #[PySem.Value.str (PySem.Str.ofString "_law_at") 573, PySem.Value.str (PySem.Str.ofString "_law_at") 574, PySem.Value.str (PySem.Str.ofString "/claim/cut.py") 575, PySem.Value.int 186 0, PySem.Value.int 2 0, PySem.Value.int 0 0, PySem.Value.int 0 0, PySem.Value.int 3 0, PySem.Value.ref 301, PySem.Value.bool true, PySem.Value.int 181 0, PySem.Value.ref 302, PySem.Value.none, PySem.Value.ref 303, PySem.Value.ref 304, PySem.Value.ref 305, PySem.Value.int 578 0, PySem.Value.int 186 0, PySem.Value.str (PySem.Str.ofString "/claim/cut.py") 579] }),
  (307, { cls := PySem.Value.type "function", data := PySem.Data.func { name := PySem.Str.ofString "_law_at", qualname := PySem.Str.ofString "_law_at", params := (dP 34), body := .stmts (dB 34), scope := (dS 34), globals := 3, closure := [], defaults := PySem.Value.none, kwdefaults := PySem.Value.none, pyModule := PySem.Value.str (PySem.Str.ofString "law_uf060004_08") 571, code := PySem.Value.ref 306 } }),
  (313, { cls := PySem.Value.type "code", data := PySem.Data.fields #[PySem.Value.str (PySem.Str.ofString "_law_is_int") 581, PySem.Value.str (PySem.Str.ofString "_law_is_int") 582, PySem.Value.str (PySem.Str.ofString "/claim/cut.py") 583, PySem.Value.int 188 0, PySem.Value.int 1 0, PySem.Value.int 0 0, PySem.Value.int 0 0, PySem.Value.int 3 0, PySem.Value.ref 308, PySem.Value.bool true, PySem.Value.int 181 0, PySem.Value.ref 309, PySem.Value.none, PySem.Value.ref 310, PySem.Value.ref 311, PySem.Value.ref 312, PySem.Value.int 585 0, PySem.Value.int 188 0, PySem.Value.str (PySem.Str.ofString "/claim/cut.py") 586] }),
  (314, { cls := PySem.Value.type "function", data := PySem.Data.func { name := PySem.Str.ofString "_law_is_int", qualname := PySem.Str.ofString "_law_is_int", params := (dP 35), body := .stmts (dB 35), scope := (dS 35), globals := 3, closure := [], defaults := PySem.Value.none, kwdefaults := PySem.Value.none, pyModule := PySem.Value.str (PySem.Str.ofString "law_uf060004_08") 571, code := PySem.Value.ref 313 } }),
  (318, { cls := PySem.Value.type "code", data := PySem.Data.fields #[PySem.Value.str (PySem.Str.ofString "_law_words_are") 588, PySem.Value.str (PySem.Str.ofString "_law_words_are") 589, PySem.Value.str (PySem.Str.ofString "/claim/cut.py") 590, PySem.Value.int 190 0, PySem.Value.int 2 0, PySem.Value.int 0 0, PySem.Value.int 0 0, PySem.Value.int 3 0, PySem.Value.ref 315, PySem.Value.bool true, PySem.Value.int 181 0, PySem.Value.ref 316, PySem.Value.none, PySem.Value.none, PySem.Value.none, PySem.Value.ref 317, PySem.Value.int 591 0, PySem.Value.int 190 0, PySem.Value.str (PySem.Str.ofString "/claim/cut.py") 592] }),
  (319, { cls := PySem.Value.type "function", data := PySem.Data.func { name := PySem.Str.ofString "_law_words_are", qualname := PySem.Str.ofString "_law_words_are", params := (dP 36), body := .stmts (dB 36), scope := (dS 36), globals := 3, closure := [], defaults := PySem.Value.none, kwdefaults := PySem.Value.none, pyModule := PySem.Value.str (PySem.Str.ofString "law_uf060004_08") 571, code := PySem.Value.ref 318 } }),
  (325, { cls := PySem.Value.type "code", data := PySem.Data.fields #[PySem.Value.str (PySem.Str.ofString "_law_number") 594, PySem.Value.str (PySem.Str.ofString "_law_number") 595, PySem.Value.str (PySem.Str.ofString "/claim/cut.py") 596, PySem.Value.int 194 0, PySem.Value.int 1 0, PySem.Value.int 0 0, PySem.Value.int 0 0, PySem.Value.int 3 0, PySem.Value.ref 320, PySem.Value.bool true, PySem.Value.int 181 0, PySem.Value.ref 321, PySem.Value.none, PySem.Value.ref 322, PySem.Value.ref 323, PySem.Value.ref 324, PySem.Value.int 598 0, PySem.Value.int 194 0, PySem.Value.str (PySem.Str.ofString "/claim/cut.py") 599] }),
  (326, { cls := PySem.Value.type "function", data := PySem.Data.func { name := PySem.Str.ofString "_law_number", qualname := PySem.Str.ofString "_law_number", params := (dP 37), body := .stmts (dB 37), scope := (dS 37), globals := 3, closure := [], defaults := PySem.Value.none, kwdefaults := PySem.Value.none, pyModule := PySem.Value.str (PySem.Str.ofString "law_uf060004_08") 571, code := PySem.Value.ref 325 } }),
  (332, { cls := PySem.Value.type "code", data := PySem.Data.fields #[PySem.Value.str (PySem.Str.ofString "_law_places_of") 601, PySem.Value.str (PySem.Str.ofString "_law_places_of") 602, PySem.Value.str (PySem.Str.ofString "/claim/cut.py") 603, PySem.Value.int 200 0, PySem.Value.int 2 0, PySem.Value.int 0 0, PySem.Value.int 0 0, PySem.Value.int 3 0, PySem.Value.ref 327, PySem.Value.bool true, PySem.Value.int 181 0, PySem.Value.ref 328, PySem.Value.none, PySem.Value.ref 329, PySem.Value.ref 330, PySem.Value.ref 331, PySem.Value.int 609 0, PySem.Value.int 200 0, PySem.Value.str (PySem.Str.ofString "/claim/cut.py") 610] }),
  (333, { cls := PySem.Value.type "function", data := PySem.Data.func { name := PySem.Str.ofString "_law_places_of", qualname := PySem.Str.ofString "_law_places_of", params := (dP 38), body := .stmts (dB 38), scope := (dS 38), globals := 3, closure := [], defaults := PySem.Value.none, kwdefaults := PySem.Value.none, pyModule := PySem.Value.str (PySem.Str.ofString "law_uf060004_08") 571, code := PySem.Value.ref 332 } }),
  (339, { cls := PySem.Value.type "code", data := PySem.Data.fields #[PySem.Value.str (PySem.Str.ofString "_law_cells_of") 612, PySem.Value.str (PySem.Str.ofString "_law_cells_of") 613, PySem.Value.str (PySem.Str.ofString "/claim/cut.py") 614, PySem.Value.int 207 0, PySem.Value.int 3 0, PySem.Value.int 0 0, PySem.Value.int 0 0, PySem.Value.int 3 0, PySem.Value.ref 334, PySem.Value.bool true, PySem.Value.int 181 0, PySem.Value.ref 335, PySem.Value.none, PySem.Value.ref 336, PySem.Value.ref 337, PySem.Value.ref 338, PySem.Value.int 622 0, PySem.Value.int 207 0, PySem.Value.str (PySem.Str.ofString "/claim/cut.py") 623] }),
  (340, { cls := PySem.Value.type "function", data := PySem.Data.func { name := PySem.Str.ofString "_law_cells_of", qualname := PySem.Str.ofString "_law_cells_of", params := (dP 39), body := .stmts (dB 39), scope := (dS 39), globals := 3, closure := [], defaults := PySem.Value.none, kwdefaults := PySem.Value.none, pyModule := PySem.Value.str (PySem.Str.ofString "law_uf060004_08") 571, code := PySem.Value.ref 339 } }),
  (346, { cls := PySem.Value.type "code", data := PySem.Data.fields #[PySem.Value.str (PySem.Str.ofString "_law_thing") 625, PySem.Value.str (PySem.Str.ofString "_law_thing") 626, PySem.Value.str (PySem.Str.ofString "/claim/cut.py") 627, PySem.Value.int 218 0, PySem.Value.int 2 0, PySem.Value.int 0 0, PySem.Value.int 0 0, PySem.Value.int 3 0, PySem.Value.ref 341, PySem.Value.bool true, PySem.Value.int 181 0, PySem.Value.ref 342, PySem.Value.none, PySem.Value.ref 343, PySem.Value.ref 344, PySem.Value.ref 345, PySem.Value.int 630 0, PySem.Value.int 218 0, PySem.Value.str (PySem.Str.ofString "/claim/cut.py") 631] }),
  (347, { cls := PySem.Value.type "function", data := PySem.Data.func { name := PySem.Str.ofString "_law_thing", qualname := PySem.Str.ofString "_law_thing", params := (dP 40), body := .stmts (dB 40), scope := (dS 40), globals := 3, closure := [], defaults := PySem.Value.none, kwdefaults := PySem.Value.none, pyModule := PySem.Value.str (PySem.Str.ofString "law_uf060004_08") 571, code := PySem.Value.ref 346 } }),
  (353, { cls := PySem.Value.type "code", data := PySem.Data.fields #[PySem.Value.str (PySem.Str.ofString "_law_handed") 633, PySem.Value.str (PySem.Str.ofString "_law_handed") 634, PySem.Value.str (PySem.Str.ofString "/claim/cut.py") 635, PySem.Value.int 222 0, PySem.Value.int 2 0, PySem.Value.int 0 0, PySem.Value.int 0 0, PySem.Value.int 3 0, PySem.Value.ref 348, PySem.Value.bool true, PySem.Value.int 181 0, PySem.Value.ref 349, PySem.Value.none, PySem.Value.ref 350, PySem.Value.ref 351, PySem.Value.ref 352, PySem.Value.int 638 0, PySem.Value.int 222 0, PySem.Value.str (PySem.Str.ofString "/claim/cut.py") 639] }),
  (354, { cls := PySem.Value.type "function", data := PySem.Data.func { name := PySem.Str.ofString "_law_handed", qualname := PySem.Str.ofString "_law_handed", params := (dP 41), body := .stmts (dB 41), scope := (dS 41), globals := 3, closure := [], defaults := PySem.Value.none, kwdefaults := PySem.Value.none, pyModule := PySem.Value.str (PySem.Str.ofString "law_uf060004_08") 571, code := PySem.Value.ref 353 } }),
  (358, { cls := PySem.Value.type "code", data := PySem.Data.fields #[PySem.Value.str (PySem.Str.ofString "_law_come_to") 641, PySem.Value.str (PySem.Str.ofString "_law_come_to") 642, PySem.Value.str (PySem.Str.ofString "/claim/cut.py") 643, PySem.Value.int 226 0, PySem.Value.int 2 0, PySem.Value.int 0 0, PySem.Value.int 0 0, PySem.Value.int 3 0, PySem.Value.ref 355, PySem.Value.bool true, PySem.Value.int 181 0, PySem.Value.ref 356, PySem.Value.none, PySem.Value.none, PySem.Value.none, PySem.Value.ref 357, PySem.Value.int 644 0, PySem.Value.int 226 0, PySem.Value.str (PySem.Str.ofString "/claim/cut.py") 645] }),
  (359, { cls := PySem.Value.type "function", data := PySem.Data.func { name := PySem.Str.ofString "_law_come_to", qualname := PySem.Str.ofString "_law_come_to", params := (dP 42), body := .stmts (dB 42), scope := (dS 42), globals := 3, closure := [], defaults := PySem.Value.none, kwdefaults := PySem.Value.none, pyModule := PySem.Value.str (PySem.Str.ofString "law_uf060004_08") 571, code := PySem.Value.ref 358 } }),
  (365, { cls := PySem.Value.type "code", data := PySem.Data.fields #[PySem.Value.str (PySem.Str.ofString "_law_many") 647, PySem.Value.str (PySem.Str.ofString "_law_many") 648, PySem.Value.str (PySem.Str.ofString "/claim/cut.py") 649, PySem.Value.int 234 0, PySem.Value.int 2 0, PySem.Value.int 0 0, PySem.Value.int 0 0, PySem.Value.int 3 0, PySem.Value.ref 360, PySem.Value.bool true, PySem.Value.int 181 0, PySem.Value.ref 361, PySem.Value.none, PySem.Value.ref 362, PySem.Value.ref 363, PySem.Value.ref 364, PySem.Value.int 652 0, PySem.Value.int 234 0, PySem.Value.str (PySem.Str.ofString "/claim/cut.py") 653] }),
  (366, { cls := PySem.Value.type "function", data := PySem.Data.func { name := PySem.Str.ofString "_law_many", qualname := PySem.Str.ofString "_law_many", params := (dP 43), body := .stmts (dB 43), scope := (dS 43), globals := 3, closure := [], defaults := PySem.Value.none, kwdefaults := PySem.Value.none, pyModule := PySem.Value.str (PySem.Str.ofString "law_uf060004_08") 571, code := PySem.Value.ref 365 } }),
  (370, { cls := PySem.Value.type "code", data := PySem.Data.fields #[PySem.Value.str (PySem.Str.ofString "_law_made") 655, PySem.Value.str (PySem.Str.ofString "_law_made") 656, PySem.Value.str (PySem.Str.ofString "/claim/cut.py") 657, PySem.Value.int 240 0, PySem.Value.int 4 0, PySem.Value.int 0 0, PySem.Value.int 0 0, PySem.Value.int 3 0, PySem.Value.ref 367, PySem.Value.bool true, PySem.Value.int 181 0, PySem.Value.ref 368, PySem.Value.none, PySem.Value.none, PySem.Value.none, PySem.Value.ref 369, PySem.Value.int 658 0, PySem.Value.int 240 0, PySem.Value.str (PySem.Str.ofString "/claim/cut.py") 659] }),
  (371, { cls := PySem.Value.type "function", data := PySem.Data.func { name := PySem.Str.ofString "_law_made", qualname := PySem.Str.ofString "_law_made", params := (dP 44), body := .stmts (dB 44), scope := (dS 44), globals := 3, closure := [], defaults := PySem.Value.none, kwdefaults := PySem.Value.none, pyModule := PySem.Value.str (PySem.Str.ofString "law_uf060004_08") 571, code := PySem.Value.ref 370 } }),
  (375, { cls := PySem.Value.type "code", data := PySem.Data.fields #[PySem.Value.str (PySem.Str.ofString "_law_put") 661, PySem.Value.str (PySem.Str.ofString "_law_put") 662, PySem.Value.str (PySem.Str.ofString "/claim/cut.py") 663, PySem.Value.int 264 0, PySem.Value.int 3 0, PySem.Value.int 0 0, PySem.Value.int 0 0, PySem.Value.int 3 0, PySem.Value.ref 372, PySem.Value.bool true, PySem.Value.int 181 0, PySem.Value.ref 373, PySem.Value.none, PySem.Value.none, PySem.Value.none, PySem.Value.ref 374, PySem.Value.int 664 0, PySem.Value.int 264 0, PySem.Value.str (PySem.Str.ofString "/claim/cut.py") 665] }),
  (376, { cls := PySem.Value.type "function", data := PySem.Data.func { name := PySem.Str.ofString "_law_put", qualname := PySem.Str.ofString "_law_put", params := (dP 45), body := .stmts (dB 45), scope := (dS 45), globals := 3, closure := [], defaults := PySem.Value.none, kwdefaults := PySem.Value.none, pyModule := PySem.Value.str (PySem.Str.ofString "law_uf060004_08") 571, code := PySem.Value.ref 375 } }),
  (380, { cls := PySem.Value.type "code", data := PySem.Data.fields #[PySem.Value.str (PySem.Str.ofString "_law_told") 667, PySem.Value.str (PySem.Str.ofString "_law_told") 668, PySem.Value.str (PySem.Str.ofString "/claim/cut.py") 669, PySem.Value.int 284 0, PySem.Value.int 2 0, PySem.Value.int 0 0, PySem.Value.int 0 0, PySem.Value.int 3 0, PySem.Value.ref 377, PySem.Value.bool true, PySem.Value.int 181 0, PySem.Value.ref 378, PySem.Value.none, PySem.Value.none, PySem.Value.none, PySem.Value.ref 379, PySem.Value.int 670 0, PySem.Value.int 284 0, PySem.Value.str (PySem.Str.ofString "/claim/cut.py") 671] }),
  (381, { cls := PySem.Value.type "function", data := PySem.Data.func { name := PySem.Str.ofString "_law_told", qualname := PySem.Str.ofString "_law_told", params := (dP 46), body := .stmts (dB 46), scope := (dS 46), globals := 3, closure := [], defaults := PySem.Value.none, kwdefaults := PySem.Value.none, pyModule := PySem.Value.str (PySem.Str.ofString "law_uf060004_08") 571, code := PySem.Value.ref 380 } }),
  (385, { cls := PySem.Value.type "code", data := PySem.Data.fields #[PySem.Value.str (PySem.Str.ofString "_law_stands") 673, PySem.Value.str (PySem.Str.ofString "_law_stands") 674, PySem.Value.str (PySem.Str.ofString "/claim/cut.py") 675, PySem.Value.int 299 0, PySem.Value.int 2 0, PySem.Value.int 0 0, PySem.Value.int 0 0, PySem.Value.int 3 0, PySem.Value.ref 382, PySem.Value.bool true, PySem.Value.int 181 0, PySem.Value.ref 383, PySem.Value.none, PySem.Value.none, PySem.Value.none, PySem.Value.ref 384, PySem.Value.int 676 0, PySem.Value.int 299 0, PySem.Value.str (PySem.Str.ofString "/claim/cut.py") 677] }),
  (386, { cls := PySem.Value.type "function", data := PySem.Data.func { name := PySem.Str.ofString "_law_stands", qualname := PySem.Str.ofString "_law_stands", params := (dP 47), body := .stmts (dB 47), scope := (dS 47), globals := 3, closure := [], defaults := PySem.Value.none, kwdefaults := PySem.Value.none, pyModule := PySem.Value.str (PySem.Str.ofString "law_uf060004_08") 571, code := PySem.Value.ref 385 } }),
  (392, { cls := PySem.Value.type "code", data := PySem.Data.fields #[PySem.Value.str (PySem.Str.ofString "_law_begun") 679, PySem.Value.str (PySem.Str.ofString "_law_begun") 680, PySem.Value.str (PySem.Str.ofString "/claim/cut.py") 681, PySem.Value.int 318 0, PySem.Value.int 1 0, PySem.Value.int 0 0, PySem.Value.int 0 0, PySem.Value.int 3 0, PySem.Value.ref 387, PySem.Value.bool true, PySem.Value.int 181 0, PySem.Value.ref 388, PySem.Value.none, PySem.Value.ref 389, PySem.Value.ref 390, PySem.Value.ref 391, PySem.Value.int 686 0, PySem.Value.int 318 0, PySem.Value.str (PySem.Str.ofString "/claim/cut.py") 687] }),
  (393, { cls := PySem.Value.type "function", data := PySem.Data.func { name := PySem.Str.ofString "_law_begun", qualname := PySem.Str.ofString "_law_begun", params := (dP 48), body := .stmts (dB 48), scope := (dS 48), globals := 3, closure := [], defaults := PySem.Value.none, kwdefaults := PySem.Value.none, pyModule := PySem.Value.str (PySem.Str.ofString "law_uf060004_08") 571, code := PySem.Value.ref 392 } }),
  (399, { cls := PySem.Value.type "code", data := PySem.Data.fields #[PySem.Value.str (PySem.Str.ofString "_law_refused") 689, PySem.Value.str (PySem.Str.ofString "_law_refused") 690, PySem.Value.str (PySem.Str.ofString "/claim/cut.py") 691, PySem.Value.int 325 0, PySem.Value.int 3 0, PySem.Value.int 0 0, PySem.Value.int 0 0, PySem.Value.int 3 0, PySem.Value.ref 394, PySem.Value.bool true, PySem.Value.int 181 0, PySem.Value.ref 395, PySem.Value.none, PySem.Value.ref 396, PySem.Value.ref 397, PySem.Value.ref 398, PySem.Value.int 695 0, PySem.Value.int 325 0, PySem.Value.str (PySem.Str.ofString "/claim/cut.py") 696] }),
  (400, { cls := PySem.Value.type "function", data := PySem.Data.func { name := PySem.Str.ofString "_law_refused", qualname := PySem.Str.ofString "_law_refused", params := (dP 49), body := .stmts (dB 49), scope := (dS 49), globals := 3, closure := [], defaults := PySem.Value.none, kwdefaults := PySem.Value.none, pyModule := PySem.Value.str (PySem.Str.ofString "law_uf060004_08") 571, code := PySem.Value.ref 399 } }),
  (404, { cls := PySem.Value.type "code", data := PySem.Data.fields #[PySem.Value.str (PySem.Str.ofString "_law_no_boxes") 698, PySem.Value.str (PySem.Str.ofString "_law_no_boxes") 699, PySem.Value.str (PySem.Str.ofString "/claim/cut.py") 700, PySem.Value.int 336 0, PySem.Value.int 4 0, PySem.Value.int 0 0, PySem.Value.int 0 0, PySem.Value.int 3 0, PySem.Value.ref 401, PySem.Value.bool true, PySem.Value.int 181 0, PySem.Value.ref 402, PySem.Value.none, PySem.Value.none, PySem.Value.none, PySem.Value.ref 403, PySem.Value.int 701 0, PySem.Value.int 336 0, PySem.Value.str (PySem.Str.ofString "/claim/cut.py") 702] }),
  (405, { cls := PySem.Value.type "function", data := PySem.Data.func { name := PySem.Str.ofString "_law_no_boxes", qualname := PySem.Str.ofString "_law_no_boxes", params := (dP 50), body := .stmts (dB 50), scope := (dS 50), globals := 3, closure := [], defaults := PySem.Value.none, kwdefaults := PySem.Value.none, pyModule := PySem.Value.str (PySem.Str.ofString "law_uf060004_08") 571, code := PySem.Value.ref 404 } }),
  (409, { cls := PySem.Value.type "code", data := PySem.Data.fields #[PySem.Value.str (PySem.Str.ofString "_law_pushed") 704, PySem.Value.str (PySem.Str.ofString "_law_pushed") 705, PySem.Value.str (PySem.Str.ofString "/claim/cut.py") 706, PySem.Value.int 344 0, PySem.Value.int 2 0, PySem.Value.int 0 0, PySem.Value.int 0 0, PySem.Value.int 3 0, PySem.Value.ref 406, PySem.Value.bool true, PySem.Value.int 181 0, PySem.Value.ref 407, PySem.Value.none, PySem.Value.none, PySem.Value.none, PySem.Value.ref 408, PySem.Value.int 707 0, PySem.Value.int 344 0, PySem.Value.str (PySem.Str.ofString "/claim/cut.py") 708] }),
  (410, { cls := PySem.Value.type "function", data := PySem.Data.func { name := PySem.Str.ofString "_law_pushed", qualname := PySem.Str.ofString "_law_pushed", params := (dP 51), body := .stmts (dB 51), scope := (dS 51), globals := 3, closure := [], defaults := PySem.Value.none, kwdefaults := PySem.Value.none, pyModule := PySem.Value.str (PySem.Str.ofString "law_uf060004_08") 571, code := PySem.Value.ref 409 } }),
  (416, { cls := PySem.Value.type "code", data := PySem.Data.fields #[PySem.Value.str (PySem.Str.ofString "law") 710, PySem.Value.str (PySem.Str.ofString "law") 711, PySem.Value.str (PySem.Str.ofString "/claim/cut.py") 712, PySem.Value.int 355 0, PySem.Value.int 1 0, PySem.Value.int 0 0, PySem.Value.int 0 0, PySem.Value.int 3 0, PySem.Value.ref 411, PySem.Value.bool true, PySem.Value.int 181 0, PySem.Value.ref 412, PySem.Value.none, PySem.Value.ref 413, PySem.Value.ref 414, PySem.Value.ref 415, PySem.Value.int 720 0, PySem.Value.int 355 0, PySem.Value.str (PySem.Str.ofString "/claim/cut.py") 721] }),
  (417, { cls := PySem.Value.type "function", data := PySem.Data.func { name := PySem.Str.ofString "law", qualname := PySem.Str.ofString "law", params := (dP 52), body := .stmts (dB 52), scope := (dS 52), globals := 3, closure := [], defaults := PySem.Value.none, kwdefaults := PySem.Value.none, pyModule := PySem.Value.str (PySem.Str.ofString "law_uf060004_08") 571, code := PySem.Value.ref 416 } })]
noncomputable def kas : List Addr := [3, 93, 94, 100, 101, 107, 108, 114, 115, 121, 122, 128, 129, 135, 136, 142, 143, 149, 150, 156, 157, 163, 164, 170, 171, 177, 178, 184, 185, 191, 192, 198, 199, 205, 206, 212, 213, 226, 227, 233, 234, 240, 241, 245, 246, 252, 253, 259, 260, 266, 267, 271, 272, 278, 279, 285, 286, 292, 293, 294, 295, 296, 297, 298, 306, 307, 313, 314, 318, 319, 325, 326, 332, 333, 339, 340, 346, 347, 353, 354, 358, 359, 365, 366, 370, 371, 375, 376, 380, 381, 385, 386, 392, 393, 399, 400, 404, 405, 409, 410, 416, 417]
noncomputable def hBody : List Stmt := PySem.Challenge.pw_uf060004_08.main.body
noncomputable def hView : Program := { PySem.Challenge.pw_uf060004_08 with main := { PySem.Challenge.pw_uf060004_08.main with body := (hBody.drop 1).take 6 ++ ((hBody.drop 8).take 7 ++ ((hBody.drop 16).take 2 ++ ((hBody.drop 19).take 7 ++ ((hBody.drop 27).take 6 ++ hBody.drop 34)))) } }
noncomputable def hLoose : List Str := [Str.ofString "pushed_sliding"]
noncomputable def hXt (s : Shared) : Bool := xlAt hView [] s && recOk (RowW.records (OpenRow.toRowW PySem.Challenge.rw_uf060004_08.row)) s
noncomputable abbrev hEnds (w : World) : Option Shared := openEnds treeTable PySem.Challenge.pw_uf060004_08 w 6088
theorem hlA : ∀ w : World, (hEnds w).map (fun s => (seen ((recsOf hView).map (·.name)) (ownsOf hView) [] { s with gens := #[] }, s.heap.bltView)) = some (expectedOf hView, bltViewBooted) := fun w => by kernel_rfl
theorem hlB : ∀ w : World, (hEnds w).map (fun s => ((s.heap.keysOk (looseW hView hLoose) ((recsOf hView).map (·.name)) ((litsOf hView).map (·.1)) ((clssOf hView (looseW hView hLoose)).map (·.name)) && s.heap.accountedOkI (importedModules PySem.Challenge.pw_uf060004_08.main.body) && s.heap.isNs mainGlobals && s.heap.isNs builtinsNs && tablesOk hView s.heap && hXt s && (if true then s.gens.size == 0 else !leftWithCleanup s.gens)), kas.map s.heap.get?)) = some (true, (kk w.params).map fun p => some p.2) := fun w => by kernel_rfl
theorem hlC : ∀ w : World, (hEnds w).map (fun s => (tabsOk hView s, pinSeenD hView (drecsOf hView) s, plainSeenE hView (looseW hView hLoose) s, plainSeenD hView hLoose s, wideSeen hView s, clsSeenW hView hLoose s)) = some (true, pinGoodD (drecsOf hView), plainGoodE hView (looseW hView hLoose), plainGoodD hView hLoose, wideGood hView, clsGoodW hView hLoose) := fun w => by kernel_rfl
theorem hLeft3 {α β γ δ : Type} {x : Option Shared} {f : Shared → α} {g : Shared → β} {y : Shared → γ} {h : Shared → δ} {a : α} {b : β} {c : γ} {d : δ} (h1 : x.map f = some a) (h2 : x.map (fun s => (g s, y s)) = some (b, c)) (h3 : x.map h = some d) :
    x.map (fun s => (f s, g s, h s, y s)) = some (a, b, d, c) := by
  obtain ⟨s, rfl, rfl⟩ := Option.map_eq_some_iff.mp h1
  have h2 := Option.some.inj h2
  have h3 := Option.some.inj h3
  rw [Option.map_some, ← h3, ← (Prod.mk.inj h2).1, ← (Prod.mk.inj h2).2]
theorem hLeft : LeftO PySem.Challenge.pw_uf060004_08 hView hLoose hXt (fun s => kas.map s.heap.get?) (fun w => (kk w.params).map fun p => some p.2) 6088 := fun w => by
  have h := hLeft3 (hlA w) (hlB w) (hlC w)
  have := congrArg (Option.map fun p => (((p.1.1, p.1.2, p.2.1, p.2.2.1) : _ × _ × _ × _), p.2.2.2)) h
  rw [Option.map_map] at this
  exact this
end Mine
end

section
namespace Mine
open PySem PyProof.Rows

inductive V where
  | unb | none | bool (b : Bool) | int (i : Int) | str (x : Str) | ref (a : Addr) | other | exc (C : Addr)

noncomputable def abs : Value → V
  | .none => .none
  | .bool b => .bool b
  | .int i _ => .int i
  | .str x _ => .str x
  | .ref a => .ref a
  | _ => .other

inductive O where
  | list (vs : List V)
  | tup (vs : List V)
  | inst (C dx : Addr)
  | flds (fs : List (Str × V))
  | dct (kvs : List (Int × V))

noncomputable def keyS (e : DictEntry) : Option Str := match e.key with
  | .str x _ => some x
  | _ => none

noncomputable def Rep (h : Heap) (a : Addr) : O → Prop
  | .list vs => ∃ items n, h.get? a = some { cls := .type "list", data := .seq items n } ∧ items.toList.map abs = vs
  | .tup vs => ∃ items n, h.get? a = some { cls := .type "tuple", data := .seq items n } ∧ items.toList.map abs = vs
  | .inst C dx => h.get? a = some (PySem.W.instObj C dx)
  | .flds fs => ∃ es n, h.get? a = some (PySem.W.dictOf es n) ∧ es.map (fun e => (keyS e, abs e.val)) = fs.map fun p => (some p.1, p.2)
  | .dct kvs => ∃ p w, ∃ ws : List (Int × Value), h.DictOf (intKind p w) a ws ∧ ws.map (fun q => (q.1, abs q.2)) = kvs

theorem Rep.get {h : Heap} {a : Addr} : ∀ {o : O}, Rep h a o → ∃ ob, h.get? a = some ob
  | .list _, ⟨_, _, e, _⟩ => ⟨_, e⟩
  | .tup _, ⟨_, _, e, _⟩ => ⟨_, e⟩
  | .inst _ _, e => ⟨_, e⟩
  | .flds _, ⟨_, _, e, _⟩ => ⟨_, e⟩
  | .dct _, ⟨_, _, _, ⟨o, _, _, e, _⟩, _⟩ => ⟨o, e⟩

theorem Rep.of_eq {h h' : Heap} {a : Addr} (e : h'.get? a = h.get? a) : ∀ {o : O}, Rep h a o → Rep h' a o
  | .list _, ⟨i, n, q, m⟩ => ⟨i, n, e.trans q, m⟩
  | .tup _, ⟨i, n, q, m⟩ => ⟨i, n, e.trans q, m⟩
  | .inst _ _, q => Eq.trans e q
  | .flds _, ⟨i, n, q, m⟩ => ⟨i, n, e.trans q, m⟩
  | .dct _, ⟨p, w, ws, ⟨o, es, ep, q, r⟩, m⟩ => ⟨p, w, ws, ⟨o, es, ep, e.trans q, r⟩, m⟩

theorem Pairs.any {p p' : Program} {w w' : World} {es : List DictEntry} {ws : List (Int × Value)} (h : Pairs (intKind p w) es ws) : Pairs (intKind p' w') es ws := by
  induction h with
  | nil => exact .nil
  | cons a b _ ih => exact .cons a b ih
theorem DictOf.any {p p' : Program} {w w' : World} {h : Heap} {a : Addr} {ws : List (Int × Value)} (d : h.DictOf (intKind p w) a ws) : h.DictOf (intKind p' w') a ws := let ⟨o, es, ep, e, x, y, z, u, v⟩ := d; ⟨o, es, ep, e, x, y, z, Pairs.any u, v⟩
theorem Rep.keep {h h' : Heap} {a : Addr} (k : ∀ o, h.get? a = some o → h'.get? a = some o) {o : O} (r : Rep h a o) : Rep h' a o := by
  obtain ⟨ob, e⟩ := r.get
  exact r.of_eq ((k _ e).trans e.symm)

noncomputable abbrev HP := Addr → Option O

noncomputable def upd (H : HP) (a : Addr) (o : O) : HP := fun b => if b = a then some o else H b

theorem upd_same (H : HP) (a : Addr) (o : O) : upd H a o a = some o := by simp [upd]
theorem upd_ne {H : HP} {a b : Addr} (o : O) (h : b ≠ a) : upd H a o b = H b := by simp [upd, h]
theorem upd_upd (H : HP) (a : Addr) (o o' : O) : upd (upd H a o) a o' = upd H a o' := by
  funext b; by_cases h : b = a <;> simp [upd, h]

noncomputable def LE (H H' : HP) : Prop := ∀ a o, H a = some o → H' a = some o
theorem LE.refl (H : HP) : LE H H := fun _ _ e => e
theorem LE.trans {A B C : HP} (x : LE A B) (y : LE B C) : LE A C := fun a o e => y a o (x a o e)
theorem LE.upd {H H' : HP} (x : LE H H') (a : Addr) (o : O) : LE (Mine.upd H a o) (Mine.upd H' a o) := by
  intro b o' e
  by_cases h : b = a
  · subst h; rw [upd_same] at e ⊢; exact e
  · rw [upd_ne _ h] at e ⊢; exact x _ _ e
theorem LE.fresh {H : HP} {a : Addr} (h : H a = Option.none) (o : O) : LE H (Mine.upd H a o) := by
  intro b o' e
  by_cases hb : b = a
  · subst hb; rw [h] at e; cases e
  · rw [upd_ne _ hb]; exact e

structure Cx where
  prog : Program
  w : World
  base : Heap
  Z : Addr → Option (List V)
  gl : Str → Option Value

noncomputable def GlobAt (h : Heap) (x : Str) (v : Value) : Prop :=
  (∃ mg, h.Ns mainGlobals mg ∧ mg x = some v) ∨ ∃ mg mb, h.Ns mainGlobals mg ∧ mg x = none ∧ h.Ns builtinsNs mb ∧ mb x = some v

structure Cx.OK (cx : Cx) : Prop where
  nolimit : cx.base.NoLimit
  seer : cx.base.NoSeer
  tree : cx.prog.given.tree = none
  glob : ∀ x v, cx.gl x = some v → GlobAt cx.base x v
  z : ∀ a vs, cx.Z a = some vs → Rep cx.base a (.list vs)

noncomputable def getL : List V → Nat → V
  | [], _ => .unb
  | a :: _, 0 => a
  | _ :: l, n + 1 => getL l n
noncomputable def setL : List V → Nat → V → List V
  | [], _, _ => []
  | _ :: l, 0, v => v :: l
  | a :: l, n + 1, v => a :: setL l n v

theorem setL_length : ∀ (l : List V) (i : Nat) (v : V), (setL l i v).length = l.length
  | [], _, _ => rfl
  | _ :: _, 0, _ => rfl
  | _ :: l, n + 1, v => by simp [setL, setL_length l n v]
theorem getL_setL_same : ∀ (l : List V) (i : Nat) (v : V), i < l.length → getL (setL l i v) i = v
  | _ :: _, 0, _, _ => rfl
  | _ :: l, n + 1, v, h => getL_setL_same l n v (Nat.lt_of_succ_lt_succ h)
theorem getL_setL_ne : ∀ (l : List V) (i j : Nat) (v : V), i ≠ j → getL (setL l i v) j = getL l j
  | [], _, _, _, _ => rfl
  | _ :: _, 0, 0, _, h => absurd rfl h
  | _ :: _, 0, _ + 1, _, _ => rfl
  | _ :: _, _ + 1, 0, _, _ => rfl
  | _ :: l, n + 1, m + 1, v, h => getL_setL_ne l n m v (fun e => h (by rw [e]))

structure Fm where
  env : Env
  names : List (Option Str)
  l : List Env

noncomputable def SO (o o' : Obj) : Prop := o' = o ∨ ((∃ es ep, o.data = .dict es ep) ∧ ∃ sl, o' = { o with slots := sl })
theorem SO.refl (o : Obj) : SO o o := .inl rfl
theorem SO.data {o o' : Obj} (x : SO o o') : o'.data = o.data := by
  rcases x with rfl | ⟨_, sl, rfl⟩ <;> rfl
theorem SO.trans {o o' o'' : Obj} (x : SO o o') (y : SO o' o'') : SO o o'' := by
  rcases x with rfl | ⟨d, sl, rfl⟩
  · exact y
  · rcases y with rfl | ⟨_, sl', rfl⟩
    · exact .inr ⟨d, sl, rfl⟩
    · exact .inr ⟨d, sl', rfl⟩
theorem SO.same {o o' : Obj} (x : SO o o') (h : ∀ es ep, o.data ≠ .dict es ep) : o' = o := by
  rcases x with rfl | ⟨⟨es, ep, d⟩, _⟩
  · rfl
  · exact absurd d (h es ep)
theorem Ns.so {h h' : Heap} {a : Addr} {m : Str → Option Value} (x : h.Ns a m) (k : ∀ o, h.get? a = some o → ∃ o', h'.get? a = some o' ∧ SO o o') : h'.Ns a m := by
  obtain ⟨o, es, ep, e, hd, r⟩ := x
  obtain ⟨o', e', so⟩ := k o e
  exact ⟨o', es, ep, e', so.data.trans hd, r⟩
noncomputable def FrL (b : Heap) (H : HP) (h : Heap) (l : List Env) : Prop := ∀ e ∈ l, e.scope.kind ≠ .module ∧ ∃ L o es ep, e.frame = some L ∧ b.get? L = none ∧ H L = none ∧ h.get? L = some o ∧ o.data = .dict es ep
noncomputable def Fm.fr (fm : Fm) (a : Addr) : Prop := ∃ e ∈ fm.l, e.frame = some a

noncomputable def Fm.own (fm : Fm) (a : Addr) : Prop := a = fm.env.locals ∨ ∃ x, fm.env.cells.lookup x = some a

noncomputable def VarAt (env : Env) (h : Heap) (x : Str) (v : Option Value) : Prop :=
  (env.kindOf x = some .local ∧ ∃ m, h.Ns env.locals m ∧ m x = v) ∨ (env.kindOf x = some .cell ∧ ∃ c, env.cells.lookup x = some c ∧ h.IsCell c v)

structure Fm.OK (cx : Cx) (A : Around) (fm : Fm) : Prop where
  frames : A.frames = some fm.l
  kind : fm.env.scope.kind = .function
  globals : fm.env.globals = mainGlobals
  builtins : fm.env.builtins = builtinsNs
  cellsNe : ∀ x c, fm.env.cells.lookup x = some c → c ≠ fm.env.locals
  cellsInj : ∀ x y c, fm.env.cells.lookup x = some c → fm.env.cells.lookup y = some c → x = y
  inj : ∀ (i j : Nat) (x : Str), fm.names[i]? = some (some x) → fm.names[j]? = some (some x) → i = j
  above : ∀ a, fm.own a → cx.base.get? a = none
  cellAt : ∀ x, fm.env.kindOf x = some .cell → ∃ c, fm.env.cells.lookup x = some c

structure FR (fm : Fm) (μ : List V) (h : Heap) : Prop where
  len : μ.length = fm.names.length
  live : ∀ a, fm.own a → ∃ o, h.get? a = some o
  ns : ∃ m, h.Ns fm.env.locals m
  var : ∀ (i : Nat) (x : Str), fm.names[i]? = some (some x) → ∃ ov, VarAt fm.env h x ov ∧ (getL μ i = .unb ∨ ∃ v, ov = some v ∧ abs v = getL μ i)

structure HS (cx : Cx) (H : HP) (s : Shared) : Prop where
  hr : ∀ a o, H a = some o → Rep s.heap a o
  ext : ∀ b o, cx.base.get? b = some o → s.heap.get? b = some o
  low : ∀ a o, H a = some o → cx.base.get? a = none

structure SR (cx : Cx) (fm : Fm) (H : HP) (μ : List V) (s : Shared) : Prop extends HS cx H s where
  fr : FR fm μ s.heap
  own : ∀ a o, H a = some o → ¬ fm.own a
  ff : FrL cx.base H s.heap fm.l

structure Kept (ow : Addr → Prop) (s : Shared) (H : HP) (s' : Shared) (H' : HP) : Prop where
  keep : ∀ b o, s.heap.get? b = some o → H b = none → ¬ ow b → ∃ o', s'.heap.get? b = some o' ∧ SO o o'
  dom : ∀ a o, s.heap.get? a = some o → H a = none → ¬ ow a → H' a = none
  os : s'.os = s.os
  gens : s'.gens = s.gens

noncomputable abbrev KE (s : Shared) (H : HP) (s' : Shared) (H' : HP) : Prop := Kept (fun _ => False) s H s' H'

theorem Kept.refl (ow : Addr → Prop) (s : Shared) (H : HP) : Kept ow s H s H := ⟨fun _ o e _ _ => ⟨o, e, .refl o⟩, fun _ _ _ e _ => e, rfl, rfl⟩
theorem Kept.trans {ow : Addr → Prop} {s s₁ s₂ : Shared} {H H₁ H₂ : HP} (x : Kept ow s H s₁ H₁) (y : Kept ow s₁ H₁ s₂ H₂) : Kept ow s H s₂ H₂ :=
  ⟨fun b o e n w => (let ⟨_, e1, s1⟩ := x.keep b o e n w; let ⟨o2, e2, s2⟩ := y.keep b _ e1 (x.dom b o e n w) w; ⟨o2, e2, s1.trans s2⟩),
    fun a o e n w => (let ⟨o1, e1, _⟩ := x.keep a o e n w; y.dom a o1 e1 (x.dom a o e n w) w), y.os.trans x.os, y.gens.trans x.gens⟩
theorem Kept.same {ow : Addr → Prop} {s s' : Shared} {H H' : HP} (x : Kept ow s H s' H') {b : Addr} {o : Obj} (e : s.heap.get? b = some o) (hn : H b = none) (hw : ¬ ow b) (hd : ∀ es ep, o.data ≠ .dict es ep) : s'.heap.get? b = some o := by
  obtain ⟨o', e', so⟩ := x.keep b o e hn hw
  rw [so.same hd] at e'; exact e'
theorem FrL.le {b : Heap} {H H' : HP} {h : Heap} {l : List Env} (x : FrL b H' h l) (le : LE H H') : FrL b H h l := fun e he => by
  obtain ⟨k, L, o, es, ep, h1, h2, h3, r⟩ := x e he
  refine ⟨k, L, o, es, ep, h1, h2, ?_, r⟩
  cases q : H L with
  | none => rfl
  | some o => rw [le L o q] at h3; cases h3
theorem FrL.kept {b : Heap} {ow : Addr → Prop} {s s' : Shared} {H H' : HP} {l : List Env} (x : FrL b H s.heap l) (k : Kept ow s H s' H') (hw : ∀ e ∈ l, ∀ L, e.frame = some L → ¬ ow L) : FrL b H' s'.heap l := fun e he => by
  obtain ⟨kd, L, o, es, ep, h1, h2, h3, h4, h5⟩ := x e he
  obtain ⟨o', e', so⟩ := k.keep L o h4 h3 (hw e he L h1)
  exact ⟨kd, L, o', es, ep, h1, h2, k.dom L o h4 h3 (hw e he L h1), e', so.data.trans h5⟩
theorem FrL.heap {b : Heap} {H : HP} {h h' : Heap} {l : List Env} (x : FrL b H h l) (k : ∀ e ∈ l, ∀ L o, e.frame = some L → h.get? L = some o → h'.get? L = some o) : FrL b H h' l := fun e he => by
  obtain ⟨kd, L, o, es, ep, h1, h2, h3, h4, h5⟩ := x e he
  exact ⟨kd, L, o, es, ep, h1, h2, h3, k e he L o h1 h4, h5⟩
theorem Kept.mono {ow ow' : Addr → Prop} (h : ∀ a, ow a → ow' a) {s s' : Shared} {H H' : HP} (x : Kept ow s H s' H') : Kept ow' s H s' H' :=
  ⟨fun b o e n w => x.keep b o e n (fun q => w (h b q)), fun b o e n w => x.dom b o e n (fun q => w (h b q)), x.os, x.gens⟩
theorem KE.any {s s' : Shared} {H H' : HP} (x : KE s H s' H') (ow : Addr → Prop) : Kept ow s H s' H' := x.mono fun _ q => q.elim

theorem HS.toks {cx : Cx} {H : HP} {s : Shared} (S : HS cx H s) (n : Nat) : HS cx H { s with toks := n } := ⟨S.hr, S.ext, S.low⟩
theorem HS.le {cx : Cx} {H H' : HP} {s : Shared} (S : HS cx H' s) (l : LE H H') : HS cx H s :=
  ⟨fun a o e => S.hr a o (l a o e), S.ext, fun a o e => S.low a o (l a o e)⟩
theorem SR.le {cx : Cx} {fm : Fm} {H H' : HP} {μ : List V} {s : Shared} (S : SR cx fm H' μ s) (l : LE H H') : SR cx fm H μ s :=
  ⟨S.toHS.le l, S.fr, fun a o e => S.own a o (l a o e), S.ff.le l⟩
theorem Kept.le {ow : Addr → Prop} {s s' : Shared} {H H₁ H₂ : HP} (x : Kept ow s H s' H₂) (l : LE H₁ H₂) : Kept ow s H s' H₁ :=
  ⟨x.keep, fun a ob q n w => (by
    cases e : H₁ a with
    | none => rfl
    | some o => exact absurd (l a o e) (by rw [x.dom a ob q n w]; simp)), x.os, x.gens⟩

theorem lookup_mem {α β : Type} [BEq α] [LawfulBEq α] {x : α} {c : β} : ∀ {l : List (α × β)}, l.lookup x = some c → (x, c) ∈ l
  | (y, d) :: l, e => by
    rw [List.lookup_cons] at e
    cases h : x == y with
    | true => rw [h] at e; cases e; rw [eq_of_beq h]; exact List.mem_cons_self
    | false => rw [h] at e; exact List.mem_cons_of_mem _ (lookup_mem e)

theorem VarAt.keep {env : Env} {h h' : Heap} {x : Str} {v : Option Value}
    (k : ∀ b o, (b = env.locals ∨ ∃ y, env.cells.lookup y = some b) → h.get? b = some o → ∃ o', h'.get? b = some o' ∧ SO o o') (w : VarAt env h x v) : VarAt env h' x v := by
  rcases w with ⟨k1, m, hn, hm⟩ | ⟨k1, c, hc, o, e, hd⟩
  · exact .inl ⟨k1, m, Ns.so hn fun o e => k _ _ (.inl rfl) e, hm⟩
  · obtain ⟨o', e', so⟩ := k _ _ (.inr ⟨x, hc⟩) e
    rw [so.same fun es ep q => by rw [hd] at q; cases q] at e'
    exact .inr ⟨k1, c, hc, o, e', hd⟩

theorem FR.keep {fm : Fm} {μ : List V} {h h' : Heap} (F : FR fm μ h) (k : ∀ b o, fm.own b → h.get? b = some o → ∃ o', h'.get? b = some o' ∧ SO o o') : FR fm μ h' :=
  ⟨F.len, fun a q => (let ⟨o, e⟩ := F.live a q; let ⟨o', e', _⟩ := k a o q e; ⟨o', e'⟩), by obtain ⟨m, hm⟩ := F.ns; exact ⟨m, Ns.so hm fun o e => k _ _ (.inl rfl) e⟩, fun i x e => by
    obtain ⟨ov, w, q⟩ := F.var i x e
    exact ⟨ov, w.keep (fun b o => k b o), q⟩⟩

theorem SR.step {cx : Cx} {fm : Fm} {H H' : HP} {μ : List V} {s s' : Shared} (S : SR cx fm H μ s) (S' : HS cx H' s') (k : KE s H s' H') : SR cx fm H' μ s' := by
  have hn : ∀ b, fm.own b → H b = none := fun b q => by
    cases e : H b with
    | none => rfl
    | some o => exact absurd q (S.own b o e)
  refine ⟨S', S.fr.keep (fun b o q e => k.keep b o e (hn b q) id), fun a o e q => ?_, S.ff.kept k fun _ _ _ _ => id⟩
  obtain ⟨ob, l⟩ := S.fr.live a q
  rw [k.dom a ob l (hn a q) id] at e
  cases e

theorem HS.grow {cx : Cx} {H : HP} {s : Shared} (S : HS cx H s) {h' : Heap} (k : ∀ b o, s.heap.get? b = some o → h'.get? b = some o) (n : Nat) :
    HS cx H { s with heap := h', toks := n } :=
  ⟨fun a o e => (S.hr a o e).keep (k a), fun b o e => k b o (S.ext b o e), S.low⟩
theorem KE.grow {s : Shared} {H : HP} {h' : Heap} (k : ∀ b o, s.heap.get? b = some o → h'.get? b = some o) (n : Nat) :
    KE s H { s with heap := h', toks := n } H := ⟨fun b o e _ _ => ⟨o, k b o e, .refl o⟩, fun _ _ _ e _ => e, rfl, rfl⟩
theorem KE.toks (s : Shared) (H : HP) (n : Nat) : KE s H { s with toks := n } H := ⟨fun _ o e _ _ => ⟨o, e, .refl o⟩, fun _ _ _ e _ => e, rfl, rfl⟩

noncomputable def Fresh (cx : Cx) (H : HP) (r : Addr) : Prop := H r = none ∧ cx.base.get? r = none ∧ cx.Z r = none

theorem HS.none_of {cx : Cx} {H : HP} {s : Shared} (S : HS cx H s) {r : Addr} (h : s.heap.get? r = none) : H r = none := by
  cases e : H r with
  | none => rfl
  | some o =>
    obtain ⟨ob, q⟩ := (S.hr r o e).get
    rw [h] at q; cases q
theorem HS.base_none {cx : Cx} {H : HP} {s : Shared} (S : HS cx H s) {r : Addr} (h : s.heap.get? r = none) : cx.base.get? r = none := by
  cases e : cx.base.get? r with
  | none => rfl
  | some o => rw [S.ext r o e] at h; cases h
theorem HS.fresh {cx : Cx} (C : cx.OK) {H : HP} {s : Shared} (S : HS cx H s) {r : Addr} (h : s.heap.get? r = none) : Fresh cx H r :=
  ⟨S.none_of h, S.base_none h, by
    cases e : cx.Z r with
    | none => rfl
    | some vs =>
      obtain ⟨ob, q⟩ := (C.z r vs e).get
      rw [S.base_none h] at q; cases q⟩
theorem get_size (h : Heap) : h.get? h.objs.size = none := by
  cases e : h.get? h.objs.size with
  | none => rfl
  | some o => exact absurd (Heap.lt_size e) (Nat.lt_irrefl _)

theorem HS.alloc {cx : Cx} {H : HP} {s : Shared} (S : HS cx H s) {h' : Heap} {r : Addr} {o : O} (k : ∀ b o, s.heap.get? b = some o → h'.get? b = some o)
    (hr : s.heap.get? r = none) (R : Rep h' r o) (n : Nat) : HS cx (upd H r o) { s with heap := h', toks := n } := by
  have G := S.grow k n
  refine ⟨fun a o' e => ?_, G.ext, fun a o' e => ?_⟩
  · by_cases h : a = r
    · subst h; rw [upd_same] at e; cases e; exact R
    · rw [upd_ne _ h] at e; exact G.hr a o' e
  · by_cases h : a = r
    · subst h; exact S.base_none hr
    · rw [upd_ne _ h] at e; exact G.low a o' e
theorem KE.alloc {s : Shared} {H : HP} {h' : Heap} {r : Addr} {o : O} (k : ∀ b o, s.heap.get? b = some o → h'.get? b = some o)
    (hr : s.heap.get? r = none) (n : Nat) : KE s H { s with heap := h', toks := n } (upd H r o) :=
  ⟨fun b o e _ _ => ⟨o, k b o e, .refl o⟩, fun a ob l e _ => by rw [upd_ne _ (fun q => by subst q; rw [hr] at l; cases l)]; exact e, rfl, rfl⟩

theorem HS.change {cx : Cx} {H : HP} {s : Shared} (S : HS cx H s) {h' : Heap} {a : Addr} {o o' : O} (ha : H a = some o) (sb : ∀ b ob, b ≠ a → s.heap.get? b = some ob → h'.get? b = some ob) (R : Rep h' a o') (n : Nat) :
    HS cx (upd H a o') { s with heap := h', toks := n } := by
  refine ⟨fun b o1 e => ?_, fun b ob e => ?_, fun b o1 e => ?_⟩
  · by_cases h : b = a
    · subst h; rw [upd_same] at e; cases e; exact R
    · rw [upd_ne _ h] at e; exact (S.hr b o1 e).keep (fun ob => sb b ob h)
  · exact sb b ob (fun q => by subst q; rw [S.low _ o ha] at e; cases e) (S.ext b ob e)
  · by_cases h : b = a
    · subst h; exact S.low _ _ ha
    · rw [upd_ne _ h] at e; exact S.low b o1 e
theorem KE.change {s : Shared} {H : HP} {h' : Heap} {a : Addr} {o o' : O} (ha : H a = some o) (sb : ∀ b ob, b ≠ a → s.heap.get? b = some ob → h'.get? b = some ob) (n : Nat) :
    KE s H { s with heap := h', toks := n } (upd H a o') :=
  ⟨fun b ob e hb _ => ⟨ob, sb b ob (fun x => by subst x; rw [ha] at hb; cases hb) e, .refl ob⟩,
    fun b _ _ e _ => by rw [upd_ne _ (fun x => by subst x; rw [ha] at e; cases e)]; exact e, rfl, rfl⟩

theorem SR.aside {cx : Cx} {fm : Fm} {H : HP} {μ : List V} {s : Shared} (S : SR cx fm H μ s) {h' : Heap} {a : Addr} (ha : H a = none) (hw : ¬ fm.own a) (hf : ¬ fm.fr a) (hb : cx.base.get? a = none) (sb : Heap.ExtBut a s.heap h') (n : Nat) :
    SR cx fm H μ { s with heap := h', toks := n } :=
  ⟨⟨fun b o e => (S.hr b o e).keep (fun ob q => sb b ob (fun x => by subst x; rw [ha] at e; cases e) q),
    fun b o e => sb b o (fun q => by subst q; rw [hb] at e; cases e) (S.ext b o e), S.low⟩, S.fr.keep (fun b o q e => ⟨o, sb b o (fun x => hw (x ▸ q)) e, .refl o⟩), S.own, S.ff.heap fun e he L o h1 h2 => sb L o (fun x => hf ⟨e, he, x ▸ h1⟩) h2⟩

section
variable {cx : Cx} {fm : Fm} {H : HP} {μ : List V} {s : Shared} {M : Model} {A : Around} {E : Value → Shared → Prop}

theorem load_loc (W : fm.OK cx A) (S : SR cx fm H μ s) {i : Nat} {x : Str} (hi : fm.names[i]? = some (some x)) (hb : getL μ i ≠ .unb) {Q : Value → Shared → Prop} (h : ∀ v, abs v = getL μ i → Q v s) :
    wpAny M A (loadName fm.env x) Q E s := by
  obtain ⟨ov, w, q⟩ := S.fr.var i x hi
  obtain ⟨v, rfl, hv⟩ := q.resolve_left hb
  rcases w with ⟨k1, m, hn, hm⟩ | ⟨k1, c, hc, hcell⟩
  · exact wpAny_loadName_local W.kind k1 hn hm (h v hv)
  · exact wpAny_loadName_cell W.kind k1 hc hcell (h v hv)

theorem SR.frs (W : fm.OK cx A) (S : SR cx fm H μ s) : ∀ l, A.frames = some l → FrL cx.base H s.heap l := fun l e => by
  rw [W.frames] at e; cases e; exact S.ff
theorem ns_unique {h : Heap} {a : Addr} {m m' : Str → Option Value} (x : h.Ns a m) (y : h.Ns a m') : m = m' := by
  obtain ⟨o, es, ep, e, hd, _, hm⟩ := x
  obtain ⟨o', es', ep', e', hd', _, hm'⟩ := y
  rw [e] at e'; cases e'
  rw [hd] at hd'; cases hd'
  funext n; rw [← hm n, ← hm' n]

theorem store_loc (W : fm.OK cx A) (S : SR cx fm H μ s) {i : Nat} {x : Str} (hi : fm.names[i]? = some (some x)) {v : Value} {Q : Unit → Shared → Prop}
    (h : ∀ s', SR cx fm H (setL μ i (abs v)) s' → Kept fm.own s H s' H → Q () s') : wpAny M A (storeName fm.env x v) Q E s := by
  obtain ⟨ov, w, q⟩ := S.fr.var i x hi
  have hil : i < μ.length := by rw [S.fr.len]; exact (List.getElem?_eq_some_iff.mp hi).1
  -- the rest, for any own address that is changed
  have rest : ∀ (a : Addr) (h' : Heap) (tk : Nat), fm.own a → Heap.SameBut a s.heap h' → (∃ o, h'.get? a = some o) → ((∃ o es ep, h'.get? a = some o ∧ o.data = .dict es ep) ∨ ¬ fm.fr a) → (∃ m, h'.Ns fm.env.locals m) →
      (∀ j y, fm.names[j]? = some (some y) → ∃ ov, VarAt fm.env h' y ov ∧ (getL (setL μ i (abs v)) j = .unb ∨ ∃ v', ov = some v' ∧ abs v' = getL (setL μ i (abs v)) j)) →
      SR cx fm H (setL μ i (abs v)) { s with heap := h', toks := tk } ∧ Kept fm.own s H { s with heap := h', toks := tk } H := by
    intro a h' tk ha sb hla hfa hns hvar
    refine ⟨⟨⟨fun b o e => ?_, fun b o e => ?_, S.low⟩, ⟨by rw [setL_length]; exact S.fr.len, fun b q => ?_, hns, hvar⟩, S.own, fun e he => ?_⟩,
      fun b o e _ hw => ⟨o, (sb.2 b (fun x => hw (x ▸ ha))).trans e, .refl o⟩, fun _ _ _ e _ => e, rfl, rfl⟩
    · exact (S.hr b o e).of_eq (sb.2 b (fun x => S.own b o e (x ▸ ha)))
    · exact (sb.2 b (fun q => by subst q; rw [W.above _ ha] at e; cases e)).trans (S.ext b o e)
    · by_cases h : b = a
      · subst h; exact hla
      · obtain ⟨o, e⟩ := S.fr.live b q
        exact ⟨o, (sb.2 b h).trans e⟩
    · obtain ⟨kd, L, o, es, ep, h1, h2, h3, h4, h5⟩ := S.ff e he
      by_cases h : L = a
      · subst h
        rcases hfa with ⟨o', es', ep', e1, e2⟩ | hfa
        · exact ⟨kd, L, o', es', ep', h1, h2, h3, e1, e2⟩
        · exact absurd ⟨e, he, h1⟩ hfa
      · exact ⟨kd, L, o, es, ep, h1, h2, h3, (sb.2 L h).trans h4, h5⟩
  rcases w with ⟨k1, m, hn, hm⟩ | ⟨k1, c, hc, hcell⟩
  · refine wpAny_storeName_local k1 hn (fun h' hn' sb => ?_) (by rw [W.kind]; rfl)
    obtain ⟨a1, a2⟩ := rest fm.env.locals h' (s.toks + 1) (.inl rfl) sb (let ⟨o, _, _, e, _⟩ := hn'; ⟨o, e⟩) (.inl (let ⟨o, es, ep, e, hd, _⟩ := hn'; ⟨o, es, ep, e, hd⟩)) ⟨_, hn'⟩ (fun j y hj => by
      by_cases hij : i = j
      · subst hij
        rw [hi] at hj; cases hj
        exact ⟨some v, .inl ⟨k1, _, hn', by simp⟩, .inr ⟨v, rfl, (getL_setL_same μ i _ hil).symm⟩⟩
      · obtain ⟨ov', w', q'⟩ := S.fr.var j y hj
        refine ⟨ov', ?_, by rw [getL_setL_ne _ _ _ _ hij]; exact q'⟩
        have hxy : y ≠ x := fun e => hij (W.inj i j x hi (e ▸ hj))
        rcases w' with ⟨k2, m2, hn2, hm2⟩ | ⟨k2, c2, hc2, o, e2, hd2⟩
        · exact .inl ⟨k2, _, hn', by rw [if_neg hxy, ns_unique hn hn2]; exact hm2⟩
        · exact .inr ⟨k2, c2, hc2, o, (sb.2 c2 (W.cellsNe y c2 hc2)).trans e2, hd2⟩)
    exact h _ a1 a2
  · refine wpAny_storeName_cell W.kind k1 hc hcell (fun h' hc' sb => ?_)
    have hcl := W.cellsNe x c hc
    have hnf : ¬ fm.fr c := fun ⟨e, he, hf⟩ => by
      obtain ⟨_, L, o, es, ep, h1, _, _, h4, h5⟩ := S.ff e he
      rw [hf] at h1; cases h1
      obtain ⟨o', h6, h7⟩ := hcell
      rw [h4] at h6; cases h6
      rw [h5] at h7; cases h7
    have ns' : ∀ m, s.heap.Ns fm.env.locals m → h'.Ns fm.env.locals m := fun m ⟨o, es, ep, e, r⟩ => ⟨o, es, ep, (sb.2 _ (Ne.symm hcl)).trans e, r⟩
    obtain ⟨a1, a2⟩ := rest c h' s.toks (.inr ⟨x, hc⟩) sb (let ⟨o, e, _⟩ := hc'; ⟨o, e⟩) (.inr hnf) (by obtain ⟨m, hm⟩ := S.fr.ns; exact ⟨m, ns' m hm⟩) (fun j y hj => by
      by_cases hij : i = j
      · subst hij
        rw [hi] at hj; cases hj
        exact ⟨some v, .inr ⟨k1, c, hc, hc'⟩, .inr ⟨v, rfl, (getL_setL_same μ i _ hil).symm⟩⟩
      · obtain ⟨ov', w', q'⟩ := S.fr.var j y hj
        refine ⟨ov', ?_, by rw [getL_setL_ne _ _ _ _ hij]; exact q'⟩
        have hxy : y ≠ x := fun e => hij (W.inj i j x hi (e ▸ hj))
        rcases w' with ⟨k2, m2, hn2, hm2⟩ | ⟨k2, c2, hc2, o, e2, hd2⟩
        · exact .inl ⟨k2, m2, ns' m2 hn2, hm2⟩
        · exact .inr ⟨k2, c2, hc2, o, (sb.2 c2 (fun e => hxy (W.cellsInj y x c (e ▸ hc2) hc))).trans e2, hd2⟩)
    exact h _ a1 a2
end
end Mine
end

section
namespace Mine
open PySem PyProof.Rows

inductive BF where
  | len | list | min | sum
  deriving DecidableEq
mutual
inductive ME where
  | cint (i : Int) | cbool (b : Bool) | cnone | cstr (x : Str)
  | loc (i : Nat)
  | bin (op : Operator) (l r : ME)
  | not (e : ME)
  | cmp (l : ME) (op : CmpOp) (r : ME)
  | bop (op : BoolOp) (es : MEs)
  | callf (f : Addr) (args : MEs)
  | callb (b : BF) (args : MEs)
  | isi (e : ME) (t : String)
  | app (x : Bool) (o : ME) (v : ME)
  | pop (x : Bool) (o : ME)
  | sub (o i : ME)
  | slice (o lo hi : ME)
  | list (es : MEs)
  | tup (es : MEs)
  | comp (elt it cond : ME)
  | compR (elt a b cond : ME)
  | neg (e : ME)
  | cmp2 (l : ME) (o1 : CmpOp) (m : ME) (o2 : CmpOp) (r : ME)
  | gint (i : Int)
  | attr (C : Addr) (i : Nat) (x : Str)
  | callm (C : Addr) (x : Str) (f : Addr) (i : Nat) (args : MEs)
  | mk (C f : Addr) (args : MEs)
  | dnil
  | done (k : Int) (v : ME)
  | dsub (o i : ME)
inductive MEs where
  | nil
  | cons (e : ME) (es : MEs)
end
inductive XK where
  | fn (f : Addr)
  | mt (C : Addr) (x : Str) (f : Addr) (j : Nat)
  | mk (C f : Addr)
inductive TB where
  | act (d : Option Nat) (k : XK) (as : MEs)
  | ite (c : ME) (t e : TB)
mutual
inductive MS where
  | assign (i : Nat) (e : ME)
  | setSub (o i v : ME)
  | expr (e : ME)
  | ite (c : ME) (t e : MSs)
  | for_ (i : Nat) (it : ME) (body : MSs)
  | forR (i : Nat) (a b : ME) (body : MSs)
  | while_ (c : ME) (body : MSs)
  | ret (e : ME)
  | setAttr (C : Addr) (i : Nat) (x : Str) (e : ME)
  | raiseS (C : Addr) (m : ME)
  | xdo (d : Option Nat) (k : XK) (as : MEs)
  | setD (o i v : ME)
  | try_ (b : TB) (K : Addr) (h : ME)
inductive MSs where
  | nil
  | cons (s : MS) (r : MSs)
end

structure ACall0 (A : Around) (n : Nat) : Prop where
  depth : A.depth + n < 850
  units : A.units + 16 * n < 9000
  frames : ∃ l, A.frames = some l
  guards : A.guards = some []
structure ACall (A : Around) (n : Nat) : Prop extends ACall0 A n where
  handled : A.handled = none
structure AOK0 (A : Around) (n : Nat) : Prop extends ACall0 A n where
  top : ∃ env outer, A.frames = some (env :: outer) ∧ env.scope.isGenerator = false ∧ env.scope.isCoroutine = false ∧ env.builtins = builtinsNs ∧ env.globals = mainGlobals
structure AOK (A : Around) (n : Nat) : Prop extends AOK0 A n where
  handled : A.handled = none
theorem AOK.toACall {A : Around} {n : Nat} (h : AOK A n) : ACall A n := ⟨h.toACall0, h.handled⟩

structure ExcIn (b : Heap) (s : Shared) (H H' : HP) (h : Heap) (e C T : Addr) : Prop where
  e0 : ∀ o, s.heap.get? e = some o → H e = none → False
  t0 : ∀ o, s.heap.get? T = some o → H T = none → False
  e1 : H' e = none
  t1 : H' T = none
  e2 : b.get? e = none
  t2 : b.get? T = none
  at_ : ∃ oe vs a0, h.get? e = some oe ∧ oe.cls = .ref C ∧ oe.data = .fields vs ∧ vs[0]? = some a0 ∧
    ((vs[1]? = some .none ∧ T = e) ∨ ∃ oT ts, vs[1]? = some (.ref T) ∧ T ≠ e ∧ h.get? T = some oT ∧ oT.data = .fields ts ∧ ts[3]? = some .none)

noncomputable def CallY (q : Bool) (cx : Cx) (n : Nat) (f : Addr) (args : List V) (H : HP) (Q : V → HP → Prop) : Prop :=
  ∀ (A : Around) (s : Shared) (vs : List Value), ACall0 A n → (q = false → A.handled = none) → HS cx H s → (∀ l, A.frames = some l → FrL cx.base H s.heap l) → vs.map Mine.abs = args →
    codeAny (model cx.prog cx.w) A (.call (.ref f) ⟨vs, []⟩) (fun r s' => (∃ v H', r = .ok (.ret v) ∧ HS cx H' s' ∧ KE s H s' H' ∧ Q (Mine.abs v) H') ∨
      ∃ e C T H', r = .error (.ref e) ∧ HS cx H' s' ∧ KE s H s' H' ∧ ExcIn cx.base s H H' s'.heap e C T ∧ T ≠ e ∧ Q (.exc C) H') s
noncomputable abbrev nx (Q : V → HP → Prop) : V → HP → Prop := fun v H => match v with
  | .exc _ => False
  | v => Q v H
theorem nx_abs {Q : V → HP → Prop} {v : Value} {H : HP} (h : nx Q (Mine.abs v) H) : Q (Mine.abs v) H := by cases v <;> exact h
noncomputable abbrev CallX : Cx → Nat → Addr → List V → HP → (V → HP → Prop) → Prop := CallY false
noncomputable abbrev CallP (cx : Cx) (n : Nat) (f : Addr) (args : List V) (H : HP) (Q : V → HP → Prop) : Prop := CallY false cx n f args H (nx Q)
noncomputable def onX (v : V) (k : V → Prop) (x : Addr → Prop) : Prop := match v with
  | .exc C => x C
  | v => k v

noncomputable def lk (cx : Cx) (H : HP) (a : Addr) : Option O :=
  match H a with
  | some o => some o
  | none => (cx.Z a).map O.list
noncomputable def lst (cx : Cx) (H : HP) (a : Addr) : Option (List V) :=
  match lk cx H a with
  | some (.list vs) => some vs
  | _ => none
noncomputable def sq (cx : Cx) (H : HP) (a : Addr) : Option (List V) :=
  match lk cx H a with
  | some (.list vs) => some vs
  | some (.tup vs) => some vs
  | _ => none

noncomputable def onL (v : V) (k : V → Prop) : Prop := match v with
  | .unb => False
  | v => k v
theorem onL_inv {v : V} {k : V → Prop} (h : onL v k) : v ≠ .unb ∧ k v := by
  cases v <;> first | exact ⟨nofun, h⟩ | exact False.elim h
theorem onL_of {v : V} {k : V → Prop} (n : v ≠ .unb) (h : k v) : onL v k := by
  cases v <;> first | exact h | exact (n rfl).elim
noncomputable def ifB (b : Bool) (P Q : Prop) : Prop := match b with
  | true => P
  | false => Q
theorem ifB_of {b : Bool} {P Q : Prop} (h1 : b = true → P) (h2 : b = false → Q) : ifB b P Q := by
  cases b
  · exact h2 rfl
  · exact h1 rfl
theorem ifB_mono {b : Bool} {P Q P' Q' : Prop} (h : ifB b P Q) (h1 : P → P') (h2 : Q → Q') : ifB b P' Q' := by
  cases b
  · exact h2 h
  · exact h1 h
noncomputable def onR (v : V) (k : Addr → Prop) : Prop := match v with
  | .ref a => k a
  | _ => False
noncomputable def onI (v : V) (k : Int → Prop) : Prop := match v with
  | .int i => k i
  | _ => False
noncomputable def onB (v : V) (Q : Bool → Prop) : Prop := match v with
  | .bool b => Q b
  | _ => False
noncomputable def onO {α : Type} (o : Option α) (k : α → Prop) : Prop := match o with
  | some x => k x
  | none => False
noncomputable def onHL (o : Option O) (k : List V → Prop) : Prop := match o with
  | some (.list vs) => k vs
  | _ => False
noncomputable def onIn (C : Addr) (o : Option O) (k : Addr → Prop) : Prop := match o with
  | some (.inst C' dx) => C' = C ∧ k dx
  | _ => False
noncomputable def onD (o : Option O) (k : List (Int × V) → Prop) : Prop := match o with
  | some (.dct kvs) => k kvs
  | _ => False
noncomputable def onFl (o : Option O) (k : List (Str × V) → Prop) : Prop := match o with
  | some (.flds fs) => k fs
  | _ => False
noncomputable def on1 (l : List V) (k : V → Prop) : Prop := match l with
  | [v] => k v
  | _ => False
noncomputable def on2 (l : List V) (k : V → V → Prop) : Prop := match l with
  | [v, w] => k v w
  | _ => False
theorem onR_inv {v : V} {k : Addr → Prop} (h : onR v k) : ∃ a, v = .ref a ∧ k a := by cases v <;> first | exact ⟨_, rfl, h⟩ | exact False.elim h
theorem onI_inv {v : V} {k : Int → Prop} (h : onI v k) : ∃ a, v = .int a ∧ k a := by cases v <;> first | exact ⟨_, rfl, h⟩ | exact False.elim h
theorem onB_inv {v : V} {k : Bool → Prop} (h : onB v k) : ∃ a, v = .bool a ∧ k a := by cases v <;> first | exact ⟨_, rfl, h⟩ | exact False.elim h
theorem onO_inv {α : Type} {o : Option α} {k : α → Prop} (h : onO o k) : ∃ x, o = some x ∧ k x := by
  cases o with
  | none => exact h.elim
  | some x => exact ⟨x, rfl, h⟩
theorem onHL_inv {o : Option O} {k : List V → Prop} (h : onHL o k) : ∃ vs, o = some (.list vs) ∧ k vs := by
  cases o with
  | none => exact False.elim h
  | some x => cases x <;> first | exact ⟨_, rfl, h⟩ | exact False.elim h
theorem onIn_inv {C : Addr} {o : Option O} {k : Addr → Prop} (h : onIn C o k) : ∃ dx, o = some (.inst C dx) ∧ k dx := by
  cases o with
  | none => exact False.elim h
  | some x => cases x <;> first | exact ⟨_, by rw [h.1], h.2⟩ | exact False.elim h
theorem onD_inv {o : Option O} {k : List (Int × V) → Prop} (h : onD o k) : ∃ fs, o = some (.dct fs) ∧ k fs := by
  cases o with
  | none => exact False.elim h
  | some x => cases x <;> first | exact ⟨_, rfl, h⟩ | exact False.elim h
theorem onFl_inv {o : Option O} {k : List (Str × V) → Prop} (h : onFl o k) : ∃ fs, o = some (.flds fs) ∧ k fs := by
  cases o with
  | none => exact False.elim h
  | some x => cases x <;> first | exact ⟨_, rfl, h⟩ | exact False.elim h
theorem on1_inv {l : List V} {k : V → Prop} (h : on1 l k) : ∃ v, l = [v] ∧ k v := match l, h with
  | [v], h => ⟨v, rfl, h⟩
theorem on2_inv {l : List V} {k : V → V → Prop} (h : on2 l k) : ∃ v w, l = [v, w] ∧ k v w := match l, h with
  | [v, w], h => ⟨v, w, rfl, h⟩
theorem onR_mono {v : V} {k k' : Addr → Prop} (h : onR v k) (q : ∀ a, k a → k' a) : onR v k' := by obtain ⟨a, rfl, h⟩ := onR_inv h; exact q a h
theorem onI_mono {v : V} {k k' : Int → Prop} (h : onI v k) (q : ∀ a, k a → k' a) : onI v k' := by obtain ⟨a, rfl, h⟩ := onI_inv h; exact q a h
theorem onB_mono {v : V} {k k' : Bool → Prop} (h : onB v k) (q : ∀ a, k a → k' a) : onB v k' := by obtain ⟨a, rfl, h⟩ := onB_inv h; exact q a h
theorem onO_mono {α : Type} {o : Option α} {k k' : α → Prop} (h : onO o k) (q : ∀ a, k a → k' a) : onO o k' := by obtain ⟨a, rfl, h⟩ := onO_inv h; exact q a h
theorem onHL_mono {o : Option O} {k k' : List V → Prop} (h : onHL o k) (q : ∀ a, k a → k' a) : onHL o k' := by obtain ⟨a, rfl, h⟩ := onHL_inv h; exact q a h
theorem onIn_mono {C : Addr} {o : Option O} {k k' : Addr → Prop} (h : onIn C o k) (q : ∀ a, k a → k' a) : onIn C o k' := by obtain ⟨a, rfl, h1⟩ := onIn_inv h; exact ⟨rfl, q a h1⟩
theorem onD_mono {o : Option O} {k k' : List (Int × V) → Prop} (h : onD o k) (q : ∀ a, k a → k' a) : onD o k' := by obtain ⟨a, rfl, h⟩ := onD_inv h; exact q a h
theorem onFl_mono {o : Option O} {k k' : List (Str × V) → Prop} (h : onFl o k) (q : ∀ a, k a → k' a) : onFl o k' := by obtain ⟨a, rfl, h⟩ := onFl_inv h; exact q a h
theorem on1_mono {l : List V} {k k' : V → Prop} (h : on1 l k) (q : ∀ a, k a → k' a) : on1 l k' := by obtain ⟨a, rfl, h⟩ := on1_inv h; exact q a h
theorem on2_mono {l : List V} {k k' : V → V → Prop} (h : on2 l k) (q : ∀ a b, k a b → k' a b) : on2 l k' := by obtain ⟨a, b, rfl, h⟩ := on2_inv h; exact q a b h

noncomputable def asInts : List V → Option (List Int)
  | [] => some []
  | .int i :: r => (asInts r).map (i :: ·)
  | _ => none
noncomputable def intsV (l : List Int) : List V := l.map V.int

theorem asInts_ints : ∀ l : List Int, asInts (intsV l) = some l
  | [] => rfl
  | i :: l => by simp [intsV, asInts]; exact asInts_ints l

noncomputable def cutAt (n : Nat) (i : Int) : Option Nat := if 0 ≤ i then some (min i.toNat n) else none
noncomputable def cutN (n : Nat) (i : Int) : Nat := if 0 ≤ i then min i.toNat n else n - (-i).toNat
noncomputable def cutLo (n : Nat) (v : V) : Option Nat := match v with
  | .none => some 0
  | .int i => some (cutN n i)
  | _ => none
noncomputable def cutHi (n : Nat) (v : V) : Option Nat := match v with
  | .none => some n
  | .int i => cutAt n i
  | _ => none
noncomputable def cut (vs : List V) (lo hi : Nat) : List V := (vs.take hi).drop lo

noncomputable def new (cx : Cx) (H : HP) (o : O) (Q : V → HP → Prop) : Prop := ∀ r, Fresh cx H r → Q (.ref r) (upd H r o)

noncomputable def addP (cx : Cx) (a b : V) (H : HP) (Q : V → HP → Prop) : Prop := match a with
  | .int x => onI b fun y => Q (.int (x + y)) H
  | .ref x => onR b fun y => onO (lst cx H x) fun xs => onO (lst cx H y) fun ys => xs.length + ys.length ≤ 16777216 ∧ new cx H (.list (xs ++ ys)) Q
  | _ => False
noncomputable def mulP (cx : Cx) (a b : V) (H : HP) (Q : V → HP → Prop) : Prop := match a with
  | .int x => onI b fun y => IntMulOk x y ∧ Q (.int (x * y)) H
  | .ref x => onI b fun n => onO (lst cx H x) fun xs => -16777216 < n ∧ n < 16777216 ∧ xs.length * n.toNat ≤ 16777216 ∧ new cx H (.list (List.replicate n.toNat xs).flatten) Q
  | _ => False
noncomputable def binP (cx : Cx) (op : Operator) (a b : V) (H : HP) (Q : V → HP → Prop) : Prop := match op with
  | .Add => addP cx a b H Q
  | .Sub => onI a fun x => onI b fun y => Q (.int (x - y)) H
  | .Mult => mulP cx a b H Q
  | .FloorDiv => onI a fun x => onI b fun y => y ≠ 0 ∧ Q (.int (x.fdiv y)) H
  | .Mod => onI a fun x => onI b fun y => y ≠ 0 ∧ Q (.int (x.fmod y)) H
  | .Pow => onI a fun x => onI b fun y => 0 ≤ y ∧ (Builtin.Int.intBits x : Int) * y ≤ 2 ^ 27 ∧ Q (.int (x ^ y.toNat)) H
  | _ => False

noncomputable def cmpII (op : CmpOp) (a b : Int) : Option Bool := match op with
  | .Lt => some (decide (a < b))
  | .LtE => some (decide (a ≤ b))
  | .Gt => some (decide (b < a))
  | .Eq => some (a == b)
  | .NotEq => some (a != b)
  | _ => none
noncomputable def rdS (x : Str) : Option PyData := if PyData.strOk x = true then some (.str x) else none
noncomputable def rdA (v : V) : Option PyData := match v with
  | .int i => some (.int i)
  | .str x => rdS x
  | .none => some .none
  | .bool b => some (.bool b)
  | _ => none
noncomputable def rdV (cx : Cx) (H : HP) : Nat → V → Option PyData
  | 0, v => rdA v
  | n + 1, v => match v with
    | .ref a => match lk cx H a with
      | some (.list vs) => (vs.mapM (rdV cx H n)).map .list
      | some (.tup vs) => (vs.mapM (rdV cx H n)).map .tuple
      | _ => none
    | v => rdA v
noncomputable def eqNe (op : CmpOp) (b : Bool) : Option Bool := match op with
  | .Eq => some b
  | .NotEq => some (!b)
  | _ => none
noncomputable def isP (a b : V) : Option Bool := match b with
  | .none => match a with
    | .none => some true
    | .bool _ => some false
    | .int _ => some false
    | .ref _ => some false
    | .str _ => some false
    | _ => none
  | .bool b => match a with
    | .none => some false
    | .bool a => some (a == b)
    | .int _ => some false
    | .ref _ => some false
    | .str _ => some false
    | _ => none
  | _ => none
noncomputable def inP (cx : Cx) (a b : V) (H : HP) : Option Bool := (rdV cx H 1 a).bind fun d => (rdV cx H 1 b).bind fun e => match e with
  | .list xs => some (xs.any fun y => PyData.eqv y d)
  | .tuple xs => some (xs.any fun y => PyData.eqv y d)
  | _ => none
noncomputable def cII (g : Int → Int → Bool) (a b : V) : Option Bool := match a with
  | .int x => match b with
    | .int y => some (g x y)
    | _ => none
  | _ => none
theorem cII_inv {g : Int → Int → Bool} {a b : V} {c : Bool} (h : cII g a b = some c) : ∃ x y, a = .int x ∧ b = .int y ∧ g x y = c := by
  cases a <;> first | cases h | skip
  cases b <;> first | exact ⟨_, _, rfl, rfl, Option.some.inj h⟩ | cases h
noncomputable def eqG (cx : Cx) (a b : V) (H : HP) : Option Bool := (rdV cx H 3 a).bind fun d => (rdV cx H 3 b).map fun e => PyData.eqv d e
noncomputable def eqP (cx : Cx) (a b : V) (H : HP) : Option Bool := match a with
  | .str x => match b with
    | .str y => some (x == y)
    | b => eqG cx (.str x) b H
  | a => eqG cx a b H
theorem eqP_inv {cx : Cx} {a b : V} {H : HP} {c : Bool} (h : eqP cx a b H = some c) : (∃ x y, a = .str x ∧ b = .str y ∧ c = (x == y)) ∨ eqG cx a b H = some c := by
  cases a <;> first | exact .inr h | skip
  cases b <;> first | exact .inr h | skip
  cases h
  exact .inl ⟨_, _, rfl, rfl, rfl⟩
noncomputable def cmpP (cx : Cx) (op : CmpOp) (a b : V) (H : HP) : Option Bool := match op with
  | .Lt => cII (fun x y => decide (x < y)) a b
  | .LtE => cII (fun x y => decide (x ≤ y)) a b
  | .Gt => cII (fun x y => decide (y < x)) a b
  | .Eq => eqP cx a b H
  | .NotEq => (eqP cx a b H).map fun c => !c
  | .Is => isP a b
  | .IsNot => (isP a b).map fun c => !c
  | .In => inP cx a b H
  | .NotIn => (inP cx a b H).map fun c => !c
  | _ => none

noncomputable def isiP (H : HP) (v : V) (t : String) : Option Bool := match v with
  | .int _ => if t = "int" then some true else if t = "bool" then some false else none
  | .bool _ => if t = "int" then some true else if t = "bool" then some true else none
  | .str _ => if t = "int" then some false else if t = "tuple" then some false else none
  | .none => if t = "int" then some false else if t = "tuple" then some false else none
  | .ref a => match H a with
    | some (.list _) => if t = "list" then some true else if t = "int" then some false else if t = "tuple" then some false else none
    | some (.tup _) => if t = "tuple" then some true else if t = "int" then some false else none
    | _ => none
  | _ => none

noncomputable def callbP (cx : Cx) (b : BF) (args : List V) (H : HP) (Q : V → HP → Prop) : Prop := match b with
  | .len => on1 args fun v => onR v fun a => onO (sq cx H a) fun vs => vs.length ≤ 16777216 ∧ Q (.int vs.length) H
  | .list => on1 args fun v => onR v fun a => onO (sq cx H a) fun vs => vs.length ≤ 16777216 ∧ new cx H (.list vs) Q
  | .min => on2 args fun v w => onI v fun a => onI w fun b => Q (.int (if b < a then b else a)) H
  | .sum => on1 args fun v => onR v fun a => onO (lst cx H a) fun vs => onO (asInts vs) fun l => PySem.SumFits l ∧ Q (.int l.sum) H

noncomputable def appP (cx : Cx) (x : Bool) (o v : V) (H : HP) (Q : V → HP → Prop) : Prop := onR o fun a => onHL (H a) fun vs => match x with
  | false => vs.length ≤ 16777216 ∧ Q .none (upd H a (.list (vs ++ [v])))
  | true => onR v fun b => onHL (lk cx H b) fun ws => vs.length + ws.length ≤ 16777216 ∧ Q .none (upd H a (.list (vs ++ ws)))
noncomputable def popP (x : Bool) (o : V) (H : HP) (Q : V → HP → Prop) : Prop := onR o fun a => onHL (H a) fun vs => match x with
  | false => onO vs.getLast? fun v => vs.length ≤ 16777216 ∧ Q v (upd H a (.list vs.dropLast))
  | true => vs.length ≤ 16777216 ∧ Q .none (upd H a (.list []))
noncomputable def getK (kvs : List (Int × V)) (k : Int) : Option V := (kvs.find? fun p => p.1 = k).map (·.2)
noncomputable def putK (kvs : List (Int × V)) (k : Int) (v : V) : List (Int × V) := if kvs.any (fun p => p.1 = k) then kvs.map (fun p => if p.1 = k then (p.1, v) else p) else kvs ++ [(k, v)]
noncomputable def dsubP (o i : V) (H : HP) (Q : V → HP → Prop) : Prop := onR o fun a => onI i fun i => onD (H a) fun kvs => onO (getK kvs i) fun v => Q v H
noncomputable def setDP (o i v : V) (H : HP) (Q : HP → Prop) : Prop := onR o fun a => onI i fun i => onD (H a) fun kvs => kvs.length ≤ 16777216 ∧ Q (upd H a (.dct (putK kvs i v)))

noncomputable def listAt (o : V) (H : HP) : Prop := onR o fun a => onHL (H a) fun _ => True

noncomputable def subP (cx : Cx) (o i : V) (H : HP) (Q : V → HP → Prop) : Prop :=
  onR o fun a => onI i fun i => onO (sq cx H a) fun vs => 0 ≤ i ∧ vs.length ≤ 16777216 ∧ onO vs[i.toNat]? fun v => Q v H

noncomputable def sliceP (cx : Cx) (o lo hi : V) (H : HP) (Q : V → HP → Prop) : Prop :=
  onR o fun a => onHL (lk cx H a) fun vs => onO (cutLo vs.length lo) fun l => onO (cutHi vs.length hi) fun h => vs.length ≤ 16777216 ∧ new cx H (.list (cut vs l h)) Q
noncomputable def attrP (C : Addr) (o : V) (x : Str) (H : HP) (Q : V → HP → Prop) : Prop := onR o fun a => onIn C (H a) fun dx => onFl (H dx) fun fs => onO (fs.lookup x) fun v => v ≠ .other ∧ Q v H
noncomputable def instP (C : Addr) (o : V) (x : Str) (H : HP) : Prop := onR o fun a => onIn C (H a) fun dx => onFl (H dx) fun fs => fs.lookup x = none
noncomputable def putF (x : Str) (v : V) : List (Str × V) → List (Str × V)
  | [] => [(x, v)]
  | p :: r => if p.1 == x then (p.1, v) :: r else p :: putF x v r
noncomputable def setAttrP (C : Addr) (o : V) (x : Str) (v : V) (H : HP) (Q : HP → Prop) : Prop := onR o fun a => onIn C (H a) fun dx => onFl (H dx) fun fs => fs.length < 100 ∧ Q (upd H dx (.flds (putF x v fs)))
noncomputable def mkX (cx : Cx) (n : Nat) (C f : Addr) (vs : List V) (H : HP) (Q : V → HP → Prop) : Prop :=
  0 < n ∧ ∀ dx, Fresh cx H dx → ∀ x, Fresh cx (upd H dx (.flds [])) x → CallX cx (n - 1) f (.ref x :: vs) (upd (upd H dx (.flds [])) x (.inst C dx)) fun v H => onX v (fun v => v = .none ∧ Q (.ref x) H) fun D => Q (.exc D) H
noncomputable def setO (μ : List V) (d : Option Nat) (v : V) : List V := match d with
  | some i => setL μ i v
  | none => μ
noncomputable def xpre (k : XK) (μ : List V) (H : HP) : Prop := match k with
  | .mt C x _ j => instP C (getL μ j) x H
  | _ => True
noncomputable def xdoP (cx : Cx) (n : Nat) (k : XK) (μ vs : List V) (H : HP) (Q : V → HP → Prop) : Prop := match k with
  | .fn f => CallX cx n f vs H Q
  | .mt _ _ f j => CallX cx n f (getL μ j :: vs) H Q
  | .mk C f => mkX cx n C f vs H Q

noncomputable def IterP (cx : Cx) (o : V) (H : HP) (Q : List V → (HP → Prop) → HP → Prop) : Prop :=
  onR o fun a => onHL (lk cx H a) fun vs => vs.length ≤ 16777216 ∧ Q vs (fun H' => lk cx H' a = some (.list vs)) H

noncomputable def rangeL (a b : Int) : List Int := (List.range (b - a).toNat).map fun (k : Nat) => a + (k : Int)

noncomputable def RngP (x y : V) (Q : List V → Prop) : Prop :=
  onI x fun x => onI y fun y => (-1152921504606846976 < x ∧ x < 1152921504606846976) ∧ (-1152921504606846976 < y ∧ y < 1152921504606846976) ∧ Q (intsV (rangeL x y))

noncomputable def setSubP (o i v : V) (H : HP) (Q : HP → Prop) : Prop :=
  onR o fun a => onI i fun i => onHL (H a) fun vs => 0 ≤ i ∧ vs.length ≤ 16777216 ∧ i.toNat < vs.length ∧ Q (upd H a (.list (vs.set i.toNat v)))

noncomputable def CompP (cx : Cx) (items : List V) (st : HP → Prop) (H₀ : HP) (turn : V → HP → (Option V → HP → Prop) → Prop) (Q : V → HP → Prop) : Prop :=
  items.length ≤ 16777216 ∧ ∃ I : List V → List V → HP → Prop, I [] [] H₀ ∧ (∀ done acc H₁, I done acc H₁ → st H₁) ∧
    (∀ done x rest acc H₁, items = done ++ x :: rest → I done acc H₁ → turn x H₁ fun ov H₂ => ∃ H₃, LE H₃ H₂ ∧ I (done ++ [x]) (acc ++ ov.toList) H₃) ∧
    (∀ acc H₁, I items acc H₁ → new cx H₁ (.list acc) Q)

mutual
noncomputable def mwpE (cx : Cx) (n : Nat) : ME → List V → HP → (V → HP → Prop) → Prop
  | .cint i, _, H, Q => Q (.int i) H
  | .cbool b, _, H, Q => Q (.bool b) H
  | .cnone, _, H, Q => Q .none H
  | .cstr x, _, H, Q => Q (.str x) H
  | .loc i, μ, H, Q => onL (getL μ i) fun v => Q v H
  | .bin op l r, μ, H, Q => mwpE cx n l μ H fun a H => mwpE cx n r μ H fun b H => binP cx op a b H Q
  | .not e, μ, H, Q => mwpE cx n e μ H fun v H => onB v fun b => Q (.bool (!b)) H
  | .cmp l op r, μ, H, Q => mwpE cx n l μ H fun a H => mwpE cx n r μ H fun b H => onO (cmpP cx op a b H) fun c => Q (.bool c) H
  | .bop op es, μ, H, Q => mwpB cx n op es μ H Q
  | .callf f args, μ, H, Q => mwpEs cx n args μ H fun vs H => CallP cx n f vs H Q
  | .callb b args, μ, H, Q => mwpEs cx n args μ H fun vs H => callbP cx b vs H Q
  | .isi e t, μ, H, Q => mwpE cx n e μ H fun v H => onO (isiP H v t) fun b => Q (.bool b) H
  | .app x o e, μ, H, Q => mwpE cx n o μ H fun ov H => listAt ov H ∧ mwpE cx n e μ H fun v H => appP cx x ov v H Q
  | .pop x o, μ, H, Q => mwpE cx n o μ H fun ov H => popP x ov H Q
  | .sub o i, μ, H, Q => mwpE cx n o μ H fun ov H => mwpE cx n i μ H fun iv H => subP cx ov iv H Q
  | .slice o lo hi, μ, H, Q => mwpE cx n o μ H fun ov H => mwpE cx n lo μ H fun l H => mwpE cx n hi μ H fun h H => sliceP cx ov l h H Q
  | .list es, μ, H, Q => mwpEs cx n es μ H fun vs H => vs.length ≤ 16777216 ∧ new cx H (.list vs) Q
  | .tup es, μ, H, Q => mwpEs cx n es μ H fun vs H => vs.length ≤ 16777216 ∧ new cx H (.tup vs) Q
  | .comp elt it cond, μ, H, Q => mwpE cx n it μ H fun v H => IterP cx v H fun items st H₀ => CompP cx items st H₀ (fun x H₁ K =>
      mwpE cx n cond (μ ++ [x]) H₁ fun c H₂ => onB c fun b => ifB b (mwpE cx n elt (μ ++ [x]) H₂ fun v H₃ => K (some v) H₃) (K none H₂)) Q
  | .compR elt a b cond, μ, H, Q => mwpE cx n a μ H fun x H => mwpE cx n b μ H fun y H => RngP x y fun items => CompP cx items (fun _ => True) H (fun x H₁ K =>
      mwpE cx n cond (μ ++ [x]) H₁ fun c H₂ => onB c fun b => ifB b (mwpE cx n elt (μ ++ [x]) H₂ fun v H₃ => K (some v) H₃) (K none H₂)) Q
  | .neg e, μ, H, Q => mwpE cx n e μ H fun v H => onI v fun i => Q (.int (-i)) H
  | .cmp2 l o1 m o2 r, μ, H, Q => mwpE cx n l μ H fun a H => mwpE cx n m μ H fun b H => onO (cmpP cx o1 a b H) fun c =>
      ifB c (mwpE cx n r μ H fun d H => onO (cmpP cx o2 b d H) fun e => Q (.bool e) H) (Q (.bool false) H)
  | .gint i, _, H, Q => Q (.int i) H
  | .attr C i x, μ, H, Q => attrP C (getL μ i) x H Q
  | .callm C x f i args, μ, H, Q => instP C (getL μ i) x H ∧ mwpEs cx n args μ H fun vs H => CallP cx n f (getL μ i :: vs) H Q
  | .mk C f args, μ, H, Q => mwpEs cx n args μ H fun vs H => mkX cx n C f vs H (nx Q)
  | .dnil, _, H, Q => new cx H (.dct []) Q
  | .done k v, μ, H, Q => ∀ D, Fresh cx H D → mwpE cx n v μ (upd H D (.dct [])) fun w H' => H' D = some (.dct []) ∧ Q (.ref D) (upd H' D (.dct [(k, w)]))
  | .dsub o i, μ, H, Q => mwpE cx n o μ H fun ov H => mwpE cx n i μ H fun iv H => dsubP ov iv H Q
noncomputable def mwpEs (cx : Cx) (n : Nat) : MEs → List V → HP → (List V → HP → Prop) → Prop
  | .nil, _, H, Q => Q [] H
  | .cons e es, μ, H, Q => mwpE cx n e μ H fun v H => mwpEs cx n es μ H fun vs H => Q (v :: vs) H
noncomputable def mwpB (cx : Cx) (n : Nat) (op : BoolOp) : MEs → List V → HP → (V → HP → Prop) → Prop
  | .nil, _, _, _ => False
  | .cons e es, μ, H, Q => match es with
    | .nil => mwpE cx n e μ H Q
    | .cons _ _ => mwpE cx n e μ H fun v H => onB v fun b => match op with
      | .And => ifB b (mwpB cx n op es μ H Q) (Q (.bool false) H)
      | .Or => ifB b (Q (.bool true) H) (mwpB cx n op es μ H Q)
end

noncomputable def ForP (items : List V) (st : HP → Prop) (μ₀ : List V) (H₀ : HP) (turn : V → List V → HP → (List V → HP → Prop) → Prop) (N : List V → HP → Prop) : Prop :=
  ∃ I : List V → List V → HP → Prop, I [] μ₀ H₀ ∧ (∀ done μ H, I done μ H → st H) ∧
    (∀ done x rest μ H, items = done ++ x :: rest → I done μ H → turn x μ H fun μ' H' => ∃ H₃, LE H₃ H' ∧ I (done ++ [x]) μ' H₃) ∧
    (∀ μ H, I items μ H → N μ H)
noncomputable def twp (cx : Cx) (n : Nat) (N : List V → HP → Prop) (X : Addr → HP → Prop) : TB → List V → HP → Prop
  | .act d k as, μ, H => xpre k μ H ∧ mwpEs cx n as μ H fun vs H => xdoP cx n k μ vs H fun v H => onX v (fun v => N (setO μ d v) H) fun D => X D H
  | .ite c t e, μ, H => mwpE cx n c μ H fun v H => onB v fun b => ifB b (twp cx n N X t μ H) (twp cx n N X e μ H)

mutual
noncomputable def mwpS (cx : Cx) (n : Nat) : MS → List V → HP → (List V → HP → Prop) → (V → HP → Prop) → Prop
  | .assign i e, μ, H, N, _ => mwpE cx n e μ H fun v H => N (setL μ i v) H
  | .setSub o i v, μ, H, N, _ => mwpE cx n v μ H fun vv H => mwpE cx n o μ H fun ov H => mwpE cx n i μ H fun iv H => setSubP ov iv vv H fun H => N μ H
  | .expr e, μ, H, N, _ => mwpE cx n e μ H fun _ H => N μ H
  | .ite c t e, μ, H, N, R => mwpE cx n c μ H fun v H => onB v fun b => ifB b (mwpSs cx n t μ H N R) (mwpSs cx n e μ H N R)
  | .for_ i it body, μ, H, N, R => mwpE cx n it μ H fun v H => IterP cx v H fun items st H₀ => ForP items st μ H₀ (fun x μ H K => mwpSs cx n body (setL μ i x) H K R) N
  | .forR i a b body, μ, H, N, R => mwpE cx n a μ H fun x H => mwpE cx n b μ H fun y H => RngP x y fun items => ForP items (fun _ => True) μ H (fun x μ H K => mwpSs cx n body (setL μ i x) H K R) N
  | .while_ c body, μ, H, N, R => ∃ I : Nat → List V → HP → Prop, (∃ k, I k μ H) ∧ ∀ k μ H, I k μ H → mwpE cx n c μ H fun v H => onB v fun b =>
      ifB b (mwpSs cx n body μ H (fun μ' H' => ∃ H₃, LE H₃ H' ∧ ∃ m, m < k ∧ I m μ' H₃) R) (N μ H)
  | .ret e, μ, H, _, R => mwpE cx n e μ H R
  | .setAttr C i x e, μ, H, N, _ => mwpE cx n e μ H fun v H => setAttrP C (getL μ i) x v H fun H => N μ H
  | .raiseS C m, μ, H, _, R => mwpE cx n m μ H fun _ H => R (.exc C) H
  | .xdo d k as, μ, H, N, R => xpre k μ H ∧ mwpEs cx n as μ H fun vs H => xdoP cx n k μ vs H fun v H => onX v (fun v => N (setO μ d v) H) fun D => R (.exc D) H
  | .setD o i v, μ, H, N, _ => mwpE cx n v μ H fun vv H => mwpE cx n o μ H fun ov H => mwpE cx n i μ H fun iv H => setDP ov iv vv H fun H => N μ H
  | .try_ b K h, μ, H, N, R => twp cx n N (fun D H => D = K ∧ mwpE cx n h μ H R) b μ H
noncomputable def mwpSs (cx : Cx) (n : Nat) : MSs → List V → HP → (List V → HP → Prop) → (V → HP → Prop) → Prop
  | .nil, μ, H, N, _ => N μ H
  | .cons s r, μ, H, N, R => mwpS cx n s μ H (fun μ H => mwpSs cx n r μ H N R) R
end

section
variable {cx : Cx} {n : Nat} {μ : List V} {H : HP} {Q : V → HP → Prop} {N : List V → HP → Prop} {R : V → HP → Prop} {QL : List V → HP → Prop}
theorem e_cint {i : Int} : mwpE cx n (.cint i) μ H Q = (Q (.int i) H) := rfl
theorem e_cbool {b : Bool} : mwpE cx n (.cbool b) μ H Q = (Q (.bool b) H) := rfl
theorem e_cnone  : mwpE cx n .cnone μ H Q = (Q .none H) := rfl
theorem e_cstr {x : Str} : mwpE cx n (.cstr x) μ H Q = (Q (.str x) H) := rfl
theorem e_loc {i : Nat} : mwpE cx n (.loc i) μ H Q = (onL (getL μ i) fun v => Q v H) := rfl
theorem e_bin {op : Operator} {l r : ME} : mwpE cx n (.bin op l r) μ H Q = (mwpE cx n l μ H fun a H => mwpE cx n r μ H fun b H => binP cx op a b H Q) := rfl
theorem e_not {e : ME} : mwpE cx n (.not e) μ H Q = (mwpE cx n e μ H fun v H => onB v fun b => Q (.bool (!b)) H) := rfl
theorem e_cmp {l r : ME} {op : CmpOp} : mwpE cx n (.cmp l op r) μ H Q = (mwpE cx n l μ H fun a H => mwpE cx n r μ H fun b H => onO (cmpP cx op a b H) fun c => Q (.bool c) H) := rfl
theorem e_bop {op : BoolOp} {es : MEs} : mwpE cx n (.bop op es) μ H Q = (mwpB cx n op es μ H Q) := rfl
theorem e_callf {f : Addr} {args : MEs} : mwpE cx n (.callf f args) μ H Q = (mwpEs cx n args μ H fun vs H => CallP cx n f vs H Q) := rfl
theorem e_callb {b : BF} {args : MEs} : mwpE cx n (.callb b args) μ H Q = (mwpEs cx n args μ H fun vs H => callbP cx b vs H Q) := rfl
theorem e_isi {e : ME} {t : String} : mwpE cx n (.isi e t) μ H Q = (mwpE cx n e μ H fun v H => onO (isiP H v t) fun b => Q (.bool b) H) := rfl
theorem e_app {x : Bool} {o e : ME} : mwpE cx n (.app x o e) μ H Q = (mwpE cx n o μ H fun ov H => listAt ov H ∧ mwpE cx n e μ H fun v H => appP cx x ov v H Q) := rfl
theorem e_pop {x : Bool} {o : ME} : mwpE cx n (.pop x o) μ H Q = (mwpE cx n o μ H fun ov H => popP x ov H Q) := rfl
theorem e_sub {o i : ME} : mwpE cx n (.sub o i) μ H Q = (mwpE cx n o μ H fun ov H => mwpE cx n i μ H fun iv H => subP cx ov iv H Q) := rfl
theorem e_slice {o lo hi : ME} : mwpE cx n (.slice o lo hi) μ H Q = (mwpE cx n o μ H fun ov H => mwpE cx n lo μ H fun l H => mwpE cx n hi μ H fun h H => sliceP cx ov l h H Q) := rfl
theorem e_list {es : MEs} : mwpE cx n (.list es) μ H Q = (mwpEs cx n es μ H fun vs H => vs.length ≤ 16777216 ∧ new cx H (.list vs) Q) := rfl
theorem e_tup {es : MEs} : mwpE cx n (.tup es) μ H Q = (mwpEs cx n es μ H fun vs H => vs.length ≤ 16777216 ∧ new cx H (.tup vs) Q) := rfl
theorem e_comp {elt it cond : ME} : mwpE cx n (.comp elt it cond) μ H Q = (mwpE cx n it μ H fun v H => IterP cx v H fun items st H₀ => CompP cx items st H₀ (fun x H₁ K =>
      mwpE cx n cond (μ ++ [x]) H₁ fun c H₂ => onB c fun b => ifB b (mwpE cx n elt (μ ++ [x]) H₂ fun v H₃ => K (some v) H₃) (K none H₂)) Q) := rfl
theorem e_compR {elt a b cond : ME} : mwpE cx n (.compR elt a b cond) μ H Q = (mwpE cx n a μ H fun x H => mwpE cx n b μ H fun y H => RngP x y fun items => CompP cx items (fun _ => True) H (fun x H₁ K =>
      mwpE cx n cond (μ ++ [x]) H₁ fun c H₂ => onB c fun b => ifB b (mwpE cx n elt (μ ++ [x]) H₂ fun v H₃ => K (some v) H₃) (K none H₂)) Q) := rfl
theorem e_neg {e : ME} : mwpE cx n (.neg e) μ H Q = (mwpE cx n e μ H fun v H => onI v fun i => Q (.int (-i)) H) := rfl
theorem e_cmp2 {l m r : ME} {o1 o2 : CmpOp} : mwpE cx n (.cmp2 l o1 m o2 r) μ H Q = (mwpE cx n l μ H fun a H => mwpE cx n m μ H fun b H => onO (cmpP cx o1 a b H) fun c =>
      ifB c (mwpE cx n r μ H fun d H => onO (cmpP cx o2 b d H) fun e => Q (.bool e) H) (Q (.bool false) H)) := rfl
theorem e_gint {i : Int} : mwpE cx n (.gint i) μ H Q = (Q (.int i) H) := rfl
theorem e_attr {C : Addr} {i : Nat} {x : Str} : mwpE cx n (.attr C i x) μ H Q = (attrP C (getL μ i) x H Q) := rfl
theorem e_callm {C f : Addr} {i : Nat} {x : Str} {args : MEs} : mwpE cx n (.callm C x f i args) μ H Q = (instP C (getL μ i) x H ∧ mwpEs cx n args μ H fun vs H => CallP cx n f (getL μ i :: vs) H Q) := rfl
theorem e_mk {C f : Addr} {args : MEs} : mwpE cx n (.mk C f args) μ H Q = (mwpEs cx n args μ H fun vs H => mkX cx n C f vs H (nx Q)) := rfl
theorem e_dnil : mwpE cx n .dnil μ H Q = new cx H (.dct []) Q := rfl
theorem e_done {k : Int} {v : ME} : mwpE cx n (.done k v) μ H Q = ∀ D, Fresh cx H D → mwpE cx n v μ (upd H D (.dct [])) fun w H' => H' D = some (.dct []) ∧ Q (.ref D) (upd H' D (.dct [(k, w)])) := rfl
theorem e_dsub {o i : ME} : mwpE cx n (.dsub o i) μ H Q = mwpE cx n o μ H fun ov H => mwpE cx n i μ H fun iv H => dsubP ov iv H Q := rfl
theorem s_assign {i : Nat} {e : ME} : mwpS cx n (.assign i e) μ H N R = (mwpE cx n e μ H fun v H => N (setL μ i v) H) := rfl
theorem s_setSub {o i v : ME} : mwpS cx n (.setSub o i v) μ H N R = (mwpE cx n v μ H fun vv H => mwpE cx n o μ H fun ov H => mwpE cx n i μ H fun iv H => setSubP ov iv vv H fun H => N μ H) := rfl
theorem s_expr {e : ME} : mwpS cx n (.expr e) μ H N R = (mwpE cx n e μ H fun _ H => N μ H) := rfl
theorem s_ite {c : ME} {t e : MSs} : mwpS cx n (.ite c t e) μ H N R = (mwpE cx n c μ H fun v H => onB v fun b => ifB b (mwpSs cx n t μ H N R) (mwpSs cx n e μ H N R)) := rfl
theorem s_for {i : Nat} {it : ME} {body : MSs} : mwpS cx n (.for_ i it body) μ H N R = (mwpE cx n it μ H fun v H => IterP cx v H fun items st H₀ => ForP items st μ H₀ (fun x μ H K => mwpSs cx n body (setL μ i x) H K R) N) := rfl
theorem s_forR {i : Nat} {a b : ME} {body : MSs} : mwpS cx n (.forR i a b body) μ H N R = (mwpE cx n a μ H fun x H => mwpE cx n b μ H fun y H => RngP x y fun items => ForP items (fun _ => True) μ H (fun x μ H K => mwpSs cx n body (setL μ i x) H K R) N) := rfl
theorem s_while {c : ME} {body : MSs} : mwpS cx n (.while_ c body) μ H N R = (∃ I : Nat → List V → HP → Prop, (∃ k, I k μ H) ∧ ∀ k μ H, I k μ H → mwpE cx n c μ H fun v H => onB v fun b =>
      ifB b (mwpSs cx n body μ H (fun μ' H' => ∃ H₃, LE H₃ H' ∧ ∃ m, m < k ∧ I m μ' H₃) R) (N μ H)) := rfl
theorem s_ret {e : ME} : mwpS cx n (.ret e) μ H N R = (mwpE cx n e μ H R) := rfl
theorem s_setAttr {C : Addr} {i : Nat} {x : Str} {e : ME} : mwpS cx n (.setAttr C i x e) μ H N R = (mwpE cx n e μ H fun v H => setAttrP C (getL μ i) x v H fun H => N μ H) := rfl
theorem s_raiseS {C : Addr} {m : ME} : mwpS cx n (.raiseS C m) μ H N R = (mwpE cx n m μ H fun _ H => R (.exc C) H) := rfl
theorem s_xdo {d : Option Nat} {k : XK} {as : MEs} : mwpS cx n (.xdo d k as) μ H N R = (xpre k μ H ∧ mwpEs cx n as μ H fun vs H => xdoP cx n k μ vs H fun v H => onX v (fun v => N (setO μ d v) H) fun D => R (.exc D) H) := rfl
theorem s_setD {o i v : ME} : mwpS cx n (.setD o i v) μ H N R = (mwpE cx n v μ H fun vv H => mwpE cx n o μ H fun ov H => mwpE cx n i μ H fun iv H => setDP ov iv vv H fun H => N μ H) := rfl
theorem s_try {b : TB} {K : Addr} {h : ME} : mwpS cx n (.try_ b K h) μ H N R = twp cx n N (fun D H => D = K ∧ mwpE cx n h μ H R) b μ H := rfl
theorem t_act {d : Option Nat} {k : XK} {as : MEs} {X : Addr → HP → Prop} : twp cx n N X (.act d k as) μ H = (xpre k μ H ∧ mwpEs cx n as μ H fun vs H => xdoP cx n k μ vs H fun v H => onX v (fun v => N (setO μ d v) H) fun D => X D H) := rfl
theorem t_ite {c : ME} {t e : TB} {X : Addr → HP → Prop} : twp cx n N X (.ite c t e) μ H = (mwpE cx n c μ H fun v H => onB v fun b => ifB b (twp cx n N X t μ H) (twp cx n N X e μ H)) := rfl
theorem es_nil : mwpEs cx n .nil μ H QL = QL [] H := rfl
theorem es_cons {e : ME} {es : MEs} : mwpEs cx n (.cons e es) μ H QL = mwpE cx n e μ H fun v H => mwpEs cx n es μ H fun vs H => QL (v :: vs) H := rfl
theorem b_one {op : BoolOp} {e : ME} : mwpB cx n op (.cons e .nil) μ H Q = mwpE cx n e μ H Q := rfl
theorem b_and {e e' : ME} {es : MEs} : mwpB cx n .And (.cons e (.cons e' es)) μ H Q = mwpE cx n e μ H fun v H => onB v fun b => ifB b (mwpB cx n .And (.cons e' es) μ H Q) (Q (.bool false) H) := rfl
theorem b_or {e e' : ME} {es : MEs} : mwpB cx n .Or (.cons e (.cons e' es)) μ H Q = mwpE cx n e μ H fun v H => onB v fun b => ifB b (Q (.bool true) H) (mwpB cx n .Or (.cons e' es) μ H Q) := rfl
theorem ss_nil : mwpSs cx n .nil μ H N R = N μ H := rfl
theorem ss_cons {s : MS} {r : MSs} : mwpSs cx n (.cons s r) μ H N R = mwpS cx n s μ H (fun μ H => mwpSs cx n r μ H N R) R := rfl
end
end Mine
end

section
namespace Mine
open PySem PyProof.Rows

noncomputable def EP (cx : Cx) (s : Shared) (H : HP) (Q : V → HP → Prop) : Value → Shared → Prop := fun v s' => ∃ H', HS cx H' s' ∧ KE s H s' H' ∧ Q (abs v) H'

theorem EP.from {cx : Cx} {s s₁ : Shared} {H H₁ : HP} {Q : V → HP → Prop} (k : KE s H s₁ H₁) {v : Value} {s' : Shared} (h : EP cx s₁ H₁ Q v s') : EP cx s H Q v s' := by
  obtain ⟨H', a, b, c⟩ := h
  exact ⟨H', a, k.trans b, c⟩
theorem ep_from {cx : Cx} {s s₁ : Shared} {H H₁ : HP} {Q : V → HP → Prop} {M : Model} {A : Around} {E : Value → Shared → Prop} {t : Sem Value} (k : KE s H s₁ H₁) (h : wpAny M A t (EP cx s₁ H₁ Q) E s₁) : wpAny M A t (EP cx s H Q) E s₁ :=
  wpAny_mono h (fun _ _ x => x.from k) fun _ _ e => e

theorem abs_bool {v : Value} {b : Bool} (h : abs v = .bool b) : v = .bool b := by cases v <;> first | (cases h; rfl) | cases h
theorem abs_int {v : Value} {i : Int} (h : abs v = .int i) : ∃ t, v = .int i t := by cases v <;> first | (cases h; exact ⟨_, rfl⟩) | cases h
theorem abs_ref {v : Value} {a : Addr} (h : abs v = .ref a) : v = .ref a := by cases v <;> first | (cases h; rfl) | cases h

section
variable {cx : Cx} {H : HP} {s : Shared} {A : Around} {E : Value → Shared → Prop} {n : Nat}

theorem lk_rep (C : cx.OK) (S : HS cx H s) {a : Addr} {o : O} (h : lk cx H a = some o) : Rep s.heap a o := by
  unfold lk at h
  split at h
  · rename_i e; cases h; exact S.hr a _ e
  · obtain ⟨vs, e, rfl⟩ := Option.map_eq_some_iff.mp h
    exact (C.z a vs e).keep (S.ext a)
theorem lst_get (C : cx.OK) (S : HS cx H s) {a : Addr} {vs : List V} (h : lst cx H a = some vs) : ∃ items k, IsL s.heap a items k ∧ items.toList.map abs = vs := by
  unfold lst at h
  split at h
  · rename_i e; cases h
    exact lk_rep C S e
  · cases h
theorem sq_get (C : cx.OK) (S : HS cx H s) {a : Addr} {vs : List V} (h : sq cx H a = some vs) :
    ∃ (T : String) (items : Array Value) (k : Nat), s.heap.get? a = some { cls := .type T, data := .seq items k } ∧ (T = "list" ∨ T = "tuple") ∧ items.toList.map abs = vs := by
  unfold sq at h
  split at h
  · rename_i e; cases h
    obtain ⟨i, k, q, m⟩ := lk_rep C S e
    exact ⟨_, i, k, q, .inl rfl, m⟩
  · rename_i e; cases h
    obtain ⟨i, k, q, m⟩ := lk_rep C S e
    exact ⟨_, i, k, q, .inr rfl, m⟩
  · cases h

theorem size_of {items : Array Value} {vs : List V} (h : items.toList.map abs = vs) : items.size = vs.length := by rw [← h]; simp

theorem ep_push (C : cx.OK) (S : HS cx H s) {Q : V → HP → Prop} {o : O} (h : new cx H o Q) {ob : Obj} (R : ∀ h : Heap, h.get? s.heap.objs.size = some ob → Rep h s.heap.objs.size o) (hf : ob.isFreed = false) (tk : Nat) :
    EP cx s H Q (.ref s.heap.objs.size) { s with heap := s.heap.push ob, toks := tk } := by
  have k : ∀ b o', s.heap.get? b = some o' → (s.heap.push ob).get? b = some o' := fun b o' e => Heap.get?_push_of_some _ e
  exact ⟨_, S.alloc k (get_size _) (R _ (Heap.get?_push_size _ hf)) tk, KE.alloc k (get_size _) tk, h _ (S.fresh C (get_size _))⟩
theorem rep_list {h : Heap} {a : Addr} {items : Array Value} {k : Nat} {vs : List V} (e : h.get? a = some { cls := .type "list", data := .seq items k }) (m : items.toList.map abs = vs) : Rep h a (.list vs) := ⟨items, k, e, m⟩
theorem rep_tup {h : Heap} {a : Addr} {items : Array Value} {k : Nat} {vs : List V} (e : h.get? a = some { cls := .type "tuple", data := .seq items k }) (m : items.toList.map abs = vs) : Rep h a (.tup vs) := ⟨items, k, e, m⟩

theorem ep_same {Q : V → HP → Prop} (S : HS cx H s) {v : Value} (tk : Nat) (h : Q (abs v) H) : EP cx s H Q v { s with toks := tk } := ⟨H, S.toks tk, KE.toks s H tk, h⟩
theorem ep_here {Q : V → HP → Prop} (S : HS cx H s) {v : Value} (h : Q (abs v) H) : EP cx s H Q v s := ⟨H, S, Kept.refl _ s H, h⟩
theorem ep_grow {Q : V → HP → Prop} (S : HS cx H s) {v : Value} {h' : Heap} {tk : Nat} (k : ∀ b o, s.heap.get? b = some o → h'.get? b = some o) (h : Q (abs v) H) :
    EP cx s H Q v { s with heap := h', toks := tk } := ⟨H, S.grow k tk, KE.grow k tk, h⟩

theorem replicate_fold (items : Array Value) (m : Nat) : (List.foldl (fun x1 x2 => x1 ++ x2) #[] (List.replicate m items)).toList = (List.replicate m items.toList).flatten := by
  have : ∀ (l : List (Array Value)) (acc : Array Value), (List.foldl (fun x1 x2 => x1 ++ x2) acc l).toList = acc.toList ++ (l.map Array.toList).flatten := by
    intro l
    induction l with
    | nil => intro acc; simp
    | cons x l ih => intro acc; rw [List.foldl_cons, ih]; simp
  rw [this]; simp

theorem pylong_room (C : cx.OK) (hA : AOK0 A n) (S : HS cx H s) : PylongRoom (model cx.prog cx.w) A s := by
  obtain ⟨env, outer, hf, h1, h2, h3, h4⟩ := hA.top
  refine PylongRoom.of (C.nolimit.keeps S.ext) ?_ (SeerAt.of (C.seer.keeps S.ext) C.tree hf h1 h2 h3 h4)
  have := hA.depth
  unfold recursionLimit Builtin.pylongFrames
  first | lia | omega

theorem add_ok (C : cx.OK) (S : HS cx H s) {a b : Value} {Q : V → HP → Prop} (h : addP cx (abs a) (abs b) H Q) : wpAny (model cx.prog cx.w) A (binaryOp .Add a b) (EP cx s H Q) E s := by
  cases a with
  | int x t =>
    obtain ⟨y, hb, h⟩ := onI_inv h
    obtain ⟨u, rfl⟩ := abs_int hb
    exact PyProof.Rows.add_int (ep_same S _ h)
  | ref x =>
    obtain ⟨y, hb, h⟩ := onR_inv h
    have := abs_ref hb; subst this
    obtain ⟨xs, hx, h⟩ := onO_inv h
    obtain ⟨ys, hy, h⟩ := onO_inv h
    obtain ⟨i1, k1, e1, m1⟩ := lst_get C S hx
    obtain ⟨i2, k2, e2, m2⟩ := lst_get C S hy
    refine PySem.P.add_list e1 e2 (ep_push C S h.2 (fun h e => rep_list e (by simp [m1, m2])) rfl _) ?_
    rw [size_of m1, size_of m2, sizeLine_eq]; exact h.1
  | _ => exact False.elim h
theorem mul_ok (C : cx.OK) (S : HS cx H s) {a b : Value} {Q : V → HP → Prop} (h : mulP cx (abs a) (abs b) H Q) : wpAny (model cx.prog cx.w) A (binaryOp .Mult a b) (EP cx s H Q) E s := by
  cases a with
  | int x t =>
    obtain ⟨y, hb, h⟩ := onI_inv h
    obtain ⟨u, rfl⟩ := abs_int hb
    exact PyProof.Rows.mul_int (ep_same S _ h.2) h.1
  | ref a =>
    obtain ⟨x, hb, h⟩ := onI_inv h
    obtain ⟨u, rfl⟩ := abs_int hb
    obtain ⟨xs, hx, hn0, hn, hsz, h⟩ := onO_inv h
    obtain ⟨i1, k1, e1, m1⟩ := lst_get C S hx
    rw [← size_of m1] at hsz
    refine wpAny_binaryOp_repeat_ref (T := "list") (U := "int") (by decide) ⟨_, e1, rfl⟩ (fun s' => typeIs_int s' x u) noFill_list_mul F.fills_int_mul F.slot_int_rmul repeat_list F.slot_int_index.lookup
        (call_meets F.slot_int_rmul (typeIs_int s x u) F.entry_int_rmul (F.args_int_rmul_2 _ _) (int___rmul___int_list x u _ i1 k1)
          ⟨e1, rfl, ⟨_, e1, rfl⟩, call_meets F.slot_list_mul ⟨_, e1, rfl⟩ F.entry_list_mul (F.args_list_mul_2 _ _)
            (AutoListH.list___mul___list_int_3 _ i1 k1 x u (by simp [Builtin.List.listFitsIndex]; first | lia | omega) (by first | lia | omega) (by simp [Builtin.List.listTooLong, sizeLine]; first | lia | omega))
            ⟨e1, ?_⟩⟩)
    refine ep_push C S h (fun h e => rep_list e ?_) rfl _
    rw [replicate_fold, ← m1]
    split
    · rename_i he
      have : i1 = #[] := by simpa using he
      subst this; simp
    · simp [List.map_flatten]
  | _ => exact False.elim h
theorem bin_ok (C : cx.OK) (hA : AOK0 A n) (S : HS cx H s) {op : Operator} {a b : Value} {Q : V → HP → Prop} (h : binP cx op (abs a) (abs b) H Q) :
    wpAny (model cx.prog cx.w) A (binaryOp op a b) (EP cx s H Q) E s := by
  have ii : ∀ {k : Int → Int → Prop}, (onI (abs a) fun x => onI (abs b) fun y => k x y) → ∃ x y t u, a = .int x t ∧ b = .int y u ∧ k x y := fun h => by
    obtain ⟨x, e1, h⟩ := onI_inv h
    obtain ⟨y, e2, h⟩ := onI_inv h
    obtain ⟨t, e1⟩ := abs_int e1
    obtain ⟨u, e2⟩ := abs_int e2
    exact ⟨x, y, t, u, e1, e2, h⟩
  cases op with
  | Add => exact add_ok C S h
  | Mult => exact mul_ok C S h
  | Sub =>
    obtain ⟨x, y, t, u, rfl, rfl, h⟩ := ii h
    exact PyProof.Rows.sub_int (ep_same S _ h)
  | FloorDiv =>
    obtain ⟨x, y, t, u, rfl, rfl, h1, h2⟩ := ii h
    exact PyProof.Rows.floordiv_int h1 (ep_same S _ h2) (Or.inr (pylong_room C hA S))
  | Mod =>
    obtain ⟨x, y, t, u, rfl, rfl, h1, h2⟩ := ii h
    exact PyProof.Rows.mod_int' h1 (ep_same S _ h2)
  | Pow =>
    obtain ⟨x, y, t, u, rfl, rfl, h1, h2, h3⟩ := ii h
    exact PyProof.Rows.pow_int h1 h2 (ep_same S _ h3)
  | _ => exact False.elim h
end
end Mine
end

section
namespace Mine
open PySem PyProof.Rows PySem.SeqAt

section
variable {cx : Cx} {H : HP} {s : Shared} {A : Around} {E : Value → Shared → Prop} {n : Nat}

theorem rdS_inv {h : Heap} {x : Str} {t : Tok} {n : Nat} {d : PyData} (e : rdS x = some d) : (∃ as, Reads h (.str x t) d as) ∧ d.canLay0 = true ∧ d.depth ≤ n := by
  unfold rdS at e
  split at e
  · rename_i q; cases e; exact ⟨⟨_, .str _ _⟩, q, Nat.zero_le _⟩
  · cases e
theorem rdA_inv {h : Heap} {v : Value} {n : Nat} {d : PyData} (e : rdA (abs v) = some d) : (∃ as, Reads h v d as) ∧ d.canLay0 = true ∧ d.depth ≤ n := by
  cases v <;> first | (cases e; exact ⟨⟨_, .int _ _⟩, rfl, Nat.zero_le _⟩) | (cases e; exact ⟨⟨_, .none⟩, rfl, Nat.zero_le _⟩) | (cases e; exact ⟨⟨_, .bool _⟩, rfl, Nat.zero_le _⟩) | exact rdS_inv e | cases e
theorem rdV_reads (C : cx.OK) (S : HS cx H s) : ∀ (n : Nat) (v : Value) (d : PyData), rdV cx H n (abs v) = some d → (∃ as, Reads s.heap v d as) ∧ d.canLay0 = true ∧ d.depth ≤ n := by
  intro n
  induction n with
  | zero =>
    intro v d h
    exact rdA_inv h
  | succ n ih =>
    have all : ∀ (vs : List Value) (ds : List PyData), (vs.map abs).mapM (rdV cx H n) = some ds → (∃ as, ReadsAll s.heap vs ds as) ∧ PyData.canLayAll0 ds = true ∧ PyData.depthAll ds ≤ n := by
      intro vs
      induction vs with
      | nil => intro ds h; simp at h; subst h; exact ⟨⟨_, .nil⟩, rfl, Nat.zero_le _⟩
      | cons v vs ihv =>
        intro ds h
        simp only [List.map_cons, List.mapM_cons, Option.pure_def, Option.bind_eq_bind, Option.bind_eq_some_iff] at h
        obtain ⟨d, h1, es, h2, h3⟩ := h
        cases h3
        obtain ⟨⟨as, r⟩, c, dp⟩ := ih v d h1
        obtain ⟨⟨bs, rs⟩, cs, dps⟩ := ihv es h2
        exact ⟨⟨_, .cons r rs⟩, by rw [PyData.canLayAll0, c, cs]; rfl, Nat.max_le.mpr ⟨dp, dps⟩⟩
    intro v d h
    cases v with
    | ref a =>
      have h : (match lk cx H a with
        | some (.list vs) => (vs.mapM (rdV cx H n)).map .list
        | some (.tup vs) => (vs.mapM (rdV cx H n)).map .tuple
        | _ => none) = some d := h
      cases hl : lk cx H a with
      | none => rw [hl] at h; cases h
      | some o =>
        rw [hl] at h
        have R := lk_rep C S hl
        cases o with
        | list vs =>
          obtain ⟨ds, e1, rfl⟩ := Option.map_eq_some_iff.mp h
          obtain ⟨items, k, e, m⟩ := R
          rw [← m] at e1
          obtain ⟨⟨as, r⟩, c, dp⟩ := all _ _ e1
          exact ⟨⟨_, .list e rfl rfl r⟩, c, Nat.succ_le_succ dp⟩
        | tup vs =>
          obtain ⟨ds, e1, rfl⟩ := Option.map_eq_some_iff.mp h
          obtain ⟨items, k, e, m⟩ := R
          rw [← m] at e1
          obtain ⟨⟨as, r⟩, c, dp⟩ := all _ _ e1
          exact ⟨⟨_, .tuple e rfl rfl r⟩, c, Nat.succ_le_succ dp⟩
        | _ => cases h
    | _ => exact rdA_inv h
theorem abs_str {v : Value} {x : Str} (h : abs v = .str x) : ∃ t, v = .str x t := by cases v <;> first | (cases h; exact ⟨_, rfl⟩) | cases h
theorem shp {m : Nat} {d : PyData} (hm : m ≤ 64) (c : d.canLay0 = true) (dp : d.depth ≤ m) : shaped d = true := by unfold shaped; rw [c, decide_eq_true (Nat.le_trans dp hm)]; rfl
theorem eq_ok (C : cx.OK) (hA : ACall0 A n) (S : HS cx H s) {a b : Value} {c : Bool} (h : eqP cx (abs a) (abs b) H = some c) {Q : Value → Shared → Prop} : (Q (.bool c) s → wpAny (model cx.prog cx.w) A (compareOp .Eq a b) Q E s) ∧ (Q (.bool (!c)) s → wpAny (model cx.prog cx.w) A (compareOp .NotEq a b) Q E s) := by
  rcases eqP_inv h with ⟨x, y, ea, eb, rfl⟩ | h
  · obtain ⟨t, rfl⟩ := abs_str ea
    obtain ⟨u, rfl⟩ := abs_str eb
    exact ⟨fun q => PyProof.Rows.eq_str q, fun q => PyProof.Rows.ne_str q⟩
  obtain ⟨d, hd, h⟩ := Option.bind_eq_some_iff.mp h
  obtain ⟨e, he, rfl⟩ := Option.map_eq_some_iff.mp h
  obtain ⟨⟨as, r⟩, c1, dp⟩ := rdV_reads C S 3 a d hd
  obtain ⟨⟨bs, r'⟩, c2, dp'⟩ := rdV_reads C S 3 b e he
  have hu : A.units + 64 < cLine := by have := hA.units; unfold cLine; omega
  exact ⟨fun q => eq_dataH r r' (shp (by decide) c1 dp) (shp (by decide) c2 dp') hu q, fun q => ne_dataH r r' (shp (by decide) c1 dp) (shp (by decide) c2 dp') hu q⟩
theorem is_ok {a b : Value} {c : Bool} (h : isP (abs a) (abs b) = some c) {Q : Value → Shared → Prop} : (Q (.bool c) s → wpAny (model cx.prog cx.w) A (compareOp .Is a b) Q E s) ∧ (Q (.bool (!c)) s → wpAny (model cx.prog cx.w) A (compareOp .IsNot a b) Q E s) := by
  have key : isSame a b = (pure c : Sem Bool) := by
    cases b with
    | none => cases a <;> first | (cases h; rfl) | (cases h; simp [isSame]; done) | cases h
    | bool y => cases a with
      | bool x => cases h; cases x <;> cases y <;> rfl
      | _ => first | (cases h; rfl) | cases h
    | _ => cases h
  refine ⟨fun q => ?_, fun q => ?_⟩
  · show wpAny _ A (do return Value.bool (← isSame a b)) Q E s
    rw [key]; exact wpAny_bind (wpAny_pure (wpAny_pure q))
  · show wpAny _ A (do return Value.bool (!(← isSame a b))) Q E s
    rw [key]; exact wpAny_bind (wpAny_pure (wpAny_pure q))
theorem in_ok (C : cx.OK) (hA : ACall0 A n) (S : HS cx H s) {a b : Value} {c : Bool} (h : inP cx (abs a) (abs b) H = some c) {Q : Value → Shared → Prop} : (Q (.bool c) s → wpAny (model cx.prog cx.w) A (compareOp .In a b) Q E s) ∧ (Q (.bool (!c)) s → wpAny (model cx.prog cx.w) A (compareOp .NotIn a b) Q E s) := by
  obtain ⟨d, hd, h⟩ := Option.bind_eq_some_iff.mp h
  obtain ⟨e, he, h⟩ := Option.bind_eq_some_iff.mp h
  obtain ⟨⟨as, r⟩, c1, dp⟩ := rdV_reads C S 1 a d hd
  obtain ⟨⟨bs, r'⟩, c2, dp'⟩ := rdV_reads C S 1 b e he
  have hu : ∀ m, A.units + 1 + min m d.depth < cLine := fun m => by have := hA.units; unfold cLine; omega
  cases e with
  | list xs => cases h; exact ⟨fun q => in_list_reads r' r c2 c1 (hu _) q, fun q => notIn_list_reads r' r c2 c1 (hu _) q⟩
  | tuple xs => cases h; exact ⟨fun q => in_tuple_reads r' r c2 c1 (hu _) q, fun q => notIn_tuple_reads r' r c2 c1 (hu _) q⟩
  | _ => cases h
theorem ord_ok {op : CmpOp} {a b : Value} {c : Bool} {Q : V → HP → Prop} {g : Int → Int → Bool} (hg : ∀ x t y u, Q (.bool (g x y)) H → wpAny (model cx.prog cx.w) A (compareOp op (.int x t) (.int y u)) (EP cx s H Q) E s)
    (h : cII g (abs a) (abs b) = some c) (hQ : Q (.bool c) H) : wpAny (model cx.prog cx.w) A (compareOp op a b) (EP cx s H Q) E s := by
  obtain ⟨x, y, ea, eb, ec⟩ := cII_inv h
  obtain ⟨t, rfl⟩ := abs_int ea
  obtain ⟨u, rfl⟩ := abs_int eb
  exact hg x t y u (by rw [ec]; exact hQ)
theorem cmp_ok (C : cx.OK) (hA : ACall0 A n) (S : HS cx H s) {op : CmpOp} {a b : Value} {c : Bool} {Q : V → HP → Prop} (h : cmpP cx op (abs a) (abs b) H = some c) (hQ : Q (.bool c) H) :
    wpAny (model cx.prog cx.w) A (compareOp op a b) (EP cx s H Q) E s := by
  cases op with
  | Lt => exact ord_ok (g := fun x y => decide (x < y)) (fun _ _ _ _ q => PyProof.Rows.lt_int (ep_here S q)) h hQ
  | LtE => exact ord_ok (g := fun x y => decide (x ≤ y)) (fun _ _ _ _ q => PyProof.Rows.le_int (ep_here S q)) h hQ
  | Gt => exact ord_ok (g := fun x y => decide (y < x)) (fun _ _ _ _ q => PyProof.Rows.gt_int (ep_here S q)) h hQ
  | Eq => exact (eq_ok C hA S h).1 (ep_here S hQ)
  | NotEq =>
    obtain ⟨c', h1, rfl⟩ := Option.map_eq_some_iff.mp h
    exact (eq_ok C hA S h1).2 (ep_here S hQ)
  | Is => exact (is_ok h).1 (ep_here S hQ)
  | IsNot =>
    obtain ⟨c', h1, rfl⟩ := Option.map_eq_some_iff.mp h
    exact (is_ok h1).2 (ep_here S hQ)
  | In => exact (in_ok C hA S h).1 (ep_here S hQ)
  | NotIn =>
    obtain ⟨c', h1, rfl⟩ := Option.map_eq_some_iff.mp h
    exact (in_ok C hA S h1).2 (ep_here S hQ)
  | _ => cases h
theorem ite2 {p q : Prop} [Decidable p] [Decidable q] {x y b : Bool} (h : (if p then some x else if q then some y else none) = some b) : (p ∧ b = x) ∨ (q ∧ b = y) := by
  by_cases hp : p
  · rw [if_pos hp] at h; cases h; exact .inl ⟨hp, rfl⟩
  · rw [if_neg hp] at h
    by_cases hq : q
    · rw [if_pos hq] at h; cases h; exact .inr ⟨hq, rfl⟩
    · rw [if_neg hq] at h; cases h
theorem isi_ok (S : HS cx H s) {v : Value} {t : String} {b : Bool} {Q : V → HP → Prop} (h : isiP H (abs v) t = some b) (hQ : Q (.bool b) H) :
    wpAny (model cx.prog cx.w) A (call (.builtin "isinstance") [v, .type t]) (EP cx s H Q) E s := by
  cases v with
  | int x u =>
    rcases ite2 h with ⟨rfl, rfl⟩ | ⟨rfl, rfl⟩
    · exact IsiPair.int_int (ep_here S hQ)
    · exact IsiPair.int_bool (ep_same S _ hQ)
  | bool x =>
    rcases ite2 h with ⟨rfl, rfl⟩ | ⟨rfl, rfl⟩
    · exact IsiPair.bool_int (ep_here S hQ)
    · exact IsiPair.bool_bool (ep_here S hQ)
  | str x u =>
    rcases ite2 h with ⟨rfl, rfl⟩ | ⟨rfl, rfl⟩
    · exact IsiPair.str_int (ep_same S _ hQ)
    · exact IsiPair.str_tuple (ep_same S _ hQ)
  | none =>
    rcases ite2 h with ⟨rfl, rfl⟩ | ⟨rfl, rfl⟩
    · exact IsiPair.NoneType_int (ep_same S _ hQ)
    · exact IsiPair.NoneType_tuple (ep_same S _ hQ)
  | ref a =>
    have h : (match H a with
      | some (.list _) => if t = "list" then some true else if t = "int" then some false else if t = "tuple" then some false else none
      | some (.tup _) => if t = "tuple" then some true else if t = "int" then some false else none
      | _ => none) = some b := h
    cases e : H a with
    | none => rw [e] at h; cases h
    | some o =>
      rw [e] at h
      cases o with
      | list vs =>
        obtain ⟨i, k, q, m⟩ := S.hr _ _ e
        by_cases ht : t = "list"
        · simp only [if_pos ht] at h; cases h; subst ht; exact IsiPair.list_list q rfl (ep_here S hQ)
        · simp only [if_neg ht] at h
          rcases ite2 h with ⟨rfl, rfl⟩ | ⟨rfl, rfl⟩
          · exact IsiPair.list_int q rfl (ep_same S _ hQ)
          · exact IsiPair.list_tuple q rfl (ep_same S _ hQ)
      | tup vs =>
        obtain ⟨i, k, q, m⟩ := S.hr _ _ e
        rcases ite2 h with ⟨rfl, rfl⟩ | ⟨rfl, rfl⟩
        · exact IsiPair.tuple_tuple q rfl (ep_here S hQ)
        · exact IsiPair.tuple_int q rfl (ep_same S _ hQ)
      | _ => cases h
  | _ => cases h
end
end Mine
end

section
namespace Mine
open PySem PyProof.Rows PySem.SeqAt

theorem range_pick {α : Type} (xs : List α) : ∀ (c l : Nat), ((List.range c).map fun k => l + k).filterMap (fun i => xs[i]?) = (xs.drop l).take c := by
  intro c
  induction c with
  | zero => intro l; simp
  | succ c ih =>
    intro l
    rw [List.range_succ_eq_map, List.map_cons, List.map_map]
    have e : ((fun k => l + k) ∘ Nat.succ) = fun k => (l + 1) + k := by funext k; simp only [Function.comp]; first | lia | omega
    rw [e, List.filterMap_cons, ih (l + 1)]
    simp only [Nat.add_zero]
    cases h : xs[l]? with
    | none =>
      have hl : xs.length ≤ l := List.getElem?_eq_none_iff.mp h
      simp [List.drop_eq_nil_of_le hl, List.drop_eq_nil_of_le (Nat.le_succ_of_le hl)]
    | some x =>
      obtain ⟨hl, hx⟩ := List.getElem?_eq_some_iff.mp h
      simp only
      rw [List.drop_eq_getElem_cons hl, List.take_succ_cons, hx]

noncomputable def partOf : V → Option (Option Int)
  | .none => some none
  | .int i => some (some i)
  | _ => none

theorem isPart_of {v : Value} {x : Option Int} (h : partOf (abs v) = some x) : IsPart v x := by
  cases v <;> simp [abs, partOf] at h <;> subst h <;> constructor

theorem min_cast {j : Int} (h : 0 ≤ j) (n : Nat) : min j (n : Int) = ((min j.toNat n : Nat) : Int) := by
  obtain ⟨k, rfl⟩ := Int.eq_ofNat_of_zero_le h
  rw [Int.toNat_natCast]
  first | lia | omega
theorem cutN_cast (n : Nat) (i : Int) : max 0 (min (if i < 0 then i + (n : Int) else i) (n : Int)) = ((cutN n i : Nat) : Int) := by
  unfold cutN
  split <;> split <;> (first | lia | omega)
theorem bnd_none (n : Nat) (j : Int) (h0 : 0 ≤ j) : sliceBounds none (some j) none n = (0, ((min j.toNat n : Nat) : Int), 1) := by
  simp [sliceBounds, Int.not_lt.mpr h0, min_cast h0]
theorem bnd_some (n : Nat) (i j : Int) (h0 : 0 ≤ j) : sliceBounds (some i) (some j) none n = (((cutN n i : Nat) : Int), ((min j.toNat n : Nat) : Int), 1) := by
  rw [← cutN_cast]
  simp [sliceBounds, Int.not_lt.mpr h0, min_cast h0]
theorem bnd_open (n : Nat) (i : Int) : sliceBounds (some i) none none n = (((cutN n i : Nat) : Int), (n : Int), 1) := by
  rw [← cutN_cast]
  simp [sliceBounds]
theorem bnd_all (n : Nat) : sliceBounds none none none n = (0, (n : Int), 1) := by
  simp [sliceBounds]
theorem rng_cut (l h : Nat) : sliceRange (l : Int) (h : Int) 1 = (List.range (h - l)).map fun k => l + k := by
  unfold sliceRange
  simp only [show (1 : Int) > 0 from by decide, if_true, Int.one_mul]
  have ec : (if (l : Int) < h then ((h : Int) - l + 1 - 1) / 1 else 0).toNat = h - l := by
    split <;> (first | lia | omega)
  rw [ec]
  congr 1
theorem cutAt_inv {n l : Nat} {i : Int} (h : cutAt n i = some l) : 0 ≤ i ∧ l = min i.toNat n := by
  unfold cutAt at h
  by_cases q : 0 ≤ i
  · rw [if_pos q] at h; cases h; exact ⟨q, rfl⟩
  · rw [if_neg q] at h; cases h
theorem slice_cut {items : Array Value} {vs : List V} (m : items.toList.map abs = vs) {lo hi : V} {l h : Nat} (hl : cutLo vs.length lo = some l) (hh : cutHi vs.length hi = some h) :
    ∃ pl ph, partOf lo = some pl ∧ partOf hi = some ph ∧ (slicePick items pl ph none).toList.map abs = cut vs l h := by
  have key : ∀ pl ph, sliceBounds pl ph none items.size = ((l : Int), (h : Int), 1) → (slicePick items pl ph none).toList.map abs = cut vs l h := by
    intro pl ph e
    unfold slicePick
    rw [e]
    dsimp only
    rw [rng_cut]
    have := range_pick items.toList (h - l) l
    simp only [Array.getElem?_toList] at this
    show List.map abs (List.filterMap (fun i => items[i]?) _) = _
    rw [this, ← m]
    unfold cut
    rw [List.map_take, List.map_drop, List.drop_take]
  rw [← size_of m] at hl hh
  cases hi with
  | int j =>
    obtain ⟨h0, rfl⟩ := cutAt_inv hh
    cases lo with
    | none => cases hl; exact ⟨none, some j, rfl, rfl, key _ _ (bnd_none _ _ h0)⟩
    | int i =>
      cases hl
      exact ⟨some i, some j, rfl, rfl, key _ _ (bnd_some _ _ _ h0)⟩
    | _ => cases hl
  | none =>
    cases hh
    cases lo with
    | none => cases hl; exact ⟨none, none, rfl, rfl, key _ _ (bnd_all _)⟩
    | int i =>
      cases hl
      exact ⟨some i, none, rfl, rfl, key _ _ (bnd_open _ _)⟩
    | _ => cases hl
  | _ => cases hh

noncomputable def BF.val : BF → Value
  | .len => .builtin "len"
  | .list => .type "list"
  | .min => .builtin "min"
  | .sum => .builtin "sum"
theorem asInts_some : ∀ {vs : List V} {l : List Int}, asInts vs = some l → vs = intsV l
  | [], l, h => by cases h; rfl
  | .int i :: r, l, h => by
    simp only [asInts, Option.map_eq_some_iff] at h
    obtain ⟨l', h1, rfl⟩ := h
    simp only [intsV, List.map_cons]; rw [asInts_some h1]; rfl
  | .unb :: _, _, h => by cases h
  | .none :: _, _, h => by cases h
  | .bool _ :: _, _, h => by cases h
  | .str _ :: _, _, h => by cases h
  | .ref _ :: _, _, h => by cases h
  | .other :: _, _, h => by cases h

theorem intItems_of : ∀ {vs : List Value} {l : List Int}, vs.map abs = intsV l → ∃ xs : Array (Int × Tok), vs.toArray = intItems xs ∧ xs.toList.map (·.1) = l
  | [], [], _ => ⟨#[], by simp [intItems], rfl⟩
  | [], _ :: _, h => by cases h
  | _ :: _, [], h => by cases h
  | v :: r, i :: l, h => by
    simp only [intsV, List.map_cons, List.cons.injEq] at h
    obtain ⟨t, rfl⟩ := abs_int h.1
    obtain ⟨xs, e, q⟩ := intItems_of (vs := r) (l := l) (by simpa [intsV] using h.2)
    refine ⟨((i, t) :: xs.toList).toArray, ?_, by simp [q]⟩
    have e' : r = (intItems xs).toList := by rw [← e]
    rw [e']; simp [intItems]
noncomputable def BF.quiet : BF → Bool
  | .min => false
  | .sum => false
  | _ => true

section
variable {cx : Cx} {H : HP} {s : Shared} {A : Around} {E : Value → Shared → Prop} {n : Nat}

theorem one_arg {vs : List Value} {x : V} (e : vs.map abs = [x]) : ∃ v, vs = [v] ∧ abs v = x := by
  obtain ⟨v, vs', e1, e2, e3⟩ := List.map_eq_cons_iff.mp e
  exact ⟨v, by rw [e1, List.map_eq_nil_iff.mp e3], e2⟩
theorem callb_ok (C : cx.OK) (hA : AOK0 A n) (S : HS cx H s) {b : BF} (hh : b.quiet = false → A.handled = none) {vs : List Value} {Q : V → HP → Prop} (h : callbP cx b (vs.map abs) H Q) :
    wpAny (model cx.prog cx.w) A (call b.val vs) (EP cx s H Q) E s := by
  have ref1 : ∀ {k : Addr → Prop}, (on1 (vs.map abs) fun v => onR v k) → ∃ a, vs = [.ref a] ∧ k a := fun h => by
    obtain ⟨x, e, h1⟩ := on1_inv h
    obtain ⟨a, e1, h2⟩ := onR_inv h1
    obtain ⟨v, e2, e3⟩ := one_arg e
    exact ⟨a, by rw [e2, abs_ref (e3.trans e1)], h2⟩
  cases b with
  | len =>
    obtain ⟨a, rfl, h⟩ := ref1 h
    obtain ⟨xs, hx, h1, h2⟩ := onO_inv h
    obtain ⟨T, items, k, e, hT, m⟩ := sq_get C S hx
    have hsz := size_of m
    have q : EP cx s H Q (.int items.size (s.toks + 1)) { s with toks := s.toks + 1 + 1 } := ep_same S _ (by rw [hsz]; exact h2)
    have hb : (items.size : Int) < 2 ^ 63 := by rw [hsz]; first | lia | omega
    rcases hT with rfl | rfl
    · exact PyProof.Rows.len_list ⟨_, e, rfl, k, rfl⟩ hb q
    · exact PyProof.Rows.len_tuple ⟨_, e, rfl, k, rfl⟩ hb q
  | list =>
    obtain ⟨a, rfl, h⟩ := ref1 h
    obtain ⟨xs, hx, h1, h2⟩ := onO_inv h
    obtain ⟨T, items, k, e, hT, m⟩ := sq_get C S hx
    refine call_list_seq _ hT e rfl rfl (fun h' c' hk hD => ?_) (by rw [size_of m, sizeLine_eq]; exact h1)
    exact ⟨_, S.alloc hk (get_size _) (rep_list hD m) s.toks, KE.alloc hk (get_size _) s.toks, h2 _ (S.fresh C (get_size _))⟩
  | sum =>
    obtain ⟨a, rfl, h⟩ := ref1 h
    obtain ⟨xs, hx, h⟩ := onO_inv h
    obtain ⟨l, hl, h1, h2⟩ := onO_inv h
    obtain ⟨items, k, e, m⟩ := lst_get C S hx
    rw [asInts_some hl] at m
    obtain ⟨ps, e1, e2⟩ := intItems_of m
    have e3 : items = intItems ps := by rw [← e1]
    subst e3
    refine sum_intList (hh rfl) e.isList (fun j hj => ?_) fun h' tk t' hk => ?_
    · have := h1 j (by rw [← e2]; simpa using hj)
      rw [numAt_eq, preSum_eq, e2]; exact this
    · refine ep_grow S hk ?_
      rw [preSum_eq, List.take_of_length_le (by simp), e2]; exact h2
  | min =>
    obtain ⟨x, y, e, h⟩ := on2_inv h
    obtain ⟨a, ea, h⟩ := onI_inv h
    obtain ⟨b, eb, hm⟩ := onI_inv h
    clear h
    obtain ⟨v, vs', rfl, e1, e3⟩ := List.map_eq_cons_iff.mp e
    obtain ⟨w, rfl, e2⟩ := one_arg e3
    obtain ⟨t, rfl⟩ := abs_int (e1.trans ea); obtain ⟨u, rfl⟩ := abs_int (e2.trans eb)
    refine min_two_ints (hh rfl) fun h' tk hk => ep_grow S hk ?_
    by_cases c : b < a
    · rw [if_pos c] at hm ⊢; exact hm
    · rw [if_neg c] at hm ⊢; exact hm
end
end Mine
end

section
namespace Mine
open PySem PyProof.Rows PySem.SeqAt

noncomputable def notSlice : Expr → Bool
  | .Slice .. => false
  | _ => true
theorem notSlice_sub {e : Expr} (h : notSlice e = true) (o i : Value) : subscripted e false o i = operate [o, i] (getItem o i) := by
  cases e <;> first | rfl | exact (Bool.false_ne_true h).elim

section
variable {cx : Cx} {H : HP} {s : Shared} {A : Around} {E : Value → Shared → Prop} {n : Nat}

theorem item_of {items : Array Value} {vs : List V} (m : items.toList.map abs = vs) {j : Nat} {v : V} (h : vs[j]? = some v) : ∃ x, items[j]? = some x ∧ abs x = v := by
  rw [← m, List.getElem?_map] at h
  obtain ⟨x, e, q⟩ := Option.map_eq_some_iff.mp h
  exact ⟨x, by simpa using e, q⟩

theorem sub_ok (C : cx.OK) (S : HS cx H s) {value slice : Expr} (hsl : notSlice slice = true) {o i : Value} {Q : V → HP → Prop} (h : subP cx (abs o) (abs i) H Q) :
    wpAny (model cx.prog cx.w) A (subscriptTail value slice o i) (EP cx s H Q) E s := by
  obtain ⟨a, ho, h⟩ := onR_inv h
  obtain ⟨k, hi, h⟩ := onI_inv h
  have := abs_ref ho; subst this
  obtain ⟨u, rfl⟩ := abs_int hi
  obtain ⟨vs, hvs, h0, hlen, h⟩ := onO_inv h
  obtain ⟨v, hv, h⟩ := onO_inv h
  obtain ⟨T, items, kk, e, hT, m⟩ := sq_get C S hvs
  obtain ⟨x, hx, hxa⟩ := item_of m hv
  have hlt : k.toNat < vs.length := (List.getElem?_eq_some_iff.mp hv).1
  have fin : EP cx s H Q x s := ep_here S (by rw [hxa]; exact h)
  have hk : k < 2 ^ 63 := by first | lia | omega
  rcases hT with rfl | rfl
  · have hL : s.heap.IsList a items := ⟨_, e, rfl, kk, rfl⟩
    exact tail_any hL.typeIs slot_list_getitem.lookup (wpAny_getItem_list hL h0 hk hx fin) (notSlice_sub hsl _ _)
  · have hT : IsTup s.heap a items.toList.toArray := ⟨_, e, rfl, kk, rfl⟩
    refine item_tupleT hT (by first | lia | omega) hk (j := k.toNat) ?_ (by simpa using hx) fin (notSlice_sub hsl _ _)
    have hsz : items.toList.length = vs.length := by rw [← m]; simp
    unfold seqIndex?
    rw [hsz]
    simp only [Int.not_lt.mpr h0, if_false]
    rw [if_pos (by simp only [Bool.and_eq_true, decide_eq_true_eq]; first | lia | omega)]

theorem slice_ok (C : cx.OK) (S : HS cx H s) {value : Expr} {lo hi : Option Expr} {p : Pos} {o l u : Value} {Q : V → HP → Prop} (h : sliceP cx (abs o) (abs l) (abs u) H Q) :
    wpAny (model cx.prog cx.w) A (subscriptTail value (.Slice lo hi none p) o (.ref s.heap.objs.size)) (EP cx s H Q) E
      { s with heap := s.heap.push { cls := .type "slice", data := .fields #[l, u, .none] } } := by
  obtain ⟨a, ho, h⟩ := onR_inv h
  have := abs_ref ho; subst this
  have k1 : ∀ b ob, s.heap.get? b = some ob → (s.heap.push { cls := .type "slice", data := .fields #[l, u, .none] }).get? b = some ob := fun b ob x => Heap.get?_push_of_some _ x
  have S' := S.grow k1 s.toks
  refine ep_from (KE.grow k1 s.toks) ?_
  obtain ⟨vs, hvs, h⟩ := onHL_inv h
  obtain ⟨cl, e1, h⟩ := onO_inv h
  obtain ⟨ch, e2, h1, h2⟩ := onO_inv h
  obtain ⟨items, k, e, m⟩ := lk_rep C S hvs
  obtain ⟨pl, ph, q1, q2, q3⟩ := slice_cut m e1 e2
  have hL : (s.heap.push { cls := .type "slice", data := .fields #[l, u, .none] }).IsList a items := ⟨_, k1 _ _ e, rfl, k, rfl⟩
  refine tail_any (s := { s with heap := s.heap.push { cls := .type "slice", data := .fields #[l, u, .none] } }) hL.typeIs slot_list_getitem.lookup
    (wpAny_getItem_list_slice hL ⟨_, Heap.get?_push_size _ rfl, rfl, rfl⟩ (isPart_of q1) (isPart_of q2) .none (by simp) ?_ (by rw [size_of m, sizeLine_eq]; exact h1)) rfl
  exact ep_push C S' h2 (fun h e => rep_list e q3) rfl _

noncomputable def UP (cx : Cx) (s : Shared) (H : HP) (Q : HP → Prop) : Unit → Shared → Prop := fun _ s' => ∃ H', HS cx H' s' ∧ KE s H s' H' ∧ Q H'

theorem setItem_plain {l : Addr} {items : Array Value} {c : Nat} {k : Int} {t : Tok} {v : Value} {Q : Unit → Shared → Prop} (hl : IsL s.heap l items c)
    (h0 : 0 ≤ k) (hfit : k < 2 ^ 63) (hn : k < items.size)
    (hQ : ∀ h', IsL h' l (items.setIfInBounds k.toNat v) c → Heap.SameBut l s.heap h' → Q () { s with heap := h' }) :
    wpAny (model cx.prog cx.w) A (setItem (.ref l) (.int k t) v) Q E s := by
  have hT : s.TypeIs (.ref l) "list" := ⟨_, hl, rfl⟩
  unfold setItem
  refine wpAny_holding (wpAny_bind (wpAny_sequenceKey hT (by decide) ?_))
  refine wpAny_bind (wpAny_callSpecial?_slot (name := Str.ofString "__setitem__") hT slot_list_setitem (wpAny_call_entry slot_list_setitem hT entry_list_setitem ?_ (args_list_setitem _ _ _)))
  show wpAny _ _ (Builtin.List.listSubscript? (.int k t) >>= _) _ _ s
  refine wpAny_bind (wpAny_listSubscript_int (fitsIndex_of h0 hfit) ?_)
  clear hfit
  obtain ⟨j, rfl⟩ := Int.eq_ofNat_of_zero_le h0
  have hj : j < items.size := by first | lia | omega
  have hx' : items[j]? = some items[j] := Array.getElem?_eq_getElem hj
  have hnew : IsL (s.heap.update l (Obj.mapSeq (·.setIfInBounds j v))) l (items.setIfInBounds j v) c := by
    have := hl.update (fun xs => xs.setIfInBounds j v)
    simpa using this
  show wpAny _ _ ((seqItemAt l j >>= fun r => pure (r.map (j, ·))) >>= _) _ _ s
  refine wpAny_bind (wpAny_bind (wpAny_seqItemAt hl rfl (wpAny_pure ?_)))
  rw [hx']
  show wpAny _ _ (setSeqItemAt l j v >>= _) _ _ s
  refine wpAny_bind (wpAny_setSeqItemAt hl rfl ?_)
  have fin : Q () { s with heap := s.heap.update l (Obj.mapSeq (·.setIfInBounds j v)) } := hQ _ hnew (Heap.SameBut.update ..)
  first
    | exact wpAny_pure ⟨.none, rfl, wpAny_pure fin⟩
    | exact wpAny_bind (wpAny_pure (wpAny_pure ⟨.none, rfl, wpAny_pure fin⟩))

theorem setSub_ok (S : HS cx H s) {o i v : Value} {Q : HP → Prop} (h : setSubP (abs o) (abs i) (abs v) H Q) :
    wpAny (model cx.prog cx.w) A (setItem o i v) (UP cx s H Q) E s := by
  obtain ⟨a, ho, h⟩ := onR_inv h
  obtain ⟨k, hi, h⟩ := onI_inv h
  have := abs_ref ho; subst this
  obtain ⟨u, rfl⟩ := abs_int hi
  obtain ⟨vs, hvs, h0, hlen, hlt, h⟩ := onHL_inv h
  obtain ⟨items, c, e, m⟩ := S.hr _ _ hvs
  rw [← size_of m] at hlt hlen
  refine setItem_plain e h0 (by first | lia | omega) (by first | lia | omega) fun h' hL sb => ?_
  exact ⟨_, S.change hvs (fun b ob hb q => (sb.2 b hb).trans q) (rep_list hL (by rw [Array.toList_setIfInBounds, List.map_set, m])) s.toks, KE.change hvs (fun b ob hb q => (sb.2 b hb).trans q) s.toks, h⟩
theorem getK_abs (ws : List (Int × Value)) (k : Int) : (valueAt ws k).map abs = getK (ws.map fun q => (q.1, abs q.2)) k := by
  induction ws with
  | nil => rfl
  | cons p r ih =>
    simp only [valueAt, getK, List.map_cons, List.find?_cons] at ih ⊢
    by_cases h : p.1 = k
    · simp [h]
    · simp only [decide_eq_false h]; exact ih
theorem putK_abs (ws : List (Int × Value)) (k : Int) (v : Value) : (stored ws k v).map (fun q => (q.1, abs q.2)) = putK (ws.map fun q => (q.1, abs q.2)) k (abs v) := by
  unfold stored putK
  rw [List.any_map]
  split
  · rename_i h
    rw [if_pos (by simpa [Function.comp_def] using h), List.map_map, List.map_map]
    apply List.map_congr_left
    intro p _
    simp only [Function.comp]
    split <;> rfl
  · rename_i h
    rw [if_neg (by simpa [Function.comp_def] using h), List.map_append]; rfl
theorem dsub_ok (S : HS cx H s) {value slice : Expr} (hsl : notSlice slice = true) {o i : Value} {Q : V → HP → Prop} (h : dsubP (abs o) (abs i) H Q) : wpAny (model cx.prog cx.w) A (subscriptTail value slice o i) (EP cx s H Q) E s := by
  obtain ⟨a, ho, h⟩ := onR_inv h
  obtain ⟨k, hi, h⟩ := onI_inv h
  have := abs_ref ho; subst this
  obtain ⟨u, rfl⟩ := abs_int hi
  obtain ⟨kvs, hk, h⟩ := onD_inv h
  obtain ⟨v, hv, h⟩ := onO_inv h
  obtain ⟨p, w, ws, d, rfl⟩ := S.hr _ _ hk
  rw [← getK_abs] at hv
  obtain ⟨x, hx, rfl⟩ := Option.map_eq_some_iff.mp hv
  have dd : s.heap.DictOf (intKind cx.prog cx.w) a ws := DictOf.any d
  exact tail_any dd.typeIs slot_dict_getitem.lookup (wpAny_getItem_of (k := k) (by simp [intKind, Value.isInt]) dd.mapOf hx (ep_same S _ h)) (notSlice_sub hsl _ _)
theorem setD_ok (S : HS cx H s) {o i v : Value} {Q : HP → Prop} (h : setDP (abs o) (abs i) (abs v) H Q) : wpAny (model cx.prog cx.w) A (setItem o i v) (UP cx s H Q) E s := by
  obtain ⟨a, ho, h⟩ := onR_inv h
  obtain ⟨k, hi, h⟩ := onI_inv h
  have := abs_ref ho; subst this
  obtain ⟨u, rfl⟩ := abs_int hi
  obtain ⟨kvs, hk, hlen, h⟩ := onD_inv h
  obtain ⟨p, w, ws, d, rfl⟩ := S.hr _ _ hk
  refine wpAny_setItem_pairs (k := k) (by simp [intKind, Value.isInt]) (DictOf.any d) (fun h' d' sb => ?_) (by rw [sizeLine_eq]; simpa using hlen)
  exact ⟨_, S.change (o' := .dct (putK (ws.map fun q => (q.1, abs q.2)) k (abs v))) hk (fun b ob hb q => (sb.2 b hb).trans q) ⟨_, _, _, d', putK_abs ws k v⟩ _, KE.change hk (fun b ob hb q => (sb.2 b hb).trans q) _, h⟩
end
end Mine
end

section
namespace Mine
open PySem PySem.W PyProof.Rows

noncomputable abbrev FE (es : List DictEntry) (fs : List (Str × V)) : Prop := es.map (fun e => (keyS e, abs e.val)) = fs.map fun p => (some p.1, p.2)

theorem keyS_is {e : DictEntry} {x y : Str} (h : keyS e = some x) : e.key.isStr y = (x == y) ∧ e.refKey = false := by
  obtain ⟨hs, k, v⟩ := e
  cases k <;> first | (cases h; exact ⟨rfl, rfl⟩) | cases h
theorem fe_cons {e : DictEntry} {es : List DictEntry} {fs : List (Str × V)} (h : FE (e :: es) fs) : ∃ x r, fs = (x, abs e.val) :: r ∧ keyS e = some x ∧ FE es r := by
  cases fs with
  | nil => cases h
  | cons p r =>
    obtain ⟨x, v⟩ := p
    simp only [FE, List.map_cons, List.cons.injEq, Prod.mk.injEq] at h
    obtain ⟨⟨h1, h2⟩, h3⟩ := h
    exact ⟨x, r, by rw [h2], h1, h3⟩
theorem fe_find (x : Str) : ∀ {es : List DictEntry} {fs : List (Str × V)}, FE es fs → (es.find? (·.key.isStr x)).map (fun e => abs e.val) = fs.lookup x ∧ es.any (·.refKey) = false
  | [], [], _ => ⟨rfl, rfl⟩
  | [], _ :: _, h => by cases h
  | e :: es, fs, h => by
    obtain ⟨y, r, rfl, h1, h2⟩ := fe_cons h
    obtain ⟨a, b⟩ := fe_find x h2
    obtain ⟨c, d⟩ := keyS_is (y := x) h1
    rw [List.find?_cons, List.any_cons, List.lookup_cons, c, d, b, show (x == y) = (y == x) from Bool.beq_comm]
    cases (y == x)
    · exact ⟨a, rfl⟩
    · exact ⟨rfl, rfl⟩
theorem fe_put (x : Str) (hs : Int) (t : Tok) (w : Value) : ∀ {es : List DictEntry} {fs : List (Str × V)}, FE es fs → FE (putL x hs (.str x t) w es) (putF x (abs w) fs)
  | [], [], _ => rfl
  | [], _ :: _, h => by cases h
  | e :: es, fs, h => by
    obtain ⟨y, r, rfl, h1, h2⟩ := fe_cons h
    have ih := fe_put x hs t w h2
    obtain ⟨c, d⟩ := keyS_is (y := x) h1
    unfold putL putF
    rw [c]
    cases q : (y == x)
    · simp only [Bool.false_eq_true, if_false, FE, List.map_cons, h1]
      rw [show List.map (fun e => (keyS e, abs e.val)) (putL x hs (.str x t) w es) = _ from ih]
    · simp only [if_true, FE, List.map_cons]
      rw [show List.map (fun e => (keyS e, abs e.val)) es = _ from h2]
      rw [show keyS ⟨e.hash, e.key, w⟩ = some y from h1]
theorem putL_len (x : Str) (hs : Int) (k w : Value) : ∀ es : List DictEntry, (putL x hs k w es).length ≤ es.length + 1
  | [] => Nat.le_refl _
  | e :: es => by
    unfold putL
    split
    · exact Nat.le_succ _
    · exact Nat.succ_le_succ (putL_len x hs k w es)

noncomputable def attrIn (K : Frag) (C : Addr) (x : Str) : Bool := plainGet K C x && (hasDictIn K C && (findIn K (.ref C) x == some none && (findIn K (.ref C) "__setattr__" == some (some (.builtin "object.__setattr__")) && plainOver K C)))
noncomputable def methIn (K : Frag) (C : Addr) (x : Str) (f : Addr) : Bool := plainGet K C x && (findIn K (.ref C) x == some (some (.ref f)) && (isFn K (.ref f) && keepIn K (.ref f)))
noncomputable def mkIn (K : Frag) (C f : Addr) : Bool := makesIn K C && (findIn K (.ref C) "__init__" == some (some (.ref f)) && (isFn K (.ref f) && keepIn K (.ref C)))
theorem band {a b : Bool} (h : (a && b) = true) : a = true ∧ b = true := by cases a <;> cases b <;> first | exact ⟨rfl, rfl⟩ | cases h

section
variable {cx : Cx} {K : Frag} {H : HP} {s : Shared} {A : Around} {E : Value → Shared → Prop} {n : Nat} {C : Addr} {x : Str}

theorem handed_abs {w : Value} (h : abs w ≠ .other) : handedIn w = true := by
  cases w <;> first | rfl | exact absurd rfl h
theorem inst_at (S : HS cx H s) {a dx : Addr} {fs : List (Str × V)} (h1 : H a = some (.inst C dx)) (h2 : H dx = some (.flds fs)) :
    ∃ es n, s.heap.get? dx = some (dictOf es n) ∧ FE es fs ∧ InstAt s.heap a (instObj C dx) C (some (dictOf es n)) := by
  obtain ⟨es, k, e, m⟩ := S.hr _ _ h2
  exact ⟨es, k, e, m, S.hr _ _ h1, rfl, rfl, e⟩
theorem attr_ok (X : K.In cx.base) (hT : attrIn K C x = true) (S : HS cx H s) {o : Value} {Q : V → HP → Prop} (h : attrP C (abs o) x H Q) : wpAny (model cx.prog cx.w) A (getAttr o x true) (EP cx s H Q) E s := by
  obtain ⟨a, ha, h⟩ := onR_inv h
  have := abs_ref ha; subst this
  obtain ⟨dx, hi, h⟩ := onIn_inv h
  obtain ⟨fs, hf, h⟩ := onFl_inv h
  obtain ⟨v, hv, hne, hq⟩ := onO_inv h
  obtain ⟨es, k, e, m, I⟩ := inst_at S hi hf
  obtain ⟨h1, h2⟩ := band hT
  obtain ⟨h2, h3⟩ := band h2
  obtain ⟨h3, h4⟩ := band h3
  obtain ⟨f1, f2⟩ := fe_find x m
  rw [hv] at f1
  obtain ⟨en, f3, f4⟩ := Option.map_eq_some_iff.mp f1
  refine get_value (v := en.val) (X.keeps S.ext) I (plainGet_of h1).1 (findObj_own (attr := none) h2 (beq_iff_eq.mp h3) rfl ?_) (handed_abs (by rw [f4]; exact hne)) (ep_same S _ (by rw [f4]; exact hq))
  rw [lookIn_dict]
  unfold W.getL
  rw [f3]
theorem meth_ok (X : K.In cx.base) {f : Addr} (hT : methIn K C x f = true) (S : HS cx H s) {o : Value} {pl : Sem Bool} (h : instP C (abs o) x H) {Q : Value × List Value → Shared → Prop} (q : Q (.ref f, [o]) s) :
    wpAny (model cx.prog cx.w) A (getMethod o x pl) Q E s := by
  obtain ⟨a, ha, h⟩ := onR_inv h
  have := abs_ref ha; subst this
  obtain ⟨dx, hi, h⟩ := onIn_inv h
  obtain ⟨fs, hf, h⟩ := onFl_inv h
  obtain ⟨es, k, e, m, I⟩ := inst_at S hi hf
  obtain ⟨h1, h2⟩ := band hT
  obtain ⟨h2, h3⟩ := band h2
  obtain ⟨h3, h4⟩ := band h3
  obtain ⟨f1, f2⟩ := fe_find x m
  rw [h] at f1
  refine method_fn (X.keeps S.ext) I (plainGet_of h1).1 (plainGet_of h1).2 (beq_iff_eq.mp h2) (beq_iff_eq.mp h3) ?_ q
  show (lookIn x (dictOf es k)).map _ = _
  rw [lookIn_dict]
  unfold W.getL
  rw [Option.map_eq_none_iff.mp f1, f2]
  rfl
theorem setAttr_ok (X : K.In cx.base) (hT : attrIn K C x = true) (S : HS cx H s) {o v : Value} {Q : HP → Prop} (h : setAttrP C (abs o) x (abs v) H Q) : wpAny (model cx.prog cx.w) A (setAttr o x v) (UP cx s H Q) E s := by
  obtain ⟨a, ha, h⟩ := onR_inv h
  have := abs_ref ha; subst this
  obtain ⟨dx, hi, h⟩ := onIn_inv h
  obtain ⟨fs, hf, hlen, h⟩ := onFl_inv h
  obtain ⟨es, k, e, m, I⟩ := inst_at S hi hf
  obtain ⟨h1, h2⟩ := band hT
  obtain ⟨h2, h3⟩ := band h2
  obtain ⟨h3, h4⟩ := band h3
  obtain ⟨h4, h5⟩ := band h4
  have X' := X.keeps S.ext
  have hel : es.length < 100 := by have := congrArg List.length m; rw [List.length_map, List.length_map] at this; rw [this]; exact hlen
  refine set_plain X' I (beq_iff_eq.mp h4) (osa_open (s := { s with toks := s.toks + 1 }) X' I h5 (r := none) ?_ fun b => ?_)
  · unfold takerIn; rw [beq_iff_eq.mp h3]; rfl
  obtain ⟨cd, hc, hd⟩ := any_some h2
  have D' := Heap.get?_update_self (Obj.putName x (PyData.keyHash cx.w.params x) (.str x (s.toks + 1)) v) e (by rw [putName_dict]; rfl)
  rw [putName_dict] at D'
  dsimp only
  refine wpAny_bind (wpAny_pure (wpAny_bind (wpAny_bind (wpAny_loadPart I.at_ (wpAny_bind ((looks_clsIn X' hc).keeps (h' := s.heap) (fun _ _ e => e) _ _ _ _ (fun _ _ e => e) ?_))))))
  rw [hd]
  refine wpAny_pure (a := some dx) (wpAny_bind (wpAny_pure (wpAny_bind ?_)))
  unfold nsSet
  refine wpAny_bind (wpAny_bind (wpAny_askSetting (wpAny_pure (wpAny_bind (wpAny_mkText (wpAny_bind (wpAny_loadPart e ?_)))))))
  have f2 := (fe_find x m).2
  have c : aRefKeyMayBeTheName x es.toArray = false := by
    rw [aRefKeyMayBeTheName_at, ← Array.any_toList, ← Array.any_toList]
    show (!es.any _ && es.any _) = false
    rw [f2, Bool.and_false]
  dsimp only
  rw [c]
  refine wpAny_updatePart e (wpAny_bind (wpAny_lookBehind D' (pastItsLine_dict (by rw [List.size_toArray, sizeLine_eq]; have := putL_len x (PyData.keyHash cx.w.params x) (.str x (s.toks + 1)) v es; first | lia | omega)) (wpAny_pure ?_)))
  have sb : ∀ b ob, b ≠ dx → s.heap.get? b = some ob → (s.heap.update dx (Obj.putName x (PyData.keyHash cx.w.params x) (.str x (s.toks + 1)) v)).get? b = some ob := fun b ob hb q => (Heap.get?_update_other _ _ (Ne.symm hb)).trans q
  exact ⟨_, S.change (o' := .flds (putF x (abs v) fs)) hf sb ⟨_, _, D', fe_put x _ _ v m⟩ _, KE.change hf sb _, h⟩
noncomputable def XE (cx : Cx) (E : Value → Shared → Prop) (s : Shared) (H : HP) (Q : V → HP → Prop) : Prop := ∀ (e C T : Addr) (H' : HP) (s' : Shared), HS cx H' s' → KE s H s' H' → ExcIn cx.base s H H' s'.heap e C T → T ≠ e → Q (.exc C) H' → E (.ref e) s'
theorem XE.nx {Q : V → HP → Prop} : XE cx E s H (Mine.nx Q) := fun _ _ _ _ _ _ _ _ _ r => r.elim
theorem ExcIn.from {b : Heap} {s₁ : Shared} {H₁ H' : HP} {h : Heap} {e Ce T : Addr} (k : KE s H s₁ H₁) (x : ExcIn b s₁ H₁ H' h e Ce T) : ExcIn b s H H' h e Ce T :=
  ⟨fun o q q2 => (let ⟨o', e1, _⟩ := k.keep e o q q2 id; x.e0 o' e1 (k.dom e o q q2 id)), fun o q q2 => (let ⟨o', e1, _⟩ := k.keep T o q q2 id; x.t0 o' e1 (k.dom T o q q2 id)), x.e1, x.t1, x.e2, x.t2, x.at_⟩
theorem XE.from {Q : V → HP → Prop} {s₁ : Shared} {H₁ : HP} (X : XE cx E s H Q) (k : KE s H s₁ H₁) : XE cx E s₁ H₁ Q := fun e Ce T H' s' S' k' x n r => X e Ce T H' s' S' (k.trans k') (x.from k) n r
theorem call_ok {q : Bool} (hA : ACall0 A n) (hh : q = false → A.handled = none) (S : HS cx H s) (hf : ∀ l, A.frames = some l → FrL cx.base H s.heap l) {f : Addr} {vs : List Value} {Q : V → HP → Prop} (h : CallY q cx n f (vs.map abs) H Q) (hE : XE cx E s H Q) :
    wpAny (model cx.prog cx.w) A (call (.ref f) vs) (EP cx s H Q) E s := by
  refine wpAny_call (codeAny_mono (h A s vs hA hh S hf rfl) fun r s' hr => ?_)
  rcases hr with ⟨v, H', rfl, a, b, c⟩ | ⟨e, Ce, T, H', rfl, a, b, x, nT, c⟩
  · exact ⟨H', a, b, c⟩
  · exact hE e Ce T H' s' a b x nT c
theorem EP.nx {Q : V → HP → Prop} {v : Value} {s' : Shared} : EP cx s H (Mine.nx Q) v s' → EP cx s H Q v s' := fun ⟨H', a, b, c⟩ => ⟨H', a, b, nx_abs c⟩
theorem mk_ok (CO : cx.OK) (hA : ACall0 A n) (hh : A.handled = none) (hf : ∀ l, A.frames = some l → FrL cx.base H s.heap l) (X : K.In cx.base) {f : Addr} (hT : mkIn K C f = true) (S : HS cx H s) {vs : List Value} {Q : V → HP → Prop} (h : mkX cx n C f (vs.map abs) H Q) (hE : XE cx E s H Q) :
    wpAny (model cx.prog cx.w) A (call (.ref C) vs) (EP cx s H Q) E s := by
  obtain ⟨h1, h2⟩ := band hT
  obtain ⟨h2, h3⟩ := band h2
  obtain ⟨h3, h4⟩ := band h3
  have X' := X.keeps S.ext
  obtain ⟨hn, h⟩ := h
  obtain ⟨hh₀, g, d, t, os⟩ := s
  refine wpAny_call (make_core (makes_of X' h1) (looks_findIn X' (beq_iff_eq.mp h2)) (fun self => bind_fn X' self (beq_iff_eq.mp h3)) (.inl rfl) ?_)
  have k1 : ∀ b o, hh₀.get? b = some o → (hh₀.push emptyDict).get? b = some o := fun b o e => Heap.get?_push_of_some _ e
  have S1 : HS cx (upd H hh₀.objs.size (.flds [])) ⟨hh₀.push emptyDict, g, d, t, os⟩ := S.alloc (o := .flds []) k1 (get_size _) ⟨[], 0, Heap.get?_push_size _ rfl, rfl⟩ t
  have k2 : ∀ b o, (hh₀.push emptyDict).get? b = some o → ((hh₀.push emptyDict).push (instObj C hh₀.objs.size)).get? b = some o := fun b o e => Heap.get?_push_of_some _ e
  have hs : (hh₀.push emptyDict).objs.size = hh₀.objs.size + 1 := Heap.size_push ..
  have hno : (hh₀.push emptyDict).get? (hh₀.objs.size + 1) = none := by rw [← hs]; exact get_size _
  have S2 : HS cx (upd (upd H hh₀.objs.size (.flds [])) (hh₀.objs.size + 1) (.inst C hh₀.objs.size)) ⟨(hh₀.push emptyDict).push (instObj C hh₀.objs.size), g, d, t, os⟩ :=
    S1.alloc k2 hno (by show Heap.get? _ _ = _; rw [← hs]; exact Heap.get?_push_size _ rfl) t
  have K1 : KE ⟨hh₀, g, d, t, os⟩ H ⟨hh₀.push emptyDict, g, d, t, os⟩ (upd H hh₀.objs.size (.flds [])) := KE.alloc k1 (get_size _) t
  have K2 : KE ⟨hh₀.push emptyDict, g, d, t, os⟩ (upd H hh₀.objs.size (.flds [])) ⟨(hh₀.push emptyDict).push (instObj C hh₀.objs.size), g, d, t, os⟩ (upd (upd H hh₀.objs.size (.flds [])) (hh₀.objs.size + 1) (.inst C hh₀.objs.size)) := KE.alloc k2 hno t
  have hu := hA.units
  have hd := hA.depth
  refine codeAny_mono (h hh₀.objs.size (S.fresh CO (get_size _)) (hh₀.objs.size + 1) (S1.fresh CO hno) _ _ (.ref (hh₀.objs.size + 1) :: vs) ⟨by show A.depth + 1 + _ < _; first | lia | omega, by show A.units + 1 + _ < _; first | lia | omega, hA.frames, hA.guards⟩ (fun _ => hh) S2 (fun l e => (hf l e).kept (K1.trans K2) fun _ _ _ _ => id) rfl) fun r s' hr => ?_
  rcases hr with ⟨v, H', rfl, a, b, c⟩ | ⟨e, Ce, T, H', rfl, a, b, x, nT, c⟩
  · have c : abs v = .none ∧ Q (.ref (hh₀.objs.size + 1)) H' := by cases v <;> exact c
    refine ⟨(by cases v <;> first | rfl | cases c.1), H', a, K1.trans (K2.trans b), c.2⟩
  · exact hE e Ce T H' s' a (K1.trans (K2.trans b)) (x.from (K1.trans K2)) nT c
end
end Mine
end

section
namespace Mine
open PySem PyProof.Rows PySem.SeqAt

noncomputable def bmV : List Value := [.type "ValueError", .type "Exception", .type "BaseException", .type "object"]
noncomputable def ExcCls (C : Addr) (h : Heap) : Prop := OwnClsQ "" C bmV "ValueError.__new__" (fun _ => some (.ref C)) h
structure Tbl where
  fns : List (Str × Addr)
  bfs : List (Str × BF)
  tys : List (Str × String)
  K : PySem.W.Frag
  ats : List (Addr × Str)
  mts : List (Addr × Str × Addr)
  mks : List (Str × Addr × Addr)
  gis : List (Str × Int)
  exs : List (Str × Addr)
  q : Bool

structure Tbl.OK (cx : Cx) (T : Tbl) : Prop where
  fn : ∀ x f, T.fns.lookup x = some f → cx.gl x = some (.ref f) ∧ ∃ o fd, cx.base.get? f = some o ∧ o.data = .func fd
  bf : ∀ x b, T.bfs.lookup x = some b → cx.gl x = some b.val
  ty : ∀ x t, T.tys.lookup x = some t → cx.gl x = some (.type t)
  isi : cx.gl "isinstance" = some (.builtin "isinstance")
  rng : cx.gl "range" = some (.type "range")
  kin : T.K.In cx.base
  at_ : ∀ C x, T.ats.contains (C, x) = true → attrIn T.K C x = true
  mt : ∀ C x f, T.mts.contains (C, x, f) = true → methIn T.K C x f = true
  mkc : ∀ x C f, T.mks.contains (x, C, f) = true → cx.gl x = some (.ref C) ∧ mkIn T.K C f = true
  gi : ∀ x i, T.gis.lookup x = some i → ∃ t, cx.gl x = some (.int i t)
  ex : ∀ x C, T.exs.lookup x = some C → cx.gl x = some (.ref C) ∧ ExcCls C cx.base

noncomputable def appN (x : Bool) : Str := if x then "extend" else "append"
noncomputable def popN (x : Bool) : Str := if x then "clear" else "pop"
noncomputable def isGlob (sc : Scope) (x : Str) : Bool := sc.names.lookup x == some .globalImplicit && !(x == ("__debug__" : Str))
noncomputable def plainBase : Expr → Bool
  | .Call .. => false
  | _ => true
noncomputable def relabelS (scope outer : Scope) : Scope :=
  { scope with names := scope.names.map fun (n, k) => if (k == .free && outer.kind == .function && outer.names.lookup n == some .cell) then (n, .cell) else (n, k) }
noncomputable def compNames (scope : Scope) (nm : List (Option Str)) (x : Str) : List (Option Str) :=
  nm.map (fun o => o.filter fun y => scope.names.lookup y == some .free) ++ [some x]
noncomputable def compScopeOk (scope outer : Scope) (x : Str) : Bool :=
  scope.kind == .function && scope.names.lookup x == some .local && outer.kind == .function &&
  scope.names.all fun y => y.2 != .cell && (y.2 != .local || scope.names.lookup y.1 == some .local) && (y.2 != .free || (outer.names.lookup y.1 == some .cell && scope.names.lookup y.1 == some .free))

noncomputable def cN : Const → Bool
  | .none => true
  | _ => false
noncomputable def vConst (e : Expr) (k : Const → Bool) : Bool := match e with
  | .Constant c _ _ => k c
  | _ => false
theorem vConst_inv {e : Expr} {k : Const → Bool} (h : vConst e k = true) : ∃ c n p, e = .Constant c n p ∧ k c = true := by cases e <;> first | exact ⟨_, _, _, rfl, h⟩ | exact (Bool.false_ne_true h).elim
noncomputable def vName (e : Expr) (k : Str → Bool) : Bool := match e with
  | .Name x _ => k x
  | _ => false
theorem vName_inv {e : Expr} {k : Str → Bool} (h : vName e k = true) : ∃ x p, e = .Name x p ∧ k x = true := by cases e <;> first | exact ⟨_, _, rfl, h⟩ | exact (Bool.false_ne_true h).elim
noncomputable def vBin (e : Expr) (k : Expr → Operator → Expr → Bool) : Bool := match e with
  | .BinOp l op r _ => k l op r
  | _ => false
theorem vBin_inv {e : Expr} {k : Expr → Operator → Expr → Bool} (h : vBin e k = true) : ∃ l op r p, e = .BinOp l op r p ∧ k l op r = true := by cases e <;> first | exact ⟨_, _, _, _, rfl, h⟩ | exact (Bool.false_ne_true h).elim
noncomputable def vUn (e : Expr) (k : UnaryOp → Expr → Bool) : Bool := match e with
  | .UnaryOp op a _ => k op a
  | _ => false
theorem vUn_inv {e : Expr} {k : UnaryOp → Expr → Bool} (h : vUn e k = true) : ∃ op a p, e = .UnaryOp op a p ∧ k op a = true := by cases e <;> first | exact ⟨_, _, _, rfl, h⟩ | exact (Bool.false_ne_true h).elim
noncomputable def vCmp (e : Expr) (k : Expr → List CmpOp → List Expr → Bool) : Bool := match e with
  | .Compare l ops cs _ => k l ops cs
  | _ => false
theorem vCmp_inv {e : Expr} {k : Expr → List CmpOp → List Expr → Bool} (h : vCmp e k = true) : ∃ l ops cs p, e = .Compare l ops cs p ∧ k l ops cs = true := by cases e <;> first | exact ⟨_, _, _, _, rfl, h⟩ | exact (Bool.false_ne_true h).elim
noncomputable def vBool (e : Expr) (k : BoolOp → List Expr → Bool) : Bool := match e with
  | .BoolOp op es _ => k op es
  | _ => false
theorem vBool_inv {e : Expr} {k : BoolOp → List Expr → Bool} (h : vBool e k = true) : ∃ op es p, e = .BoolOp op es p ∧ k op es = true := by cases e <;> first | exact ⟨_, _, _, rfl, h⟩ | exact (Bool.false_ne_true h).elim
noncomputable def vCall (e : Expr) (k : Expr → List Expr → List Keyword → Pos → Bool) : Bool := match e with
  | .Call f as ks p => k f as ks p
  | _ => false
theorem vCall_inv {e : Expr} {k : Expr → List Expr → List Keyword → Pos → Bool} (h : vCall e k = true) : ∃ f as ks p, e = .Call f as ks p ∧ k f as ks p = true := by cases e <;> first | exact ⟨_, _, _, _, rfl, h⟩ | exact (Bool.false_ne_true h).elim
noncomputable def vAttr (e : Expr) (k : Expr → Str → Pos → Bool) : Bool := match e with
  | .Attribute o m p => k o m p
  | _ => false
theorem vAttr_inv {e : Expr} {k : Expr → Str → Pos → Bool} (h : vAttr e k = true) : ∃ o m p, e = .Attribute o m p ∧ k o m p = true := by cases e <;> first | exact ⟨_, _, _, rfl, h⟩ | exact (Bool.false_ne_true h).elim
noncomputable def vDict (e : Expr) (k : List (Option Expr) → List Expr → Bool) : Bool := match e with
  | .Dict ks vs _ => k ks vs
  | _ => false
theorem vDict_inv {e : Expr} {k : List (Option Expr) → List Expr → Bool} (h : vDict e k = true) : ∃ ks vs p, e = .Dict ks vs p ∧ k ks vs = true := by cases e <;> first | exact ⟨_, _, _, rfl, h⟩ | exact (Bool.false_ne_true h).elim
noncomputable def vSub (e : Expr) (k : Expr → Expr → Bool) : Bool := match e with
  | .Subscript o i _ => k o i
  | _ => false
theorem vSub_inv {e : Expr} {k : Expr → Expr → Bool} (h : vSub e k = true) : ∃ o i p, e = .Subscript o i p ∧ k o i = true := by cases e <;> first | exact ⟨_, _, _, rfl, h⟩ | exact (Bool.false_ne_true h).elim
noncomputable def vSlice (e : Expr) (k : Option Expr → Option Expr → Option Expr → Bool) : Bool := match e with
  | .Slice a b c _ => k a b c
  | _ => false
theorem vSlice_inv {e : Expr} {k : Option Expr → Option Expr → Option Expr → Bool} (h : vSlice e k = true) : ∃ a b c p, e = .Slice a b c p ∧ k a b c = true := by cases e <;> first | exact ⟨_, _, _, _, rfl, h⟩ | exact (Bool.false_ne_true h).elim
noncomputable def vList (e : Expr) (k : List Expr → Bool) : Bool := match e with
  | .List es _ => k es
  | _ => false
theorem vList_inv {e : Expr} {k : List Expr → Bool} (h : vList e k = true) : ∃ es p, e = .List es p ∧ k es = true := by cases e <;> first | exact ⟨_, _, rfl, h⟩ | exact (Bool.false_ne_true h).elim
noncomputable def vTup (e : Expr) (k : List Expr → Bool) : Bool := match e with
  | .Tuple es _ _ => k es
  | _ => false
theorem vTup_inv {e : Expr} {k : List Expr → Bool} (h : vTup e k = true) : ∃ es n p, e = .Tuple es n p ∧ k es = true := by cases e <;> first | exact ⟨_, _, _, rfl, h⟩ | exact (Bool.false_ne_true h).elim
noncomputable def vComp (e : Expr) (k : Expr → List Comprehension → Scope → Bool) : Bool := match e with
  | .ListComp elt gs sc _ => k elt gs sc
  | _ => false
theorem vComp_inv {e : Expr} {k : Expr → List Comprehension → Scope → Bool} (h : vComp e k = true) : ∃ elt gs sc p, e = .ListComp elt gs sc p ∧ k elt gs sc = true := by cases e <;> first | exact ⟨_, _, _, _, rfl, h⟩ | exact (Bool.false_ne_true h).elim

noncomputable def vIfE (e : Expr) (k : Expr → Expr → Expr → Bool) : Bool := match e with
  | .IfExp c a b _ => k c a b
  | _ => false
theorem vIfE_inv {e : Expr} {k : Expr → Expr → Expr → Bool} (h : vIfE e k = true) : ∃ c a b p, e = .IfExp c a b p ∧ k c a b = true := by cases e <;> first | exact ⟨_, _, _, _, rfl, h⟩ | exact (Bool.false_ne_true h).elim

theorem and2 {a b : Bool} (h : (a && b) = true) : a = true ∧ b = true := by cases a <;> cases b <;> first | exact ⟨rfl, rfl⟩ | cases h

noncomputable def nameCall (e : Expr) (k : Str → List Expr → Bool) : Bool := vCall e fun f as ks _ => ks.isEmpty && vName f fun x => k x as
theorem nil_of {α : Type} {l : List α} (h : l.isEmpty = true) : l = [] := List.isEmpty_iff.mp h
theorem nameCall_inv {e : Expr} {k : Str → List Expr → Bool} (h : nameCall e k = true) : ∃ x np as p, e = .Call (.Name x np) as [] p ∧ k x as = true := by
  obtain ⟨f, as, ks, p, e1, h1⟩ := vCall_inv h
  obtain ⟨hk, h2⟩ := and2 h1
  obtain ⟨x, np, e2, h3⟩ := vName_inv h2
  rw [nil_of hk, e2] at e1
  exact ⟨x, np, as, p, e1, h3⟩
noncomputable def oneGen (gs : List Comprehension) (k : Expr → Expr → List Expr → Int → Bool) : Bool := match gs with
  | [⟨tg, iter, ifs, a⟩] => k tg iter ifs a
  | _ => false
theorem oneGen_inv {gs : List Comprehension} {k : Expr → Expr → List Expr → Int → Bool} (h : oneGen gs k = true) : ∃ tg iter ifs a, gs = [⟨tg, iter, ifs, a⟩] ∧ k tg iter ifs a = true := match gs, h with
  | [⟨tg, iter, ifs, a⟩], h => ⟨tg, iter, ifs, a, rfl, h⟩
noncomputable def oneComp (e : Expr) (sc : Scope) (k : Expr → Str → Expr → List Expr → Scope → Bool) : Bool := vComp e fun elt gs scope => oneGen gs fun tg iter ifs a => a == 0 && vName tg fun x => compScopeOk scope sc x && k elt x iter ifs scope
theorem oneComp_inv {e : Expr} {sc : Scope} {k : Expr → Str → Expr → List Expr → Scope → Bool} (h : oneComp e sc k = true) :
    ∃ elt x px iter ifs scope p, e = .ListComp elt [⟨.Name x px, iter, ifs, 0⟩] scope p ∧ compScopeOk scope sc x = true ∧ k elt x iter ifs scope = true := by
  obtain ⟨elt, gs, scope, p, e1, h1⟩ := vComp_inv h
  obtain ⟨tg, iter, ifs, a, e2, h2⟩ := oneGen_inv h1
  obtain ⟨ha, h3⟩ := and2 h2
  obtain ⟨x, px, e3, h4⟩ := vName_inv h3
  obtain ⟨hs, h5⟩ := and2 h4
  rw [e3, eq_of_beq ha] at e2
  rw [e2] at e1
  exact ⟨elt, x, px, iter, ifs, scope, p, e1, hs, h5⟩

noncomputable def l1 {α : Type} (l : List α) (k : α → Bool) : Bool := match l with
  | [a] => k a
  | _ => false
theorem l1_inv {α : Type} {l : List α} {k : α → Bool} (h : l1 l k = true) : ∃ a, l = [a] ∧ k a = true := match l, h with
  | [a], h => ⟨a, rfl, h⟩
noncomputable def l2 {α : Type} (l : List α) (k : α → α → Bool) : Bool := match l with
  | [a, b] => k a b
  | _ => false
theorem l2_inv {α : Type} {l : List α} {k : α → α → Bool} (h : l2 l k = true) : ∃ a b, l = [a, b] ∧ k a b = true := match l, h with
  | [a, b], h => ⟨a, b, rfl, h⟩
theorem or2 {a b : Bool} (h : (a || b) = true) : a = true ∨ b = true := by cases a <;> cases b <;> first | exact .inl rfl | exact .inr rfl | cases h

noncomputable def isNoneM : ME → Bool
  | .cnone => true
  | _ => false
noncomputable def isTrueM : ME → Bool
  | .cbool b => b
  | _ => false
noncomputable def isZeroM : ME → Bool
  | .cint i => i == 0
  | _ => false
noncomputable def cI (c : Const) (i : Int) : Bool := match c with
  | .int j => i == j
  | _ => false
noncomputable def cB (c : Const) (b : Bool) : Bool := match c with
  | .bool d => b == d
  | _ => false
noncomputable def cS (c : Const) (x : Str) : Bool := match c with
  | .str y => x == y
  | _ => false
noncomputable def so {α : Type} (o : Option α) (k : α → Bool) (n : Bool) : Bool := match o with
  | some x => k x
  | none => n
mutual
noncomputable def chkE (T : Tbl) : ME → Scope → List (Option Str) → Expr → Bool
  | .cint i, _, _, e => vConst e fun c => cI c i
  | .cbool b, _, _, e => vConst e fun c => cB c b
  | .cnone, _, _, e => vConst e cN
  | .cstr x, _, _, e => vConst e fun c => cS c x
  | .loc i, _, nm, e => vName e fun x => !(x == ("__debug__" : Str)) && nm[i]? == some (some x)
  | .bin op l r, sc, nm, e => vBin e fun a o b => o == op && (chkE T l sc nm a && chkE T r sc nm b)
  | .not m, sc, nm, e => vUn e fun o a => o == .Not && chkE T m sc nm a
  | .cmp l op r, sc, nm, e => vCmp e fun a ops cs => l1 ops fun o => l1 cs fun b => o == op && (chkE T l sc nm a && chkE T r sc nm b)
  | .bop op ms, sc, nm, e => vBool e fun o es => o == op && chkEs T ms sc nm es
  | .callf f ms, sc, nm, e => !T.q && nameCall e fun x as => isGlob sc x && (T.fns.lookup x == some f && (!as.isEmpty && chkEs T ms sc nm as))
  | .callb b ms, sc, nm, e => (b.quiet || !T.q) && nameCall e fun x as => isGlob sc x && (T.bfs.lookup x == some b && (!as.isEmpty && chkEs T ms sc nm as))
  | .isi m t, sc, nm, e => nameCall e fun x as => isGlob sc x && (x == ("isinstance" : Str) && l2 as fun a b => chkE T m sc nm a && vName b fun y => isGlob sc y && T.tys.lookup y == some t)
  | .app y o m, sc, nm, e => vCall e fun f as ks p => ks.isEmpty && vAttr f fun b x ap =>
      (ap.endLine == p.line && plainBase b) && (x == appN y && (chkE T o sc nm b && l1 as fun a => chkE T m sc nm a))
  | .pop y o, sc, nm, e => vCall e fun f as ks p => (ks.isEmpty && as.isEmpty) && vAttr f fun b x ap =>
      (ap.endLine == p.line && plainBase b) && (x == popN y && chkE T o sc nm b)
  | .dsub o i, sc, nm, e => vSub e fun a b => chkE T o sc nm a && chkE T i sc nm b
  | .dnil, _, _, e => vDict e fun ks vs => ks.isEmpty && vs.isEmpty
  | .done k v, sc, nm, e => vDict e fun ks vs => l1 ks fun x => so x (fun x => vConst x fun c => cI c k) false && l1 vs fun y => chkE T v sc nm y
  | .sub o i, sc, nm, e => vSub e fun a b => chkE T o sc nm a && chkE T i sc nm b
  | .slice o lo hi, sc, nm, e => vSub e fun a b => chkE T o sc nm a && vSlice b fun x y z => z.isNone && (so x (fun x => chkE T lo sc nm x) (isNoneM lo) && so y (fun y => chkE T hi sc nm y) (isNoneM hi))
  | .list ms, sc, nm, e => vList e fun es => chkEs T ms sc nm es
  | .tup ms, sc, nm, e => vTup e fun es => chkEs T ms sc nm es
  | .comp el it c, sc, nm, e => !T.q && oneComp e sc fun elt x iter ifs scope => chkE T el (relabelS scope sc) (compNames scope nm x) elt && (chkE T it sc nm iter &&
      (ifs.isEmpty && isTrueM c || l1 ifs fun i => chkE T c (relabelS scope sc) (compNames scope nm x) i))
  | .compR el a b c, sc, nm, e => !T.q && oneComp e sc fun elt x iter ifs scope => chkE T el (relabelS scope sc) (compNames scope nm x) elt && ((nameCall iter fun y as => isGlob sc y && (y == ("range" : Str) &&
      ((l1 as fun q => isZeroM a && chkE T b sc nm q) || l2 as fun p q => chkE T a sc nm p && chkE T b sc nm q))) &&
      (ifs.isEmpty && isTrueM c || l1 ifs fun i => chkE T c (relabelS scope sc) (compNames scope nm x) i))
  | .neg m, sc, nm, e => vUn e fun o a => o == .USub && chkE T m sc nm a
  | .cmp2 l o1 m o2 r, sc, nm, e => vCmp e fun a ops cs => l2 ops fun p q => l2 cs fun b c => (p == o1 && q == o2) && (chkE T l sc nm a && (chkE T m sc nm b && chkE T r sc nm c))
  | .gint i, sc, _, e => vName e fun x => isGlob sc x && T.gis.lookup x == some i
  | .attr C i x, _, nm, e => vAttr e fun o y _ => y == x && (T.ats.contains (C, x) && vName o fun z => !(z == ("__debug__" : Str)) && nm[i]? == some (some z))
  | .callm C x f i ms, sc, nm, e => !T.q && vCall e fun g as ks p => ks.isEmpty && vAttr g fun o y ap => (ap.endLine == p.line && y == x) && (T.mts.contains (C, x, f) && ((vName o fun z => !(z == ("__debug__" : Str)) && nm[i]? == some (some z)) && (decide (as.length < 20) && chkEs T ms sc nm as)))
  | .mk C f ms, sc, nm, e => !T.q && nameCall e fun x as => isGlob sc x && (T.mks.contains (x, C, f) && (!as.isEmpty && chkEs T ms sc nm as))
noncomputable def chkEs (T : Tbl) : MEs → Scope → List (Option Str) → List Expr → Bool
  | .nil, _, _, es => es.isEmpty
  | .cons m ms, sc, nm, es => match es with
    | e :: r => chkE T m sc nm e && chkEs T ms sc nm r
    | [] => false
end
theorem chkEs_cons {T : Tbl} {m : ME} {ms : MEs} {sc : Scope} {nm : List (Option Str)} {es : List Expr} (h : chkEs T (.cons m ms) sc nm es = true) : ∃ e r, es = e :: r ∧ chkE T m sc nm e = true ∧ chkEs T ms sc nm r = true := by
  cases es with
  | nil => cases h
  | cons e r => exact ⟨e, r, rfl, and2 h⟩
noncomputable def kindOK (e : Expr) : Bool := match e with
  | .Constant .. => true
  | .Name .. => true
  | .BinOp .. => true
  | .UnaryOp .. => true
  | .Compare .. => true
  | .BoolOp .. => true
  | .Call .. => true
  | .Subscript .. => true
  | .List .. => true
  | .Tuple .. => true
  | .ListComp .. => true
  | .IfExp .. => true
  | .Attribute .. => true
  | .Dict .. => true
  | _ => false
end Mine
end

section
namespace Mine
open PySem PyProof.Rows PySem.SeqAt

noncomputable def BP (cx : Cx) (s : Shared) (H : HP) (Q : Bool → HP → Prop) : Bool → Shared → Prop := fun b s' => ∃ H', HS cx H' s' ∧ KE s H s' H' ∧ Q b H'
noncomputable def LP (cx : Cx) (s : Shared) (H : HP) (Q : List V → HP → Prop) : List Value → Shared → Prop := fun vs s' => ∃ H', HS cx H' s' ∧ KE s H s' H' ∧ Q (vs.map abs) H'
theorem bp_from {cx : Cx} {s s₁ : Shared} {H H₁ : HP} {Q : Bool → HP → Prop} {M : Model} {A : Around} {E : Value → Shared → Prop} {t : Sem Bool} (k : KE s H s₁ H₁) (h : wpAny M A t (BP cx s₁ H₁ Q) E s₁) : wpAny M A t (BP cx s H Q) E s₁ :=
  wpAny_mono h (fun _ _ ⟨H', a, b, c⟩ => ⟨H', a, k.trans b, c⟩) fun _ _ e => e
theorem ep_then {cx : Cx} {s : Shared} {H : HP} {Q : V → HP → Prop} {Q' : Value → Shared → Prop} {M : Model} {A : Around} {E : Value → Shared → Prop} {t : Sem Value} (h : wpAny M A t (EP cx s H Q) E s)
    (f : ∀ v s₁ H₁, HS cx H₁ s₁ → KE s H s₁ H₁ → Q (abs v) H₁ → Q' v s₁) : wpAny M A t Q' E s := wpAny_mono h (fun v s₁ ⟨H₁, a, b, c⟩ => f v s₁ H₁ a b c) fun _ _ e => e

theorem starEach_of {e : Expr} (h : kindOK e = true) (r : List Expr) (env : Env) : starEach (e :: r) env = (false, eval e env) :: starEach r env := by
  cases e <;> first | rfl | exact (Bool.false_ne_true h).elim
theorem marks_of {e : Expr} (h : kindOK e = true) (op : CmpOp) : behindInMarks op e = false := by
  cases e <;> first | rfl | exact (Bool.false_ne_true h).elim
theorem folded_of {e : Expr} (h : kindOK e = true) (env : Env) (x : Value) : foldedSetIterable e env x = pure x := by
  cases e <;> first | rfl | exact (Bool.false_ne_true h).elim
theorem notSlice_of {e : Expr} (h : kindOK e = true) : notSlice e = true := by
  cases e <;> first | rfl | exact (Bool.false_ne_true h).elim
theorem base_of {o : Expr} (h : plainBase o = true) (x : Str) (env : Env) (t : Sem Value) : attributeBase o x env t = t := by
  cases o <;> first | rfl | exact (Bool.false_ne_true h).elim
theorem truth_inv {v : Value} {Q : Bool → Prop} (h : onB (abs v) Q) : ∃ b, v = .bool b ∧ Q b := by
  cases v <;> first | exact ⟨_, rfl, h⟩ | exact False.elim h

section
variable {cx : Cx} {T : Tbl} {fm : Fm} {H : HP} {μ : List V} {s : Shared} {A : Around} {E : Value → Shared → Prop} {n : Nat}

theorem glob_name (C : cx.OK) (W : fm.OK cx A) (S : HS cx H s) {M : Model} {x : Str} {pos : Pos} {v : Value} (hx : isGlob fm.env.scope x = true) (hg : cx.gl x = some v) {Q : Value → Shared → Prop} (h : Q v s) :
    wpAny M A (eval (.Name x pos) fm.env) Q E s := by
  obtain ⟨h1, h2⟩ := and2 hx
  refine Calls.Name_function_global W.kind (eq_of_beq h1) ?_ (by simpa using h2)
  rcases C.glob x v hg with ⟨mg, g1, g2⟩ | ⟨mg, mb, g1, g2, g3, g4⟩
  · exact Calls.loadGlobal_global (by rw [W.globals]; exact g1.keeps S.ext) g2 h
  · exact Calls.loadGlobal_builtin (by rw [W.globals]; exact g1.keeps S.ext) g2 (by rw [W.builtins]; exact g3.keeps S.ext) g4 h

theorem noStar (env : Env) (pos : Pos) : ∀ {es : List Expr}, (∀ e ∈ es, kindOK e = true) → (backTo pos (starEach es env)).any (·.1) = false ∧ (backTo pos (starEach es env)).all (fun x => !x.1) = true
  | [], _ => ⟨rfl, rfl⟩
  | e :: r, h => by
    rw [starEach_of (h e List.mem_cons_self)]
    exact noStar env pos fun e he => h e (List.mem_cons_of_mem _ he)
theorem compare2 {M : Model} {env : Env} {l m r : Expr} {o1 o2 : CmpOp} {pos : Pos} {Q : Value → Shared → Prop} (hm : behindInMarks o2 r = false)
    (h : wpAny M A (eval l env) (fun a s₁ => wpAny M A (eval m env) (fun b s₂ => wpAny M A (compareOp o1 a b) (fun c s₃ => wpAny M A (truthy c) (fun t s₄ =>
      if t then wpAny M A (eval r env) (fun d s₅ => wpAny M A (compareOp o2 b d) Q E s₅) E s₄ else Q c s₄) E s₃) E s₂) E s₁) E s) :
    wpAny M A (eval (.Compare l [o1, o2] [m, r] pos) env) Q E s := by
  show wpAny M A (do compareChain pos (← eval l env) [o1, o2] (markedEach [o1, o2] [m, r] [eval m env, eval r env])) Q E s
  rw [markedEach_of_false _ _ _ (show lastMarks [o1, o2] [m, r] = false from hm)]
  refine wpAny_bind (wpAny_mono h (fun a s₁ h₁ => ?_) fun _ _ e => e)
  unfold compareChain
  refine wpAny_bind (wpAny_holding (wpAny_mono h₁ (fun b s₂ h₂ => ?_) fun _ _ e => e))
  refine wpAny_bind (wpAny_standAt (wpAny_bind (wpAny_holding (wpAny_mono h₂ (fun c s₃ h₃ => ?_) fun _ _ e => e))))
  refine wpAny_bind (wpAny_release (wpAny_bind (wpAny_holding (wpAny_mono h₃ (fun t s₄ h₄ => ?_) fun _ _ e => e))))
  cases t with
  | true =>
    simp only [if_true] at h₄ ⊢
    unfold compareChain
    refine wpAny_bind (wpAny_holding (wpAny_mono h₄ (fun d s₅ h₅ => wpAny_bind (wpAny_standAt ?_)) fun _ _ e => e))
    intro Γ p hΓ
    rw [Sem.wp_operate]; exact h₅ Γ p hΓ
  | false => exact wpAny_pure h₄

theorem testChain2 {M : Model} {env : Env} {l m r : Expr} {o1 o2 : CmpOp} {pos : Pos} {whole : Sem Value} {Q : Bool → Shared → Prop} (hm : behindInMarks o2 r = false)
    (h : wpAny M A (eval l env) (fun a s₁ => wpAny M A (eval m env) (fun b s₂ => wpAny M A (compareOp o1 a b) (fun c s₃ => wpAny M A (truthy c) (fun t s₄ =>
      if t then wpAny M A (eval r env) (fun d s₅ => wpAny M A (compareOp o2 b d) (fun f s₆ => wpAny M A (truthy f) Q E s₆) E s₅) E s₄ else Q false s₄) E s₃) E s₂) E s₁) E s) :
    wpAny M A (isTrue (.Compare l [o1, o2] [m, r] pos) env whole) Q E s := by
  refine isTrue_chain (wpAny_mono h (fun a s₁ h₁ => ?_) fun _ _ e => e) hm
  unfold testChain
  refine wpAny_bind (wpAny_holding (wpAny_mono h₁ (fun b s₂ h₂ => ?_) fun _ _ e => e))
  refine wpAny_bind (wpAny_standAt (wpAny_bind (wpAny_holding (wpAny_mono h₂ (fun c s₃ h₃ => ?_) fun _ _ e => e))))
  refine wpAny_bind (wpAny_release (wpAny_bind (wpAny_holding (wpAny_mono h₃ (fun t s₄ h₄ => ?_) fun _ _ e => e))))
  cases t with
  | true =>
    simp only [if_true] at h₄ ⊢
    show wpAny M A (testChain pos b [o2] [eval r env]) Q E s₄
    unfold testChain
    refine wpAny_bind (wpAny_holding (wpAny_mono h₄ (fun d s₅ h₅ => wpAny_bind (wpAny_standAt (wpAny_bind ?_))) fun _ _ e => e))
    intro Γ p hΓ
    rw [Sem.wp_operate]
    exact Sem.wp_mono _ Γ _ (fun f p' s₆ h₆ => wpAny_holding h₆) (fun _ _ _ e => e) _ _ (h₅ Γ p hΓ)
  | false => exact wpAny_pure h₄
theorem listAt_inv {o : V} {H : HP} (h : listAt o H) : ∃ a vs, o = .ref a ∧ H a = some (.list vs) := by
  obtain ⟨a, e, h⟩ := onR_inv h
  obtain ⟨vs, e2, _⟩ := onHL_inv h
  exact ⟨a, vs, e, e2⟩
theorem erase_last (xs : Array Value) : (xs.eraseIdxIfInBounds (xs.size - 1)).toList = xs.toList.dropLast := by
  rw [Array.toList_eraseIdxIfInBounds]
  rw [List.dropLast_eq_take, List.eraseIdx_eq_take_drop_succ]
  simp
  first | lia | omega
theorem pop_ok {H : HP} {s : Shared} (S : HS cx H s) {x : Bool} {a : Addr} {pos : Pos} {Q : V → HP → Prop} (h : popP x (.ref a) H Q) :
    wpAny (model cx.prog cx.w) A (callWith pos (.builtin (if x then "list.clear" else "list.pop")) [.ref a] [] []) (EP cx s H Q) E s := by
  obtain ⟨vs, hvs, h⟩ := onHL_inv h
  obtain ⟨items, k, e, mm⟩ := S.hr _ _ hvs
  cases x with
  | false =>
    obtain ⟨v, hv, h1, h2⟩ := onO_inv h
    have hlast : vs[vs.length - 1]? = some v := by rw [← List.getLast?_eq_getElem?]; exact hv
    obtain ⟨y, hy, hya⟩ := item_of mm hlast
    rw [← size_of mm] at hy
    refine P.pop_list e hy ?_ (by rw [size_of mm, sizeLine_eq]; exact h1)
    have e' := IsL.update e (fun xs => xs.eraseIdxIfInBounds (items.size - 1))
    have sb : ∀ b ob, b ≠ a → s.heap.get? b = some ob → (s.heap.update a (Obj.mapSeq fun xs => xs.eraseIdxIfInBounds (items.size - 1))).get? b = some ob := fun b ob hb q => (Heap.get?_update_other _ _ (Ne.symm hb)).trans q
    exact ⟨_, S.change hvs sb (rep_list e' (by rw [erase_last, List.map_dropLast, mm])) s.toks, KE.change hvs sb s.toks, by rw [hya]; exact h2⟩
  | true =>
    refine P.clear_list e ?_ (by rw [size_of mm, sizeLine_eq]; exact h.1)
    have e' := IsL.update e (fun _ => #[])
    have sb : ∀ b ob, b ≠ a → s.heap.get? b = some ob → (s.heap.update a (Obj.mapSeq fun _ => #[])).get? b = some ob := fun b ob hb q => (Heap.get?_update_other _ _ (Ne.symm hb)).trans q
    exact ⟨_, S.change hvs sb (rep_list e' rfl) s.toks, KE.change hvs sb s.toks, h.2⟩
theorem app_ok (C : cx.OK) {H : HP} {s : Shared} {y : Bool} {a : Addr} {pos : Pos} {x : Sem Value} {Q : V → HP → Prop}
    (h : wpAny (model cx.prog cx.w) A x (EP cx s H fun v H => appP cx y (.ref a) v H Q) E s) :
    wpAny (model cx.prog cx.w) A (callWith pos (.builtin (if y then "list.extend" else "list.append")) [.ref a] [(false, x)] []) (EP cx s H Q) E s := by
  cases y with
  | false =>
    refine P.append_list (ep_then h fun v s₁ H₁ S k₁ h => ?_)
    obtain ⟨vs, hvs, h⟩ := onHL_inv h
    obtain ⟨items, k, e, mm⟩ := S.hr _ _ hvs
    refine ⟨items, k, by rw [size_of mm, sizeLine_eq]; exact h.1, e, ?_⟩
    have e' := IsL.update e (fun xs => xs.push v)
    have sb : ∀ b ob, b ≠ a → s₁.heap.get? b = some ob → (s₁.heap.update a (Obj.mapSeq fun xs => xs.push v)).get? b = some ob := fun b ob hb q => (Heap.get?_update_other _ _ (Ne.symm hb)).trans q
    exact ⟨_, S.change hvs sb (rep_list e' (by rw [Array.toList_push, List.map_append, mm]; rfl)) s₁.toks, k₁.trans (KE.change hvs sb s₁.toks), h.2⟩
  | true =>
    refine P.extend_list (ep_then h fun v s₁ H₁ S k₁ h => ?_)
    obtain ⟨vs, hvs, h⟩ := onHL_inv h
    obtain ⟨b, hb, h⟩ := onR_inv h
    have := abs_ref hb; subst this
    obtain ⟨ws, hws, h⟩ := onHL_inv h
    obtain ⟨items, k, e, mm⟩ := S.hr _ _ hvs
    obtain ⟨items2, k2, e2, m2⟩ := lk_rep C S hws
    have hsz : items.size + items2.size ≤ sizeLine := by rw [size_of mm, size_of m2, sizeLine_eq]; exact h.1
    refine ⟨b, items, items2, k, k2, by first | lia | omega, by first | lia | omega, extend_door hsz, rfl, e, e2, ?_⟩
    have e' := IsL.update e (fun xs => xs ++ items2)
    have sb : ∀ b ob, b ≠ a → s₁.heap.get? b = some ob → (s₁.heap.update a (Obj.mapSeq fun xs => xs ++ items2)).get? b = some ob := fun b ob hb q => (Heap.get?_update_other _ _ (Ne.symm hb)).trans q
    exact ⟨_, S.change hvs sb (rep_list e' (by rw [Array.toList_append, List.map_append, mm, m2])) s₁.toks, k₁.trans (KE.change hvs sb s₁.toks), h.2⟩
theorem app_slot (y : Bool) : Slot "list" (appN y) (if y then "list.extend" else "list.append") ∧ typeOf (.builtin (if y then "list.extend" else "list.append")) = pure (.type "method_descriptor") := by
  cases y with
  | false => exact ⟨PySem.F.slot_list_append, PySem.F.type_list_append⟩
  | true => exact ⟨PySem.F.slot_list_extend, PySem.F.type_list_extend⟩
theorem pop_slot (y : Bool) : Slot "list" (popN y) (if y then "list.clear" else "list.pop") ∧ typeOf (.builtin (if y then "list.clear" else "list.pop")) = pure (.type "method_descriptor") := by
  cases y with
  | false => exact ⟨PySem.F.slot_list_pop, PySem.F.type_list_pop⟩
  | true => exact ⟨PySem.F.slot_list_clear, PySem.F.type_list_clear⟩
theorem truth_ok {M : Model} {H : HP} {s : Shared} {Q : Bool → HP → Prop} {v : Value} {s' : Shared} (x : EP cx s H (fun v H => onB v fun b => Q b H) v s') : wpAny M A (truthy v) (BP cx s H Q) E s' := by
  obtain ⟨H₁, S₁, k₁, h₁⟩ := x
  obtain ⟨b, rfl, h₁⟩ := truth_inv h₁
  exact wpAny_truthy_bool ⟨H₁, S₁, k₁, h₁⟩
end
end Mine
end

section
namespace Mine
open PySem PyProof.Rows PySem.SeqAt

noncomputable def JE (cx : Cx) (A : Around) (n : Nat) (m : ME) (fm : Fm) (e : Expr) : Prop :=
  ∀ (E : Value → Shared → Prop) (H : HP) (μ : List V) (s : Shared) (Q : V → HP → Prop), SR cx fm H μ s → mwpE cx n m μ H Q → wpAny (model cx.prog cx.w) A (eval e fm.env) (EP cx s H Q) E s
noncomputable def JT (cx : Cx) (A : Around) (n : Nat) (m : ME) (fm : Fm) (e : Expr) : Prop :=
  ∀ (E : Value → Shared → Prop) (H : HP) (μ : List V) (s : Shared) (Q : Bool → HP → Prop), SR cx fm H μ s → mwpE cx n m μ H (fun v H => onB v fun b => Q b H) → wpAny (model cx.prog cx.w) A (isTrue e fm.env (eval e fm.env)) (BP cx s H Q) E s
noncomputable def JL (cx : Cx) (A : Around) (n : Nat) (ms : MEs) (fm : Fm) (es : List Expr) : Prop :=
  ∀ (E : Value → Shared → Prop) (pos : Pos) (H : HP) (μ : List V) (s : Shared) (Q : List V → HP → Prop), SR cx fm H μ s → mwpEs cx n ms μ H Q → wpAny (model cx.prog cx.w) A (spliced (backTo pos (starEach es fm.env))) (LP cx s H Q) E s
noncomputable def JB (cx : Cx) (A : Around) (n : Nat) (op : BoolOp) (ms : MEs) (fm : Fm) (es : List Expr) : Prop :=
  ∀ (E : Value → Shared → Prop) (pos : Pos) (H : HP) (μ : List V) (s : Shared) (Q : V → HP → Prop), SR cx fm H μ s → mwpB cx n op ms μ H Q → wpAny (model cx.prog cx.w) A (boolOp pos op (evalEach es fm.env)) (EP cx s H Q) E s
noncomputable def JU (cx : Cx) (A : Around) (n : Nat) (op : BoolOp) (ms : MEs) (fm : Fm) (es : List Expr) : Prop :=
  ∀ (E : Value → Shared → Prop) (H : HP) (μ : List V) (s : Shared) (Q : Bool → HP → Prop), SR cx fm H μ s → mwpB cx n op ms μ H (fun v H => onB v fun b => Q b H) → wpAny (model cx.prog cx.w) A (allTrue op es fm.env) (BP cx s H Q) E s

section
variable {cx : Cx} {T : Tbl} {A : Around} {n : Nat} {fm : Fm} {E : Value → Shared → Prop} {H : HP} {μ : List V} {s : Shared} {Q : V → HP → Prop}

theorem j_int {i : Int} {c : Const} {k : Nat} {p : Pos} (h : cI c i = true) : JE cx A n (.cint i) fm (.Constant c k p) := by
  intro E H μ s Q S hq
  cases c with
  | int j => have := eq_of_beq (show (i == j) = true from h); subst this; exact wpAny_Constant_int (ep_same S.toHS _ hq)
  | _ => exact (Bool.false_ne_true h).elim
theorem j_none {c : Const} {k : Nat} {p : Pos} (h : cN c = true) : JE cx A n .cnone fm (.Constant c k p) := by
  intro E H μ s Q S hq
  cases c with
  | none => exact wpAny_Constant_none (ep_here S.toHS hq)
  | _ => exact (Bool.false_ne_true h).elim
theorem j_bool {b : Bool} {c : Const} {k : Nat} {p : Pos} (h : cB c b = true) : JE cx A n (.cbool b) fm (.Constant c k p) := by
  intro E H μ s Q S hq
  cases c with
  | bool j => have := eq_of_beq (show (b == j) = true from h); subst this; exact wpAny_Constant_bool (ep_here S.toHS hq)
  | _ => exact (Bool.false_ne_true h).elim
theorem j_str {x : Str} {c : Const} {k : Nat} {p : Pos} (h : cS c x = true) : JE cx A n (.cstr x) fm (.Constant c k p) := by
  intro E H μ s Q S hq
  cases c with
  | str j => have := eq_of_beq (show (x == j) = true from h); subst this; exact wpAny_Constant_str (ep_same S.toHS _ hq)
  | _ => exact (Bool.false_ne_true h).elim
theorem j_loc (W : fm.OK cx A) {i : Nat} {x : Str} {p : Pos} (hd : (!(x == ("__debug__" : Str))) = true) (hi : fm.names[i]? = some (some x)) : JE cx A n (.loc i) fm (.Name x p) := by
  intro E H μ s Q S h
  obtain ⟨h1, h2⟩ := onL_inv h
  exact wpAny_Name (load_loc W S hi h1 fun v hv => ep_here S.toHS (by rw [hv]; exact h2)) (by simpa using hd)
theorem j_bin (C : cx.OK) (hA : AOK0 A n) {l r : ME} {a b : Expr} {op : Operator} {p : Pos} (il : JE cx A n l fm a) (ir : JE cx A n r fm b) : JE cx A n (.bin op l r) fm (.BinOp a op b p) := by
  intro E H μ s Q S h
  refine wpAny_BinOp (ep_then (il E H μ s _ S h) fun v s₁ H₁ S₁ k₁ h₁ => ep_then (ir E H₁ μ s₁ _ (S.step S₁ k₁) h₁) fun w s₂ H₂ S₂ k₂ h₂ => ?_)
  exact ep_from (k₁.trans k₂) (bin_ok C hA S₂ h₂)
theorem j_not {m : ME} {a : Expr} {p : Pos} (i : JE cx A n m fm a) : JE cx A n (.not m) fm (.UnaryOp .Not a p) := by
  intro E H μ s Q S h
  refine wpAny_UnaryOp (ep_then (i E H μ s _ S h) fun v s₁ H₁ S₁ k₁ h₁ => ?_)
  obtain ⟨b, rfl, h₁⟩ := truth_inv h₁
  exact PyProof.Rows.not_of (wpAny_truthy_bool ⟨H₁, S₁, k₁, h₁⟩)
theorem t_not {m : ME} {a : Expr} {p : Pos} (i : JT cx A n m fm a) : JT cx A n (.not m) fm (.UnaryOp .Not a p) := fun E H μ s Q S h =>
  wpAny_isTrue_Not (i E H μ s (fun b H => Q (!b) H) S h)
theorem j_cmp (C : cx.OK) (hA : AOK0 A n) {l r : ME} {a b : Expr} {op : CmpOp} {p : Pos} (kb : kindOK b = true) (il : JE cx A n l fm a) (ir : JE cx A n r fm b) : JE cx A n (.cmp l op r) fm (.Compare a [op] [b] p) := by
  intro E H μ s Q S h
  refine wpAny_Compare1 (ep_then (il E H μ s _ S h) fun v s₁ H₁ S₁ k₁ h₁ => ep_then (ir E H₁ μ s₁ _ (S.step S₁ k₁) h₁) fun w s₂ H₂ S₂ k₂ h₂ => ?_) (marks_of kb _)
  obtain ⟨c, hc, h₂⟩ := onO_inv h₂
  exact ep_from (k₁.trans k₂) (cmp_ok C hA.toACall0 S₂ hc h₂)
theorem t_cmp (C : cx.OK) (hA : AOK0 A n) {l r : ME} {a b : Expr} {op : CmpOp} {p : Pos} (kb : kindOK b = true) (il : JE cx A n l fm a) (ir : JE cx A n r fm b) : JT cx A n (.cmp l op r) fm (.Compare a [op] [b] p) := by
  intro E H μ s Q S h
  refine wpAny_isTrue_Compare1 (ep_then (il E H μ s _ S h) fun v s₁ H₁ S₁ k₁ h₁ => ep_then (ir E H₁ μ s₁ _ (S.step S₁ k₁) h₁) fun w s₂ H₂ S₂ k₂ h₂ => ?_) (marks_of kb _)
  obtain ⟨c, hc, h₂⟩ := onO_inv h₂
  refine ep_then (cmp_ok (Q := fun v H => onB v fun b => Q b H) C hA.toACall0 S₂ hc h₂) fun t s₃ H₃ S₃ k₃ h₃ => truth_ok ⟨H₃, S₃, k₁.trans (k₂.trans k₃), h₃⟩
theorem t_value {m : ME} {e : Expr} (i : JE cx A n m fm e) (he : ∀ env whole, isTrue e env whole = (do let v ← whole; standAt e.pos; holding [v] (truthy v))) : JT cx A n m fm e := fun E H μ s Q S h =>
  wpAny_isTrue_value (wpAny_mono (i E H μ s _ S h) (fun _ _ x => truth_ok x) fun _ _ e => e) (he _ _)

theorem jl_nil : JL cx A n .nil fm [] := fun E pos H μ s Q S h => Calls.spliced_nil ⟨H, S.toHS, Kept.refl _ s H, h⟩
theorem jl_cons {m : ME} {ms : MEs} {e : Expr} {r : List Expr} (ke : kindOK e = true) (i : JE cx A n m fm e) (ir : JL cx A n ms fm r) : JL cx A n (.cons m ms) fm (e :: r) := by
  intro E pos H μ s Q S h
  rw [starEach_of ke]
  refine Calls.spliced_cons (ep_then (i E H μ s _ S h) fun v s₁ H₁ S₁ k₁ h₁ => wpAny_mono (ir E pos H₁ μ s₁ _ (S.step S₁ k₁) h₁) (fun vs s₂ x => ?_) fun _ _ e => e)
  obtain ⟨H₂, S₂, k₂, h₂⟩ := x
  exact ⟨H₂, S₂, k₁.trans k₂, h₂⟩
theorem j_list (C : cx.OK) {ms : MEs} {es : List Expr} {p : Pos} (i : JL cx A n ms fm es) : JE cx A n (.list ms) fm (.List es p) := by
  intro E H μ s Q S h
  refine List_ (wpAny_mono (i E p H μ s _ S h) (fun vs s₁ x => ?_) fun _ _ e => e)
  obtain ⟨H₁, S₁, k₁, hlen, h₁⟩ := x
  exact ep_from k₁ (wpAny_newList (ep_push C S₁ h₁ (fun h e => rep_list e (by simp)) rfl _) (by rw [sizeLine_eq]; simpa using hlen))
theorem j_tup (C : cx.OK) {ms : MEs} {es : List Expr} {k : Nat} {p : Pos} (i : JL cx A n ms fm es) : JE cx A n (.tup ms) fm (.Tuple es k p) := by
  intro E H μ s Q S h
  refine Tuple_ (wpAny_mono (i E p H μ s _ S h) (fun vs s₁ x => ?_) fun _ _ e => e)
  obtain ⟨H₁, S₁, k₁, hlen, h₁⟩ := x
  exact ep_from k₁ (wpAny_newTuple (ep_push C S₁ h₁ (fun h e => rep_tup e (by simp)) rfl _) (by rw [sizeLine_eq]; simpa using hlen))

theorem jb_one {op : BoolOp} {m : ME} {e : Expr} (i : JE cx A n m fm e) : JB cx A n op (.cons m .nil) fm [e] := fun E pos H μ s Q S h => i E H μ s Q S h
theorem jb_more {op : BoolOp} {m m' : ME} {ms : MEs} {e e' : Expr} {r : List Expr} (i : JE cx A n m fm e) (ir : JB cx A n op (.cons m' ms) fm (e' :: r)) : JB cx A n op (.cons m (.cons m' ms)) fm (e :: e' :: r) := by
  intro E pos H μ s Q S h
  show wpAny _ A (do
    let v ← eval e fm.env
    standAt pos
    let t ← holding [v] (truthy v)
    match op, t with
    | .And, false | .Or, true => pure v
    | _, _ => boolOp pos op (evalEach (e' :: r) fm.env)) _ E s
  refine wpAny_bind (ep_then (i E H μ s _ S h) fun v s₁ H₁ S₁ k₁ h₁ => ?_)
  obtain ⟨b, rfl, h₁⟩ := truth_inv h₁
  refine wpAny_bind (wpAny_standAt (wpAny_bind (wpAny_holding (wpAny_truthy_bool ?_))))
  have rec' := fun h' => ep_from (E := E) k₁ (ir E pos H₁ μ s₁ Q (S.step S₁ k₁) h')
  cases op <;> cases b
  · exact wpAny_pure ⟨H₁, S₁, k₁, h₁⟩
  · exact rec' h₁
  · exact rec' h₁
  · exact wpAny_pure ⟨H₁, S₁, k₁, h₁⟩
theorem ju_one {op : BoolOp} {m : ME} {e : Expr} (i : JT cx A n m fm e) : JU cx A n op (.cons m .nil) fm [e] := by
  intro E H μ s Q S h
  have hx := i E H μ s Q S h
  cases op with
  | And =>
    refine wpAny_allTrue_And_cons (wpAny_mono hx (fun b s₁ x => ?_) fun _ _ e => e)
    cases b
    · exact x
    · exact wpAny_pure x
  | Or =>
    refine wpAny_allTrue_Or_cons (wpAny_mono hx (fun b s₁ x => ?_) fun _ _ e => e)
    cases b
    · exact wpAny_pure x
    · exact x
theorem ju_more {op : BoolOp} {m m' : ME} {ms : MEs} {e e' : Expr} {r : List Expr} (i : JT cx A n m fm e) (ir : JU cx A n op (.cons m' ms) fm (e' :: r)) : JU cx A n op (.cons m (.cons m' ms)) fm (e :: e' :: r) := by
  intro E H μ s Q S h
  have rec' := fun {s₁ H₁} (S₁ : HS cx H₁ s₁) (k₁ : KE s H s₁ H₁) h' => bp_from (E := E) k₁ (ir E H₁ μ s₁ Q (S.step S₁ k₁) h')
  cases op with
  | And =>
    refine wpAny_allTrue_And_cons (wpAny_mono (i E H μ s (fun b H => ifB b (mwpB cx n .And (.cons m' ms) μ H (fun v H => onB v fun b => Q b H)) (Q false H)) S h) (fun b s₁ x => ?_) fun _ _ e => e)
    obtain ⟨H₁, S₁, k₁, h₁⟩ := x
    cases b
    · exact ⟨H₁, S₁, k₁, h₁⟩
    · exact rec' S₁ k₁ h₁
  | Or =>
    refine wpAny_allTrue_Or_cons (wpAny_mono (i E H μ s (fun b H => ifB b (Q true H) (mwpB cx n .Or (.cons m' ms) μ H (fun v H => onB v fun b => Q b H))) S h) (fun b s₁ x => ?_) fun _ _ e => e)
    obtain ⟨H₁, S₁, k₁, h₁⟩ := x
    cases b
    · exact rec' S₁ k₁ h₁
    · exact ⟨H₁, S₁, k₁, h₁⟩

theorem callBF (C : cx.OK) (hA : AOK0 A n) {b : BF} (hh : b.quiet = false → A.handled = none) {t : Sem Value} {ts : List (Bool × Sem Value)} {pos : Pos} (hns : ((false, t) :: ts).any (·.1) = false)
    (h : wpAny (model cx.prog cx.w) A (spliced ((false, t) :: ts)) (LP cx s H fun vs H => callbP cx b vs H Q) E s) :
    wpAny (model cx.prog cx.w) A (callWith pos b.val [] ((false, t) :: ts) []) (EP cx s H Q) E s := by
  have fin : ∀ v, b.val = v → wpAny (model cx.prog cx.w) A (evalArgs v true ((false, t) :: ts) []) (fun a s₁ => wpAny (model cx.prog cx.w) A (call v ([] ++ a.pos) a.kw) (EP cx s H Q) E s₁) E s := by
    intro v hv
    subst hv
    refine Calls.evalArgs_plain (wpAny_mono h (fun vs s₁ x => ?_) fun _ _ e => e)
    obtain ⟨H₁, S₁, k₁, h₁⟩ := x
    exact ep_from (E := E) k₁ (callb_ok (A := A) C hA S₁ hh h₁)
  cases b with
  | len => exact Calls.callWith_builtin (id := "len") hns (fin _ rfl)
  | list => exact PySem.callWith_type (T := "list") hns (fin _ rfl)
  | min => exact Calls.callWith_builtin (id := "min") hns (fin _ rfl)
  | sum => exact Calls.callWith_builtin (id := "sum") hns (fin _ rfl)
theorem callf_any {q : Bool} (C : cx.OK) (TO : T.OK cx) (hA : AOK0 A n) (hh : q = false → A.handled = none) (W : fm.OK cx A) {f : Addr} {ms : MEs} {x : Str} {np p : Pos} {e : Expr} {r : List Expr} (hx : isGlob fm.env.scope x = true) (hf : T.fns.lookup x = some f) (ke : kindOK e = true)
    (i : JL cx A n ms fm (e :: r)) (S : SR cx fm H μ s) (h : mwpEs cx n ms μ H fun vs H => CallY q cx n f vs H Q) (hE : XE cx E s H Q) : wpAny (model cx.prog cx.w) A (eval (.Call (.Name x np) (e :: r) [] p) fm.env) (EP cx s H Q) E s := by
  obtain ⟨hg, o, fd, ho, hd⟩ := TO.fn x f hf
  refine wpAny_Call_ofName (glob_name C W S.toHS hx hg ?_)
  refine callWith_def hd (wpAny_mono (i E p H μ s _ S h) (fun vs s₁ x => ?_) fun _ _ e => e) (starEach_of ke _ _)
  obtain ⟨H₁, S₁, k₁, h₁⟩ := x
  exact ⟨S₁.ext _ _ ho, ep_from k₁ (call_ok hA.toACall0 hh S₁ ((S.step S₁ k₁).frs W) h₁ (hE.from k₁))⟩
theorem j_callf (C : cx.OK) (TO : T.OK cx) (hA : AOK A n) (W : fm.OK cx A) {f : Addr} {ms : MEs} {x : Str} {np p : Pos} {e : Expr} {r : List Expr} (hx : isGlob fm.env.scope x = true) (hf : T.fns.lookup x = some f) (ke : kindOK e = true)
    (i : JL cx A n ms fm (e :: r)) : JE cx A n (.callf f ms) fm (.Call (.Name x np) (e :: r) [] p) := fun E H μ s Q S h =>
  wpAny_mono (callf_any C TO hA.toAOK0 (fun _ => hA.handled) W hx hf ke i S h XE.nx) (fun _ _ x => x.nx) fun _ _ e => e
theorem j_callb (C : cx.OK) (TO : T.OK cx) (hA : AOK0 A n) (W : fm.OK cx A) {b : BF} (hh : b.quiet = false → A.handled = none) {ms : MEs} {x : Str} {np p : Pos} {e : Expr} {r : List Expr} (hx : isGlob fm.env.scope x = true) (hf : T.bfs.lookup x = some b) (ke : ∀ a ∈ e :: r, kindOK a = true)
    (i : JL cx A n ms fm (e :: r)) : JE cx A n (.callb b ms) fm (.Call (.Name x np) (e :: r) [] p) := by
  intro E H μ s Q S h
  have hs := i E p H μ s _ S h
  have hns := (noStar fm.env p ke).1
  refine wpAny_Call_ofName (glob_name C W S.toHS hx (TO.bf _ _ hf) ?_)
  rw [starEach_of (ke e List.mem_cons_self)] at hs hns ⊢
  exact callBF C hA hh hns hs
theorem j_isi (C : cx.OK) (TO : T.OK cx) (W : fm.OK cx A) {m : ME} {t : String} {np tp p : Pos} {e : Expr} {y : Str} (hx : isGlob fm.env.scope "isinstance" = true) (hy : isGlob fm.env.scope y = true) (hf : T.tys.lookup y = some t) (ke : kindOK e = true)
    (i : JE cx A n m fm e) : JE cx A n (.isi m t) fm (.Call (.Name "isinstance" np) [e, .Name y tp] [] p) := by
  intro E H μ s Q S h
  refine wpAny_Call_ofName (glob_name C W S.toHS hx TO.isi ?_)
  rw [starEach_of ke]
  refine Calls.callWith_builtin (by rfl) (Calls.evalArgs_plain (Calls.spliced_cons (ep_then (i E H μ s _ S h) fun v s₁ H₁ S₁ k₁ h₁ => ?_)))
  refine Calls.spliced_cons (glob_name C W S₁ hy (TO.ty _ _ hf) (Calls.spliced_nil ?_))
  obtain ⟨b, hb, h₁⟩ := onO_inv h₁
  exact ep_from k₁ (isi_ok S₁ hb h₁)
theorem j_app (C : cx.OK) {y : Bool} {o m : ME} {b e : Expr} {ap p : Pos} (hp : (ap.endLine == p.line) = true) (hb : plainBase b = true) (ke : kindOK e = true) (io : JE cx A n o fm b) (ia : JE cx A n m fm e) : JE cx A n (.app y o m) fm (.Call (.Attribute b (appN y) ap) [e] [] p) := by
  intro E H μ s Q S h
  have hns := (noStar fm.env p (es := [e]) fun a ha => by rw [List.mem_singleton.mp ha]; exact ke).2
  refine wpAny_Call_method (base_of hb _ _ _) (by rw [hns, show keywordEach [] fm.env = [] from rfl]; simp [backToKw]) hp PySem.F.plainAttrs_list (app_slot y).1 (app_slot y).2 (ep_then (io E H μ s _ S h) fun ov s₁ H₁ S₁ k₁ h₁ => ?_)
  obtain ⟨hl', h₁⟩ := h₁
  obtain ⟨ad, vs, e1, e2⟩ := listAt_inv hl'
  have := abs_ref e1; subst this
  obtain ⟨items, k, e3, _⟩ := S₁.hr _ _ e2
  refine ⟨⟨_, e3, rfl⟩, fun b hb => by cases hb; exact ⟨_, e3, rfl⟩, ?_⟩
  rw [starEach_of ke]
  exact ep_from k₁ (app_ok C (ia E H₁ μ s₁ _ (S.step S₁ k₁) h₁))
theorem j_pop {y : Bool} {o : ME} {b : Expr} {ap p : Pos} (hp : (ap.endLine == p.line) = true) (hb : plainBase b = true) (io : JE cx A n o fm b) : JE cx A n (.pop y o) fm (.Call (.Attribute b (popN y) ap) [] [] p) := by
  intro E H μ s Q S h
  have hns := (noStar fm.env p (es := []) fun a ha => nomatch ha).2
  refine wpAny_Call_method (base_of hb _ _ _) (by rw [hns, show keywordEach [] fm.env = [] from rfl]; simp [backToKw]) hp PySem.F.plainAttrs_list (pop_slot y).1 (pop_slot y).2 (ep_then (io E H μ s _ S h) fun ov s₁ H₁ S₁ k₁ h₁ => ?_)
  obtain ⟨ad, e1, h₂⟩ := onR_inv h₁
  have := abs_ref e1; subst this
  obtain ⟨vs, e2, _⟩ := onHL_inv h₂
  obtain ⟨items, k, e3, _⟩ := S₁.hr _ _ e2
  exact ⟨⟨_, e3, rfl⟩, fun b hb => by cases hb; exact ⟨_, e3, rfl⟩, ep_from k₁ (pop_ok S₁ h₁)⟩
theorem j_dsub {o i : ME} {a b : Expr} {p : Pos} (kb : kindOK b = true) (io : JE cx A n o fm a) (ii : JE cx A n i fm b) : JE cx A n (.dsub o i) fm (.Subscript a b p) := by
  intro E H μ s Q S h
  refine Subscript_ (ep_then (io E H μ s _ S h) fun v s₁ H₁ S₁ k₁ h₁ => ep_then (ii E H₁ μ s₁ _ (S.step S₁ k₁) h₁) fun w s₂ H₂ S₂ k₂ h₂ => ?_)
  exact ep_from (k₁.trans k₂) (dsub_ok S₂ (notSlice_of kb) h₂)
theorem j_dnil (C : cx.OK) {p : Pos} : JE cx A n .dnil fm (.Dict [] [] p) := by
  intro E H μ s Q S h
  exact wpAny_Dict_empty (ep_push C S.toHS h (fun h e => ⟨cx.prog, cx.w, [], ⟨_, #[], _, e, ⟨rfl, rfl, rfl⟩, rfl, fun _ q => (by simp at q), .nil, .nil⟩, rfl⟩) rfl _)
theorem j_done (C : cx.OK) {k : Int} {v : ME} {c : Const} {ck : Nat} {cp p : Pos} {e : Expr} (hc : cI c k = true) (iv : JE cx A n v fm e) : JE cx A n (.done k v) fm (.Dict [some (.Constant c ck cp)] [e] p) := by
  intro E H μ s Q S h
  have kg : ∀ b o, s.heap.get? b = some o → (s.heap.push { cls := .type "dict", data := .dict #[] }).get? b = some o := fun b o q => Heap.get?_push_of_some _ q
  have S1 : HS cx (upd H s.heap.objs.size (.dct [])) { s with heap := s.heap.push { cls := .type "dict", data := .dict #[] } } := S.toHS.alloc (o := .dct []) kg (get_size _) ⟨cx.prog, cx.w, [], Heap.DictOf.new _, rfl⟩ s.toks
  have k1 : KE s H { s with heap := s.heap.push { cls := .type "dict", data := .dict #[] } } (upd H s.heap.objs.size (.dct [])) := KE.alloc kg (get_size _) s.toks
  refine wpAny_Dict_pairs (knd := intKind cx.prog cx.w) (pairs := [(eval (.Constant c ck cp) fm.env, do let x ← eval e fm.env; standAt p; pure x)]) rfl (by simp) (by simp) ?_
  refine evalPairs_cons (ep_then (j_int (n := n) hc E _ μ _ (fun w H' => w = .int k ∧ H' = upd H s.heap.objs.size (.dct [])) (S.step S1 k1) ⟨rfl, rfl⟩) fun kv s₂ H₂ S₂ k₂ h₂ => ?_)
  obtain ⟨hk, rfl⟩ := h₂
  obtain ⟨t, rfl⟩ := abs_int hk
  have k12 := k1.trans k₂
  refine wpAny_bind (ep_then (iv E _ μ s₂ _ (S.step S₂ k12) (h _ (S.toHS.fresh C (get_size _)))) fun x s₃ H₃ S₃ k₃ h₃ => wpAny_bind (wpAny_standAt (wpAny_pure (evalPairs_nil ?_))))
  obtain ⟨hD, hQ⟩ := h₃
  obtain ⟨p', w', ws, d, hw⟩ := S₃.hr _ _ hD
  have : ws = [] := List.map_eq_nil_iff.mp hw
  subst this
  refine display_done_int (vs := [(.int k t, x)]) (P := fun h' => EP cx s H Q (.ref s.heap.objs.size) { s₃ with heap := h', toks := s₃.toks + [((.int k t : Value), x)].length }) rfl (by simp [intKeyPairs]) (DictOf.any d) fun h' d' sb => ?_
  exact ⟨_, S₃.change (o' := .dct [(k, abs x)]) hD (fun b ob hb q => (sb.2 b hb).trans q) ⟨_, _, _, d', rfl⟩ _, (k12.trans k₃).trans (KE.change hD (fun b ob hb q => (sb.2 b hb).trans q) _), hQ⟩
theorem j_sub (C : cx.OK) {o i : ME} {a b : Expr} {p : Pos} (kb : kindOK b = true) (io : JE cx A n o fm a) (ii : JE cx A n i fm b) : JE cx A n (.sub o i) fm (.Subscript a b p) := by
  intro E H μ s Q S h
  refine Subscript_ (ep_then (io E H μ s _ S h) fun v s₁ H₁ S₁ k₁ h₁ => ep_then (ii E H₁ μ s₁ _ (S.step S₁ k₁) h₁) fun w s₂ H₂ S₂ k₂ h₂ => ?_)
  exact ep_from (k₁.trans k₂) (sub_ok C S₂ (notSlice_of kb) h₂)
theorem part_ok {o : ME} {x : Option Expr} (i : (x = none ∧ o = .cnone) ∨ ∃ e, x = some e ∧ JE cx A n o fm e) (S : SR cx fm H μ s) (h : mwpE cx n o μ H Q) : wpAny (model cx.prog cx.w) A (evalPart x fm.env) (EP cx s H Q) E s := by
  rcases i with ⟨rfl, rfl⟩ | ⟨e, rfl, i⟩
  · exact wpAny_evalPart_none (ep_here S.toHS h)
  · exact wpAny_evalPart_some (i E H μ s _ S h)
theorem j_slice (C : cx.OK) {o lo hi : ME} {a : Expr} {x y : Option Expr} {p p' : Pos} (io : JE cx A n o fm a) (il : (x = none ∧ lo = .cnone) ∨ ∃ e, x = some e ∧ JE cx A n lo fm e) (ih : (y = none ∧ hi = .cnone) ∨ ∃ e, y = some e ∧ JE cx A n hi fm e) :
    JE cx A n (.slice o lo hi) fm (.Subscript a (.Slice x y none p') p) := by
  intro E H μ s Q S h
  refine Subscript_ (ep_then (io E H μ s _ S h) fun v s₁ H₁ S₁ k₁ h₁ => ?_)
  refine wpAny_Slice (ep_then (part_ok il (S.step S₁ k₁) h₁) fun l s₂ H₂ S₂ k₂ h₂ => ?_)
  have k12 := k₁.trans k₂
  refine ep_then (part_ok ih (S.step S₂ k12) h₂) fun u s₃ H₃ S₃ k₃ h₃ => wpAny_evalPart_none ?_
  exact wpAny_mono (slice_ok C S₃ h₃) (fun _ _ x => x.from (k12.trans k₃)) fun _ _ e => e
theorem j_neg {m : ME} {a : Expr} {p : Pos} (i : JE cx A n m fm a) : JE cx A n (.neg m) fm (.UnaryOp .USub a p) := by
  intro E H μ s Q S h
  refine wpAny_UnaryOp (ep_then (i E H μ s _ S h) fun v s₁ H₁ S₁ k₁ h₁ => ?_)
  obtain ⟨j, e, h₁⟩ := onI_inv h₁
  obtain ⟨t, rfl⟩ := abs_int e
  exact PyProof.Rows.neg_int ⟨H₁, S₁.toks _, k₁.trans (KE.toks s₁ H₁ _), h₁⟩
theorem j_gint (C : cx.OK) (TO : T.OK cx) (W : fm.OK cx A) {i : Int} {x : Str} {p : Pos} (hx : isGlob fm.env.scope x = true) (hf : T.gis.lookup x = some i) : JE cx A n (.gint i) fm (.Name x p) := by
  intro E H μ s Q S h
  obtain ⟨t, ht⟩ := TO.gi x i hf
  exact glob_name C W S.toHS hx ht (ep_here S.toHS h)
theorem chain_ok (C : cx.OK) (hA : AOK0 A n) {r : ME} {c : Expr} {o1 o2 : CmpOp} {v w : Value} {s₁ s₂ : Shared} {H₁ H₂ : HP} (S : SR cx fm H μ s) (S₂ : HS cx H₂ s₂) (k : KE s H s₂ H₂) (ir : JE cx A n r fm c)
    (h : onO (cmpP cx o1 (abs v) (abs w) H₂) fun d => ifB d (mwpE cx n r μ H₂ fun e H => onO (cmpP cx o2 (abs w) e H) fun f => Q (.bool f) H) (Q (.bool false) H₂))
    {P : Value → Shared → Prop} (fin : ∀ b s', EP cx s H Q (.bool b) s' → P (.bool b) s') :
    wpAny (model cx.prog cx.w) A (compareOp o1 v w) (fun t s₃ => ∃ d, t = .bool d ∧ if d = true then wpAny (model cx.prog cx.w) A (eval c fm.env) (fun y s₅ => wpAny (model cx.prog cx.w) A (compareOp o2 w y) P E s₅) E s₃ else P t s₃) E s₂ := by
  obtain ⟨d, hd, h⟩ := onO_inv h
  refine ep_then (cmp_ok (Q := fun u H' => u = .bool d ∧ H' = H₂) C hA.toACall0 S₂ hd ⟨rfl, rfl⟩) fun t s₃ H₃ S₃ k₃ h₃ => ?_
  obtain ⟨ht, rfl⟩ := h₃
  have := abs_bool ht; subst this
  have k' := k.trans k₃
  refine ⟨d, rfl, ?_⟩
  cases d with
  | true =>
    rw [if_pos rfl]
    refine ep_then (ir E H₃ μ s₃ _ (S.step S₃ k') h) fun y s₄ H₄ S₄ k₄ h₄ => ?_
    obtain ⟨f, hf, h₄⟩ := onO_inv h₄
    refine wpAny_mono (cmp_ok (Q := fun u H' => u = .bool f ∧ Q (.bool f) H') C hA.toACall0 S₄ hf ⟨rfl, h₄⟩) (fun u s₅ x => ?_) fun _ _ e => e
    obtain ⟨H₅, S₅, k₅, hu, h₅⟩ := x
    have := abs_bool hu; subst this
    exact fin f s₅ ⟨H₅, S₅, k'.trans (k₄.trans k₅), h₅⟩
  | false =>
    rw [if_neg (by decide)]
    exact fin false s₃ ⟨H₃, S₃, k', h⟩
theorem j_cmp2 (C : cx.OK) (hA : AOK0 A n) {l m r : ME} {a b c : Expr} {o1 o2 : CmpOp} {p : Pos} (kc : kindOK c = true) (il : JE cx A n l fm a) (im : JE cx A n m fm b) (ir : JE cx A n r fm c) : JE cx A n (.cmp2 l o1 m o2 r) fm (.Compare a [o1, o2] [b, c] p) := by
  intro E H μ s Q S h
  refine compare2 (marks_of kc _) (ep_then (il E H μ s _ S h) fun v s₁ H₁ S₁ k₁ h₁ => ep_then (im E H₁ μ s₁ _ (S.step S₁ k₁) h₁) fun w s₂ H₂ S₂ k₂ h₂ => ?_)
  refine wpAny_mono (chain_ok (s₁ := s₁) (H₁ := H₁) (P := EP cx s H Q) C hA S S₂ (k₁.trans k₂) ir h₂ fun _ _ x => x) (fun t s₃ x => ?_) fun _ _ e => e
  obtain ⟨d, rfl, x⟩ := x
  exact wpAny_truthy_bool x
theorem t_cmp2 (C : cx.OK) (hA : AOK0 A n) {l m r : ME} {a b c : Expr} {o1 o2 : CmpOp} {p : Pos} (kc : kindOK c = true) (il : JE cx A n l fm a) (im : JE cx A n m fm b) (ir : JE cx A n r fm c) : JT cx A n (.cmp2 l o1 m o2 r) fm (.Compare a [o1, o2] [b, c] p) := by
  intro E H μ s Q S h
  refine testChain2 (marks_of kc _) (ep_then (il E H μ s _ S h) fun v s₁ H₁ S₁ k₁ h₁ => ep_then (im E H₁ μ s₁ _ (S.step S₁ k₁) h₁) fun w s₂ H₂ S₂ k₂ h₂ => ?_)
  refine wpAny_mono (chain_ok (s₁ := s₁) (H₁ := H₁) (Q := fun v H => onB v fun b => Q b H) (P := fun t s' => wpAny (model cx.prog cx.w) A (truthy t) (BP cx s H Q) E s') C hA S S₂ (k₁.trans k₂) ir h₂ fun _ _ x => truth_ok x) (fun t s₃ x => ?_) fun _ _ e => e
  obtain ⟨d, rfl, x⟩ := x
  cases d with
  | true => exact wpAny_truthy_bool x
  | false => exact x
theorem ref_ne {v : V} {k : Addr → Prop} (h : onR v k) : v ≠ .unb := by
  obtain ⟨a, rfl, _⟩ := onR_inv h; exact nofun
theorem name_ok (W : fm.OK cx A) (S : SR cx fm H μ s) {i : Nat} {x : Str} {p : Pos} (hd : (!(x == ("__debug__" : Str))) = true) (hi : fm.names[i]? = some (some x)) (hu : getL μ i ≠ .unb) {P : Value → Shared → Prop} (h : ∀ v, abs v = getL μ i → P v s) :
    wpAny (model cx.prog cx.w) A (eval (.Name x p) fm.env) P E s := wpAny_Name (load_loc W S hi hu h) (by simpa using hd)
theorem j_attr (TO : T.OK cx) (W : fm.OK cx A) {C : Addr} {i : Nat} {x z : Str} {np p : Pos} (ht : T.ats.contains (C, x) = true) (hd : (!(z == ("__debug__" : Str))) = true) (hi : fm.names[i]? = some (some z)) : JE cx A n (.attr C i x) fm (.Attribute (.Name z np) x p) := by
  intro E H μ s Q S h
  refine Attribute_name (name_ok W S hd hi (ref_ne h) fun v hv => attr_ok TO.kin (TO.at_ C x ht) S.toHS ?_)
  rw [hv]; exact h
theorem callm_any (TO : T.OK cx) (W : fm.OK cx A) {C f : Addr} {i : Nat} {ms : MEs} {x z : Str} {np ap p : Pos} {as : List Expr} (hp : (ap.endLine == p.line) = true) (ht : T.mts.contains (C, x, f) = true) (hd : (!(z == ("__debug__" : Str))) = true)
    (hi : fm.names[i]? = some (some z)) (hl : as.length < 20) (hk : ∀ a ∈ as, kindOK a = true) (hc : chkEs T ms fm.env.scope fm.names as = true) (ia : JL cx A n ms fm as) (S : SR cx fm H μ s) {P : List V → HP → Prop} (h1 : instP C (getL μ i) x H) (h2 : mwpEs cx n ms μ H P) {RR : Value → Shared → Prop}
    (fin : ∀ v vs s₁ H₁, abs v = getL μ i → HS cx H₁ s₁ → KE s H s₁ H₁ → P (vs.map abs) H₁ → wpAny (model cx.prog cx.w) A (call (.ref f) ([v] ++ vs)) RR E s₁) : wpAny (model cx.prog cx.w) A (eval (.Call (.Attribute (.Name z np) x ap) as [] p) fm.env) RR E s := by
  have hM := TO.mt C x f ht
  rw [arm_eval_Call, base_of rfl]
  refine wpAny_bind (name_ok W S hd hi (ref_ne h1) fun v hv => wpAny_bind (wpAny_standAt ?_))
  have hns := noStar fm.env p hk
  have hform : methodCallForm (as.length + ([] : List Keyword).length) (backTo p (starEach as fm.env)) (backToKw p (keywordEach [] fm.env)) = true := by
    show (List.all _ _ && _ && decide (_ < 30)) = true
    rw [hns.2]
    show (true && true && decide _) = true
    rw [decide_eq_true (by show as.length + 0 + 0 < 30; first | lia | omega)]; rfl
  have hpos : methodCallPos true (.Name z np) fm.env ap p = pure p := by unfold methodCallPos; simp [hp]
  unfold methodCall
  rw [hform]
  refine wpAny_bind (wpAny_holding (meth_ok TO.kin hM S.toHS (by rw [hv]; exact h1) ?_))
  refine wpAny_bind (wpAny_of_eq hpos ?_)
  have hkeep : PySem.W.keepIn T.K (.ref f) = true := (band (band (band hM).2).2).2
  cases as with
  | nil =>
    cases ms with
    | nil => exact PySem.W.callWith_K0 (TO.kin.keeps S.ext) hkeep (fin v [] s H hv S.toHS (Kept.refl _ s H) h2)
    | cons => cases hc
  | cons e r =>
    refine PySem.W.callWith_K TO.kin hkeep (wpAny_mono (ia E p H μ s _ S h2) (fun vs s₁ x => ?_) fun _ _ e => e) (starEach_of (hk e List.mem_cons_self) _ _) (noStar fm.env p fun a ha => hk a (List.mem_cons_of_mem _ ha)).1
    obtain ⟨H₁, S₁, k₁, h₁⟩ := x
    exact ⟨TO.kin.keeps S₁.ext, fin v vs s₁ H₁ hv S₁ k₁ h₁⟩
theorem j_callm (TO : T.OK cx) (hA : AOK A n) (W : fm.OK cx A) {C f : Addr} {i : Nat} {ms : MEs} {x z : Str} {np ap p : Pos} {as : List Expr} (hp : (ap.endLine == p.line) = true) (ht : T.mts.contains (C, x, f) = true) (hd : (!(z == ("__debug__" : Str))) = true)
    (hi : fm.names[i]? = some (some z)) (hl : as.length < 20) (hk : ∀ a ∈ as, kindOK a = true) (hc : chkEs T ms fm.env.scope fm.names as = true) (ia : JL cx A n ms fm as) : JE cx A n (.callm C x f i ms) fm (.Call (.Attribute (.Name z np) x ap) as [] p) := by
  intro E H μ s Q S h
  exact callm_any TO W hp ht hd hi hl hk hc ia S h.1 h.2 fun v vs s₁ H₁ hv S₁ k₁ h₁ => ep_from k₁ (wpAny_mono (call_ok hA.toACall0 (fun _ => hA.handled) S₁ ((S.step S₁ k₁).frs W) (by show CallP cx n f (abs v :: vs.map abs) H₁ Q; rw [hv]; exact h₁) XE.nx) (fun _ _ x => x.nx) fun _ _ e => e)
theorem mk_any (CO : cx.OK) (TO : T.OK cx) (hA : AOK A n) (W : fm.OK cx A) {C f : Addr} {ms : MEs} {x : Str} {np p : Pos} {e : Expr} {r : List Expr} (hx : isGlob fm.env.scope x = true) (ht : T.mks.contains (x, C, f) = true) (hk : ∀ a ∈ e :: r, kindOK a = true)
    (ia : JL cx A n ms fm (e :: r)) (S : SR cx fm H μ s) (h : mwpEs cx n ms μ H fun vs H => mkX cx n C f vs H Q) (hE : XE cx E s H Q) : wpAny (model cx.prog cx.w) A (eval (.Call (.Name x np) (e :: r) [] p) fm.env) (EP cx s H Q) E s := by
  obtain ⟨hg, hM⟩ := TO.mkc x C f ht
  have hkeep : PySem.W.keepIn T.K (.ref C) = true := (band (band (band hM).2).2).2
  refine wpAny_Call_ofName (glob_name CO W S.toHS hx hg ?_)
  refine PySem.W.callWith_K TO.kin hkeep (wpAny_mono (ia E p H μ s _ S h) (fun vs s₁ x => ?_) fun _ _ e => e) (starEach_of (hk e List.mem_cons_self) _ _) (noStar fm.env p fun a ha => hk a (List.mem_cons_of_mem _ ha)).1
  obtain ⟨H₁, S₁, k₁, h₁⟩ := x
  exact ⟨TO.kin.keeps S₁.ext, ep_from k₁ (mk_ok CO hA.toACall0 hA.handled ((S.step S₁ k₁).frs W) TO.kin hM S₁ h₁ (hE.from k₁))⟩
theorem j_mk (CO : cx.OK) (TO : T.OK cx) (hA : AOK A n) (W : fm.OK cx A) {C f : Addr} {ms : MEs} {x : Str} {np p : Pos} {e : Expr} {r : List Expr} (hx : isGlob fm.env.scope x = true) (ht : T.mks.contains (x, C, f) = true) (hk : ∀ a ∈ e :: r, kindOK a = true)
    (ia : JL cx A n ms fm (e :: r)) : JE cx A n (.mk C f ms) fm (.Call (.Name x np) (e :: r) [] p) := fun E H μ s Q S h =>
  wpAny_mono (mk_any CO TO hA W hx ht hk ia S h XE.nx) (fun _ _ x => x.nx) fun _ _ e => e
end
end Mine
end

section
namespace Mine
open PySem PyProof.Rows PySem.SeqAt

structure Iter (cx : Cx) (A : Around) (E : Value → Shared → Prop) (it : Addr) (items : List V) (st : HP → Prop) (P : Nat → Heap → Prop) : Prop where
  next : ∀ (s : Shared) (H : HP) (i : Nat) (v : V) (Q : Option Value → Shared → Prop), HS cx H s → st H → P i s.heap → items[i]? = some v →
    (∀ h' tk x, Mine.abs x = v → P (i + 1) h' → Heap.SameBut it s.heap h' → Q (some x) { s with heap := h', toks := tk }) → wpAny (model cx.prog cx.w) A (pyNext (.ref it)) Q E s
  stop : ∀ (s : Shared) (H : HP) (Q : Option Value → Shared → Prop), HS cx H s → st H → P items.length s.heap →
    (∀ h', Heap.ExtBut it s.heap h' → Q none { s with heap := h' }) → wpAny (model cx.prog cx.w) A (pyNext (.ref it)) Q E s
  self : ∀ (s : Shared) (Q : Value → Shared → Prop), P 0 s.heap → Q (.ref it) s → wpAny (model cx.prog cx.w) A (pyIter (.ref it)) Q E s
  frame : ∀ i h h', P i h → (∀ o, h.get? it = some o → h'.get? it = some o) → P i h'
  live : ∀ i h, P i h → ∃ o, h.get? it = some o
  nd : ∀ i h o, P i h → h.get? it = some o → ∀ es ep, o.data ≠ .dict es ep

section
variable {cx : Cx} {T : Tbl} {A : Around} {E : Value → Shared → Prop} {n : Nat}

theorem iter_list (C : cx.OK) (hh : A.handled = none) {H : HP} {s : Shared} (S : HS cx H s) {a : Addr} {vs : List V} (h : lk cx H a = some (.list vs)) {E' : Value → Shared → Prop} {Q : Value → Shared → Prop}
    (hQ : ∀ it P ob, s.heap.get? it = none → (∀ E, Iter cx A E it vs (fun H' => lk cx H' a = some (.list vs)) P) → P 0 (s.heap.push ob) → Q (.ref it) { s with heap := s.heap.push ob }) :
    wpAny (model cx.prog cx.w) A (pyIter (.ref a)) Q E' s := by
  obtain ⟨items, k, e, m⟩ := lk_rep C S h
  refine wpAny_pyIter_list (items := items) ⟨_, e, rfl, k, rfl⟩ ?_
  refine hQ _ (fun i h => h.IsListIter s.heap.objs.size a i) _ (get_size _) (fun E => ⟨?_, ?_, ?_, ?_, ?_, ?_⟩) ⟨_, Heap.get?_push_size _ rfl, rfl, rfl⟩
  · intro s' H' i v Q S' st hp hv hq
    obtain ⟨items', k', e', m'⟩ := lk_rep C S' st
    obtain ⟨x, hx, hxa⟩ := item_of m' hv
    exact wpAny_pyNext_list_item hp ⟨_, e', rfl, k', rfl⟩ hx fun h' hi sb => hq h' s'.toks x hxa hi sb
  · intro s' H' Q S' st hp hq
    obtain ⟨items', k', e', m'⟩ := lk_rep C S' st
    exact wpAny_pyNext_list_end hh hp ⟨_, e', rfl, k', rfl⟩ (by rw [← size_of m']; simp) hq
  · intro s' Q hp hq; exact wpAny_pyIter_listiter hp hq
  · rintro i h h' ⟨o, e, r⟩ hk; exact ⟨o, hk o e, r⟩
  · rintro i h ⟨o, e, r⟩; exact ⟨o, e⟩
  · rintro i h o ⟨o', e, r⟩ e2 es ep q
    rw [e] at e2; cases e2; rw [r.2] at q; cases q
theorem rangeL_length (x y : Int) : (rangeL x y).length = (y - x).toNat := by simp [rangeL]
theorem rangeL_get {x y : Int} {i : Nat} {v : V} (h : (intsV (rangeL x y))[i]? = some v) : v = .int (x + i) ∧ (i : Int) < y - x := by
  simp only [intsV, rangeL, List.getElem?_map, Option.map_eq_some_iff] at h
  obtain ⟨j, ⟨k, hk, rfl⟩, rfl⟩ := h
  obtain ⟨hlt, e⟩ := List.getElem?_eq_some_iff.mp hk
  simp at e hlt
  subst e
  exact ⟨rfl, by first | lia | omega⟩

theorem iter_range (hh : A.handled = none) {s : Shared} {r : Addr} {x y : Int} {t u v : Tok} (hr : IsRange s.heap r x y 1 t u v) (hx : -1152921504606846976 < x ∧ x < 1152921504606846976) (hy : -1152921504606846976 < y ∧ y < 1152921504606846976) {E' : Value → Shared → Prop} {Q : Value → Shared → Prop}
    (hQ : ∀ it P ob, s.heap.get? it = none → (∀ E, Iter cx A E it (intsV (rangeL x y)) (fun _ => True) P) → P 0 (s.heap.push ob) → Q (.ref it) { s with heap := s.heap.push ob }) :
    wpAny (model cx.prog cx.w) A (pyIter (.ref r)) Q E' s := by
  refine wpAny_pyIter_range hr ?_ ?_
  · have hs := rangeSize_one x y
    unfold Builtin.Range.small Builtin.Range.rangeFitsLong
    rw [hs]
    simp only [Bool.and_eq_true, Bool.or_eq_true, decide_eq_true_eq, beq_iff_eq, show (1 : Int) > 0 from by decide, if_true]
    split <;> (first | lia | omega)
  · refine hQ _ (fun i h => IsRangeIter h s.heap.objs.size (x + i) (Builtin.Range.rangeSize x y 1 - i) 1) _ (get_size _) (fun E => ⟨?_, ?_, ?_, ?_, ?_, ?_⟩) ?_
    · intro s' H' i v Q S' st hp hv hq
      obtain ⟨rfl, hi⟩ := rangeL_get hv
      refine wpAny_pyNext_range_item hp ?_ fun h' hi' sb => hq h' _ _ rfl ?_ sb
      · rw [rangeSize_one]; split <;> (first | lia | omega)
      · have e1 : x + (i : Int) + 1 = x + ((i + 1 : Nat) : Int) := by first | lia | omega
        have e2 : Builtin.Range.rangeSize x y 1 - (i : Int) - 1 = Builtin.Range.rangeSize x y 1 - ((i + 1 : Nat) : Int) := by first | lia | omega
        rw [e1, e2] at hi'; exact hi'
    · intro s' H' Q S' st hp hq
      refine wpAny_pyNext_range_end hh hp ?_ hq
      rw [rangeSize_one]
      simp only [intsV, List.length_map, rangeL_length]
      split <;> (first | lia | omega)
    · intro s' Q hp hq; exact wpAny_pyIter_rangeiter hp hq
    · intro i h h' hp hk; exact hk _ hp
    · intro i h hp; exact ⟨_, hp⟩
    · intro i h o hp e es ep q
      rw [show h.get? _ = _ from hp] at e; cases e; cases q
    · have := Heap.get?_push_size s.heap (o := { cls := .type "range_iterator", data := .fields #[rawInt x, rawInt (Builtin.Range.rangeSize x y 1), rawInt 1] }) rfl
      simpa using this
end
end Mine
end

section
namespace Mine
open PySem PyProof.Rows PySem.SeqAt

section
variable {cx : Cx} {T : Tbl} {A : Around} {E : Value → Shared → Prop} {n : Nat}

theorem lookup_relabelS {outer : Scope} (y : Str) : ∀ (names : List (Str × NameKind)), (names.map fun (n, k) => if (k == NameKind.free && outer.kind == .function && outer.names.lookup n == some .cell) then (n, NameKind.cell) else (n, k)).lookup y =
    (names.lookup y).map fun k => if (k == NameKind.free && outer.kind == .function && outer.names.lookup y == some .cell) then NameKind.cell else k
  | [] => rfl
  | (n, k) :: r => by
    rw [List.map_cons, List.lookup_cons]
    have ih := lookup_relabelS (outer := outer) y r
    by_cases hy : y = n
    · subst hy
      by_cases hc : (k == NameKind.free && outer.kind == .function && outer.names.lookup y == some .cell) = true
      · simp only [if_pos hc, List.lookup_cons, beq_self_eq_true, Option.map_some]
      · simp only [if_neg hc, List.lookup_cons, beq_self_eq_true, Option.map_some]
    · have hb : (y == n) = false := beq_eq_false_iff_ne.mpr hy
      by_cases hc : (k == NameKind.free && outer.kind == .function && outer.names.lookup n == some .cell) = true
      · simp only [if_pos hc, List.lookup_cons, hb]; exact ih
      · simp only [if_neg hc, List.lookup_cons, hb]; exact ih

structure ScopeOk (scope outer : Scope) (x : Str) : Prop where
  kind : scope.kind = .function
  loc : scope.names.lookup x = some .local
  okind : outer.kind = .function
  noCell : ∀ y ∈ scope.names, y.2 ≠ .cell
  locs : ∀ y ∈ scope.names, y.2 = .local → scope.names.lookup y.1 = some .local
  free : ∀ y ∈ scope.names, y.2 = .free → outer.names.lookup y.1 = some .cell
  free' : ∀ y, scope.names.lookup y = some .free → outer.names.lookup y = some .cell

theorem scopeOk_of {scope outer : Scope} {x : Str} (h : compScopeOk scope outer x = true) : ScopeOk scope outer x := by
  simp only [compScopeOk, Bool.and_eq_true, beq_iff_eq, List.all_eq_true, bne_iff_ne, Bool.or_eq_true, decide_eq_true_eq] at h
  obtain ⟨⟨⟨h1, h2⟩, h3⟩, h4⟩ := h
  refine ⟨h1, h2, h3, fun y hy => (h4 y hy).1.1, fun y hy e => ?_, fun y hy e => ?_, fun y e => ?_⟩
  · exact ((h4 y hy).1.2).resolve_left (fun q => q e)
  · exact (((h4 y hy).2).resolve_left (fun q => q e)).1
  · exact (((h4 (y, .free) (lookup_mem e)).2).resolve_left (fun q => q rfl)).1

theorem closure_of {env : Env} : ∀ (names : List (Str × NameKind)) (acc : List (Str × Addr)), (∀ y ∈ names, y.2 = .free → ∃ c, env.cells.lookup y.1 = some c) → (∀ p ∈ acc, env.cells.lookup p.1 = some p.2) →
    ∃ cl : List (Str × Addr), (forIn names acc fun (p : Str × NameKind) (cs : List (Str × Addr)) => (if p.2 == NameKind.free then (do let c ← cellOf env p.1; pure (ForInStep.yield ((p.1, c) :: cs))) else pure (ForInStep.yield cs) : Sem (ForInStep (List (Str × Addr))))) = pure cl ∧
      (∀ p ∈ cl, env.cells.lookup p.1 = some p.2) ∧ (∀ y, ((y, NameKind.free) ∈ names ∨ ∃ c, (y, c) ∈ acc) → ∃ c, (y, c) ∈ cl)
  | [], acc, _, ha => ⟨acc, rfl, ha, fun y h => h.elim (fun q => nomatch q) id⟩
  | (nm, k) :: r, acc, h, ha => by
    by_cases hk : k = .free
    · subst hk
      obtain ⟨c, hc⟩ := h (nm, .free) List.mem_cons_self rfl
      obtain ⟨cl, e, h1, h2⟩ := closure_of r ((nm, c) :: acc) (fun y hy => h y (List.mem_cons_of_mem _ hy)) (fun p hp => by
        rcases List.mem_cons.mp hp with rfl | hp
        · exact hc
        · exact ha p hp)
      refine ⟨cl, ?_, h1, fun y hy => h2 y ?_⟩
      · rw [List.forIn_cons, ← e]
        simp only [beq_self_eq_true, if_true, cellOf, hc]
        rfl
      · rcases hy with hy | ⟨d, hd⟩
        · rcases List.mem_cons.mp hy with q | hy
          · cases q; exact .inr ⟨c, List.mem_cons_self⟩
          · exact .inl hy
        · exact .inr ⟨d, List.mem_cons_of_mem _ hd⟩
    · obtain ⟨cl, e, h1, h2⟩ := closure_of r acc (fun y hy => h y (List.mem_cons_of_mem _ hy)) ha
      refine ⟨cl, ?_, h1, fun y hy => h2 y ?_⟩
      · rw [List.forIn_cons, ← e]
        have : (k == NameKind.free) = false := beq_eq_false_iff_ne.mpr hk
        simp only [this, Bool.false_eq_true, if_false]
        rfl
      · rcases hy with hy | hd
        · rcases List.mem_cons.mp hy with q | hy
          · cases q; exact absurd rfl hk
          · exact .inl hy
        · exact .inr hd

theorem lookup_of_mem {α β : Type} [BEq α] [LawfulBEq α] {x : α} {c : β} : ∀ {l : List (α × β)}, (x, c) ∈ l → ∃ d, l.lookup x = some d
  | (y, d) :: l, h => by
    rw [List.lookup_cons]
    cases hb : x == y with
    | true => exact ⟨d, rfl⟩
    | false =>
      rcases List.mem_cons.mp h with q | h
      · cases q; simp at hb
      · exact lookup_of_mem h

theorem closureFor_ok {fm : Fm} (W : fm.OK cx A) {scope : Scope} {x : Str} (O : ScopeOk scope fm.env.scope x) :
    ∃ cl, closureFor scope fm.env = pure cl ∧ (∀ y c, cl.lookup y = some c → fm.env.cells.lookup y = some c) ∧ (∀ y, scope.names.lookup y = some .free → ∃ c, cl.lookup y = some c) := by
  obtain ⟨cl, e, h1, h2⟩ := closure_of (env := fm.env) scope.names [] (fun y hy q => W.cellAt y.1 (O.free y hy q)) (fun _ hp => nomatch hp)
  refine ⟨cl, ?_, fun y c q => h1 _ (lookup_mem q), fun y q => ?_⟩
  · unfold closureFor
    have : (fun (x : Str × NameKind) (r : List (Str × Addr)) => (match x with | (name, kind) => if (kind == NameKind.free) = true then do let c ← cellOf fm.env name; pure (ForInStep.yield ((name, c) :: r)) else pure (ForInStep.yield r) : Sem (ForInStep (List (Str × Addr))))) =
      fun p cs => (if p.2 == NameKind.free then (do let c ← cellOf fm.env p.1; pure (ForInStep.yield ((p.1, c) :: cs))) else pure (ForInStep.yield cs)) := by
      funext p cs; rfl
    simp only [this, e]
    rfl
  · obtain ⟨c, hc⟩ := h2 y (.inl (lookup_mem q))
    exact lookup_of_mem hc

theorem getL_append (μ : List V) (v : V) : ∀ i, i < μ.length → getL (μ ++ [v]) i = getL μ i := by
  induction μ with
  | nil => intro i h; cases h
  | cons a l ih =>
    intro i h
    cases i with
    | zero => rfl
    | succ i => exact ih i (Nat.lt_of_succ_lt_succ h)
theorem getL_last (μ : List V) (v : V) : getL (μ ++ [v]) μ.length = v := by
  induction μ with
  | nil => rfl
  | cons a l ih => exact ih

noncomputable abbrev compFm (fm : Fm) (scope : Scope) (cl : List (Str × Addr)) (C : Addr) (x : Str) : Fm := ⟨compEnvC scope cl C fm.env, compNames scope fm.names x, fm.l⟩

theorem compFm_names {fm : Fm} {scope : Scope} {x y : Str} {i : Nat} (h : (compNames scope fm.names x)[i]? = some (some y)) :
    (fm.names[i]? = some (some y) ∧ scope.names.lookup y = some .free) ∨ (i = fm.names.length ∧ y = x) := by
  unfold compNames at h
  by_cases hi : i < fm.names.length
  · rw [List.getElem?_append_left (by simpa using hi), List.getElem?_map, Option.map_eq_some_iff] at h
    obtain ⟨o, e, q⟩ := h
    obtain ⟨rfl, hf⟩ := Option.filter_eq_some_iff.mp q
    exact .inl ⟨e, by simpa using hf⟩
  · rw [List.getElem?_append_right (by simpa using Nat.le_of_not_lt hi)] at h
    simp only [List.length_map] at h
    have : i - fm.names.length = 0 := by
      obtain ⟨hlt, _⟩ := List.getElem?_eq_some_iff.mp h
      simpa using hlt
    rw [this] at h
    simp at h
    exact .inr ⟨by first | lia | omega, h.symm⟩

theorem kindOf_comp {fm : Fm} {scope : Scope} {cl : List (Str × Addr)} {C : Addr} {x : Str} (O : ScopeOk scope fm.env.scope x) (y : Str) :
    (scope.names.lookup y = some .free → (compEnvC scope cl C fm.env).kindOf y = some .cell) ∧ (scope.names.lookup y = some .local → (compEnvC scope cl C fm.env).kindOf y = some .local) ∧
    ((compEnvC scope cl C fm.env).kindOf y = some .cell → scope.names.lookup y = some .free) := by
  have e : (compEnvC scope cl C fm.env).kindOf y = (scope.names.lookup y).map fun k => if (k == NameKind.free && fm.env.scope.kind == .function && fm.env.scope.names.lookup y == some .cell) then NameKind.cell else k :=
    lookup_relabelS (outer := fm.env.scope) y scope.names
  rw [e]
  refine ⟨fun h => ?_, fun h => ?_, fun h => ?_⟩
  · rw [h]; simp [O.okind, O.free' y h]
  · rw [h]; rfl
  · obtain ⟨k, h1, h2⟩ := Option.map_eq_some_iff.mp h
    split at h2
    · rename_i hc
      simp only [Bool.and_eq_true, beq_iff_eq] at hc
      rw [h1, hc.1.1]
    · subst h2
      exact absurd rfl (O.noCell (y, .cell) (lookup_mem h1))

theorem compFm_ok {fm : Fm} (W : fm.OK cx A) {scope : Scope} {x : Str} (O : ScopeOk scope fm.env.scope x) {cl : List (Str × Addr)} {C : Addr}
    (h1 : ∀ y c, cl.lookup y = some c → fm.env.cells.lookup y = some c) (h2 : ∀ y, scope.names.lookup y = some .free → ∃ c, cl.lookup y = some c)
    (hC : ¬ fm.own C) (hb : cx.base.get? C = none) : (compFm fm scope cl C x).OK cx A where
  frames := W.frames
  kind := O.kind
  globals := W.globals
  builtins := W.builtins
  cellsNe := fun y c hm (e : c = C) => hC (.inr ⟨y, e ▸ h1 y c hm⟩)
  cellsInj := fun y z c e1 e2 => W.cellsInj y z c (h1 _ _ e1) (h1 _ _ e2)
  inj := fun i j y e1 e2 => by
    rcases compFm_names e1 with ⟨a1, a2⟩ | ⟨a1, a2⟩ <;> rcases compFm_names e2 with ⟨b1, b2⟩ | ⟨b1, b2⟩
    · exact W.inj i j y a1 b1
    · subst b2; rw [O.loc] at a2; cases a2
    · subst a2; rw [O.loc] at b2; cases b2
    · rw [a1, b1]
  above := fun a q => by
    rcases q with q | ⟨y, q⟩
    · rw [q]; exact hb
    · exact W.above a (.inr ⟨y, h1 y a q⟩)
  cellAt := fun y q => h2 y ((kindOf_comp (cl := cl) (C := C) O y).2.2 q)

theorem comp_frame {fm : Fm} {H : HP} {μ : List V} {s : Shared} (S : SR cx fm H μ s) {scope : Scope} {x : Str} (O : ScopeOk scope fm.env.scope x) {cl : List (Str × Addr)} {C : Addr}
    (h1 : ∀ y c, cl.lookup y = some c → fm.env.cells.lookup y = some c) (h2 : ∀ y, scope.names.lookup y = some .free → ∃ c, cl.lookup y = some c)
    {m : Str → Option Value} (hn : s.heap.Ns C m) {v : Value} (hv : m x = some v) (hH : H C = none) : SR cx (compFm fm scope cl C x) H (μ ++ [abs v]) s := by
  refine ⟨S.toHS, ⟨?_, ?_, ⟨m, hn⟩, ?_⟩, fun a o e q => ?_, S.ff⟩
  · simp [compNames, S.fr.len]
  · rintro a (q | ⟨y, q⟩)
    · obtain ⟨o, es, ep, e, _⟩ := hn; exact ⟨o, by rw [q]; exact e⟩
    · exact S.fr.live a (.inr ⟨y, h1 y a q⟩)
  · intro i y hy
    rcases compFm_names hy with ⟨a1, a2⟩ | ⟨a1, a2⟩
    · obtain ⟨ov, w, q⟩ := S.fr.var i y a1
      have hil : i < μ.length := by rw [S.fr.len]; exact (List.getElem?_eq_some_iff.mp a1).1
      refine ⟨ov, ?_, by rw [getL_append _ _ _ hil]; exact q⟩
      have hk : fm.env.kindOf y = some .cell := O.free' y a2
      rcases w with ⟨k1, _⟩ | ⟨_, c, hc, hcell⟩
      · rw [hk] at k1; cases k1
      · obtain ⟨d, hd⟩ := h2 y a2
        have := h1 y d hd
        rw [hc] at this; cases this
        exact .inr ⟨(kindOf_comp O y).1 a2, c, hd, hcell⟩
    · subst a2
      refine ⟨some v, .inl ⟨(kindOf_comp O y).2.1 O.loc, m, hn, hv⟩, .inr ⟨v, rfl, ?_⟩⟩
      rw [a1, ← S.fr.len, getL_last]
  · rcases q with q | ⟨y, q⟩
    · have q' : a = C := q
      rw [q', hH] at e; cases e
    · exact S.own a o e (.inr ⟨y, h1 y a q⟩)
end
end Mine
end

section
namespace Mine
open PySem PyProof.Rows PySem.SeqAt

section
variable {cx : Cx} {T : Tbl} {A : Around} {E : Value → Shared → Prop} {n : Nat}

theorem Ns.keep {h h' : Heap} {a : Addr} {m : Str → Option Value} (x : h.Ns a m) (k : ∀ o, h.get? a = some o → h'.get? a = some o) : h'.Ns a m :=
  let ⟨o, es, ep, e, r⟩ := x; ⟨o, es, ep, k o e, r⟩

structure CI (cx : Cx) (fm : Fm) (μ : List V) (s₀ : Shared) (H₀ : HP) (it C D : Addr) (P : Nat → Heap → Prop) (H : HP) (i : Nat) (acc : List V) (s : Shared) : Prop where
  sr : SR cx fm H μ s
  ke : KE s₀ H₀ s H
  pos : P i s.heap
  itH : H it = none
  ns : ∃ m, s.heap.Ns C m
  cH : H C = none
  dl : ∃ ys, s.heap.PlainList D ys ∧ ys.toList.map abs = acc
  dH : H D = none

theorem comp_loop (C : cx.OK) {fm : Fm} {H₀ : HP} {μ : List V} {s₀ : Shared} {Q : V → HP → Prop} (W : fm.OK cx A) {elt iter : Expr} {ifs : List Expr} {x : Str} {px pos : Pos} {scope : Scope}
    (O : ScopeOk scope fm.env.scope x) {cl : List (Str × Addr)} {Ca D it : Addr}
    (h1 : ∀ y c, cl.lookup y = some c → fm.env.cells.lookup y = some c) (h2 : ∀ y, scope.names.lookup y = some .free → ∃ c, cl.lookup y = some c)
    {items : List V} {st : HP → Prop} {P : Nat → Heap → Prop} (I : ∀ E, Iter cx A E it items st P)
    (turn : V → HP → (Option V → HP → Prop) → Prop)
    (hcond : ∀ (E : Value → Shared → Prop) (s : Shared) (H : HP) (v : V) (K : Option V → HP → Prop), SR cx (compFm fm scope cl Ca x) H (μ ++ [v]) s → turn v H K →
      wpAny (model cx.prog cx.w) A (forIn ifs true fun c r => if r = true then do let ok ← isTrue c (compEnvC scope cl Ca fm.env) (eval c (compEnvC scope cl Ca fm.env)); pure (ForInStep.yield ok) else pure (ForInStep.yield r))
        (fun ok s' => ∃ H', HS cx H' s' ∧ KE s H s' H' ∧ (ok = true → wpAny (model cx.prog cx.w) A (eval elt (compEnvC scope cl Ca fm.env)) (EP cx s' H' fun v H => K (some v) H) E s') ∧ (ok = false → K none H')) E s)
    (hfresh : s₀.heap.get? it = none ∧ s₀.heap.get? Ca = none ∧ s₀.heap.get? D = none ∧ Ca ≠ it ∧ D ≠ it ∧ D ≠ Ca)
    (hC : ¬ fm.own Ca ∧ ¬ fm.fr Ca ∧ cx.base.get? Ca = none) (hD : ¬ fm.own D ∧ ¬ fm.fr D ∧ cx.base.get? D = none ∧ cx.Z D = none) (hit : ¬ fm.own it ∧ ¬ fm.fr it ∧ cx.base.get? it = none)
    (hlen : items.length ≤ 16777216) (Inv : List V → List V → HP → Prop) (hst : ∀ done acc H₁, Inv done acc H₁ → st H₁)
    (hturn : ∀ done x rest acc H₁, items = done ++ x :: rest → Inv done acc H₁ → turn x H₁ fun ov H₂ => ∃ H₃, LE H₃ H₂ ∧ Inv (done ++ [x]) (acc ++ ov.toList) H₃)
    (hend : ∀ acc H₁, Inv items acc H₁ → new cx H₁ (.list acc) Q)
    {s : Shared} {H₁ : HP} (hI : Inv [] [] H₁) (hs : CI cx fm μ s₀ H₀ it Ca D P H₁ 0 [] s) {R : Result → Shared → Prop}
    (hR : ∀ s' H', HS cx H' s' → KE s₀ H₀ s' H' → Q (.ref D) H' → H' Ca = none → (∃ m, s'.heap.Ns Ca m) → R (.ok .next) s') :
    codeAny (model cx.prog cx.w) A (.compLoop (.ListComp elt [⟨.Name x px, iter, ifs, 0⟩] scope pos) 0 (.ref it) (.ref D) (compEnvC scope cl Ca fm.env)) R s := by
  refine codeAny_compLoop_tests (fun k s => ∃ done rest acc H, items = done ++ rest ∧ k = rest.length ∧ acc.length ≤ done.length ∧ Inv done acc H ∧ CI cx fm μ s₀ H₀ it Ca D P H done.length acc s) ?_ items.length
    ⟨[], items, [], H₁, rfl, rfl, Nat.le_refl _, hI, hs⟩
  rintro k s ⟨done, rest, acc, H, hitems, rfl, hacc, hInv, B⟩
  have hdl : done.length ≤ items.length := by rw [hitems, List.length_append]; first | lia | omega
  cases rest with
  | nil =>
    rw [List.append_nil] at hitems
    subst hitems
    refine (I _).stop s H _ B.sr.toHS (hst _ _ _ hInv) B.pos fun h' eb => ?_
    have S' := B.sr.aside B.itH hit.1 hit.2.1 hit.2.2 eb s.toks
    obtain ⟨m, hm⟩ := B.ns
    obtain ⟨ys, hys, hya⟩ := B.dl
    obtain ⟨kk, hkk⟩ := hys
    have hD' : h'.get? D = some { cls := .type "list", data := .seq ys kk } := eb D _ hfresh.2.2.2.2.1 hkk
    refine hR _ (upd H D (.list acc)) ⟨fun a o e => ?_, S'.ext, fun a o e => ?_⟩ ⟨fun b o e hb _ => ?_, fun a o e ha _ => ?_, B.ke.os, B.ke.gens⟩ (hend acc H hInv D ⟨B.dH, hD.2.2.1, hD.2.2.2⟩) (by rw [upd_ne _ (Ne.symm hfresh.2.2.2.2.2)]; exact B.cH) ⟨m, Ns.keep hm fun o e => eb Ca o hfresh.2.2.2.1 e⟩
    · by_cases h : a = D
      · subst h; rw [upd_same] at e; cases e; exact rep_list hD' hya
      · rw [upd_ne _ h] at e; exact S'.hr a o e
    · by_cases h : a = D
      · subst h; exact hD.2.2.1
      · rw [upd_ne _ h] at e; exact S'.low a o e
    · obtain ⟨o', e', so⟩ := B.ke.keep b o e hb id
      exact ⟨o', eb b o' (fun q => by subst q; rw [hfresh.1] at e; cases e) e', so⟩
    · rw [upd_ne _ (fun q => by subst q; rw [hfresh.2.2.1] at e; cases e)]
      exact B.ke.dom a o e ha id
  | cons v rest =>
    have hv : items[done.length]? = some v := by rw [hitems]; simp
    refine (I _).next s H done.length v _ B.sr.toHS (hst _ _ _ hInv) B.pos hv fun h₁ tk xv hxa hp₁ sb₁ => ?_
    -- the iterator has gone on
    have S₁ := B.sr.aside B.itH hit.1 hit.2.1 hit.2.2 sb₁.extBut tk
    obtain ⟨m, hm⟩ := B.ns
    have hm₁ : h₁.Ns Ca m := Ns.keep hm fun o e => sb₁.extBut Ca o hfresh.2.2.2.1 e
    refine wpAny_assign_Name (wpAny_storeName_local (m := m) ((kindOf_comp O x).2.1 O.loc) hm₁ (fun h₂ hm₂ sb₂ => ?_) (by show (scope.kind == .class || (scope.kind == .module && _)) = false; rw [O.kind]; rfl))
    have S₂ := S₁.aside B.cH hC.1 hC.2.1 hC.2.2 sb₂.extBut (tk + 1)
    have F₂ := comp_frame S₂ O h1 h2 hm₂ (v := xv) (by simp) B.cH
    rw [hxa] at F₂
    -- all that stood before the turn, but the iterator and the block's names
    have keep₂ : ∀ b o, b ≠ it → b ≠ Ca → s.heap.get? b = some o → h₂.get? b = some o := fun b o n1 n2 e => sb₂.extBut b o n2 (sb₁.extBut b o n1 e)
    have ke₂ : KE s₀ H₀ { s with heap := h₂, toks := tk + 1 } H := ⟨fun b o e hb _ => (let ⟨o', e', so⟩ := B.ke.keep b o e hb id; ⟨o', keep₂ b o' (fun q => by subst q; rw [hfresh.1] at e; cases e) (fun q => by subst q; rw [hfresh.2.1] at e; cases e) e', so⟩), fun a o e ha _ => B.ke.dom a o e ha id, B.ke.os, B.ke.gens⟩
    have pos₂ : P (done.length + 1) h₂ := (I fun _ _ => False).frame _ _ _ hp₁ fun o e => sb₂.extBut it o (Ne.symm hfresh.2.2.2.1) e
    obtain ⟨oit, hoit⟩ := (I fun _ _ => False).live _ _ pos₂
    obtain ⟨ys, hys, hya⟩ := B.dl
    have hys₂ : h₂.PlainList D ys := by obtain ⟨kk, e⟩ := hys; exact ⟨kk, keep₂ D _ hfresh.2.2.2.2.1 hfresh.2.2.2.2.2 e⟩
    refine wpAny_mono (hcond _ _ _ _ _ F₂ (hturn done v rest acc H hitems hInv)) (fun ok s₃ x₃ => ?_) fun _ _ e => e
    obtain ⟨H₃, S₃, k₃, ht, hf⟩ := x₃
    -- an end of a turn, at any later heap
    have fin : ∀ (s₄ : Shared) (H₄ : HP) (acc' : List V) (ys' : Array Value), HS cx H₄ s₄ → KE { s with heap := h₂, toks := tk + 1 } H s₄ H₄ → (∃ H₅, LE H₅ H₄ ∧ Inv (done ++ [v]) acc' H₅) → acc'.length ≤ done.length + 1 →
        ys'.toList.map abs = acc' → ∀ s₅ : Shared, s₅.heap.PlainList D ys' → (∀ b o, b ≠ D → s₄.heap.get? b = some o → s₅.heap.get? b = some o) → s₅.os = s₄.os → s₅.gens = s₄.gens →
        ∃ m, m < (v :: rest).length ∧ ∃ done rest acc H, items = done ++ rest ∧ m = rest.length ∧ acc.length ≤ done.length ∧ Inv done acc H ∧ CI cx fm μ s₀ H₀ it Ca D P H done.length acc s₅ := by
      intro s₄ H₄ acc' ys' S₄ k₄ ⟨H₅, le, hI5⟩ hl hy s₅ hp5 hk5 ho5 hg5
      have S₅ := (S₂.step S₄ k₄).le le
      have dH : H₅ D = none := by
        cases e : H₅ D with
        | none => rfl
        | some o =>
          obtain ⟨kk, e2⟩ := hys₂
          have := k₄.dom D _ e2 B.dH id
          rw [le D o e] at this; cases this
      have itH : H₅ it = none := by
        cases e : H₅ it with
        | none => rfl
        | some o =>
          have := k₄.dom it _ hoit B.itH id
          rw [le it o e] at this; cases this
      have cH : H₅ Ca = none := by
        cases e : H₅ Ca with
        | none => rfl
        | some o =>
          obtain ⟨oc, _, _, e2, _⟩ := hm₂
          have := k₄.dom Ca _ e2 B.cH id
          rw [le Ca o e] at this; cases this
      have S₆ : SR cx fm H₅ μ { s₄ with heap := s₅.heap } := S₅.aside dH hD.1 hD.2.1 hD.2.2.1 hk5 s₄.toks
      refine ⟨rest.length, Nat.lt_succ_self _, done ++ [v], rest, acc', H₅, by rw [hitems]; simp, rfl, by simpa using hl, hI5, ?_⟩
      have S₇ : SR cx fm H₅ μ s₅ := ⟨⟨S₆.hr, S₆.ext, S₆.low⟩, S₆.fr, S₆.own, S₆.ff⟩
      have k5 := (ke₂.trans k₄).le le
      refine ⟨S₇, ⟨fun b o e hb q => (let ⟨o', e', so⟩ := k5.keep b o e hb q; ⟨o', hk5 b o' (fun q => by subst q; rw [hfresh.2.2.1] at e; cases e) e', so⟩), k5.dom, ho5.trans k5.os, hg5.trans k5.gens⟩, ?_, itH, ?_, cH, ⟨ys', hp5, hy⟩, dH⟩
      · rw [List.length_append]
        exact (I fun _ _ => False).frame _ _ _ pos₂ fun o e => hk5 it o (Ne.symm hfresh.2.2.2.2.1) (k₄.same e B.itH id ((I fun _ _ => False).nd _ _ _ pos₂ e))
      · exact ⟨_, Ns.so hm₂ fun oc e => (let ⟨o', e', so⟩ := k₄.keep Ca oc e B.cH id; ⟨o', hk5 Ca o' (Ne.symm hfresh.2.2.2.2.2) e', so⟩)⟩
    cases ok with
    | true =>
      simp only [if_true]
      refine wpAny_mono (ht rfl) (fun y s₄ x₄ => ?_) fun _ _ e => e
      obtain ⟨H₄, S₄, k₄, h₄⟩ := x₄
      have hysn : s₄.heap.PlainList D ys := by
        obtain ⟨kk, e⟩ := hys₂
        have dn := k₃.dom D _ e B.dH id
        exact ⟨kk, k₄.same (k₃.same e B.dH id fun _ _ q => by cases q) dn id fun _ _ q => by cases q⟩
      have hsz : ys.size ≤ sizeLine := by rw [size_of hya, sizeLine_eq]; first | lia | omega
      refine wpAny_list_append_plain hysn (fun h' hp sb => ?_) hsz
      exact fin s₄ H₄ _ (ys.push y) S₄ (k₃.trans k₄) h₄ (by simp; first | lia | omega) (by rw [Array.toList_push, List.map_append, hya]; rfl) _ hp (fun b o hb e => sb.extBut b o hb e) rfl rfl
    | false =>
      simp only [Bool.false_eq_true, if_false]
      have hysn : s₃.heap.PlainList D ys := by
        obtain ⟨kk, e⟩ := hys₂
        exact ⟨kk, k₃.same e B.dH id fun _ _ q => by cases q⟩
      have := hf rfl
      simp only [Option.toList_none, List.append_nil] at this
      exact fin s₃ H₃ acc ys S₃ k₃ this (by first | lia | omega) hya s₃ hysn (fun _ _ _ e => e) rfl rfl
end
end Mine
end

section
namespace Mine
open PySem PyProof.Rows PySem.SeqAt

section
variable {cx : Cx} {T : Tbl} {A : Around} {E : Value → Shared → Prop} {n : Nat}

theorem comp_block (C : cx.OK) {fm : Fm} {H : HP} {μ : List V} {s : Shared} {Q : V → HP → Prop} (W : fm.OK cx A) (S : SR cx fm H μ s) {elt iter : Expr} {ifs : List Expr} {x : Str} {px pos : Pos} {scope : Scope}
    (O : ScopeOk scope fm.env.scope x) {cl : List (Str × Addr)}
    (h1 : ∀ y c, cl.lookup y = some c → fm.env.cells.lookup y = some c) (h2 : ∀ y, scope.names.lookup y = some .free → ∃ c, cl.lookup y = some c)
    {items : List V} {st : HP → Prop} {P : Nat → Heap → Prop} {it : Addr} {ob : Obj} (I : ∀ E, Iter cx A E it items st P) (hit : s.heap.get? it = none) (hP : P 0 (s.heap.push ob)) 
    (turn : V → HP → (Option V → HP → Prop) → Prop)
    (hcond : ∀ (Ca : Addr) (E : Value → Shared → Prop) (s : Shared) (H : HP) (v : V) (K : Option V → HP → Prop), (compFm fm scope cl Ca x).OK cx A → SR cx (compFm fm scope cl Ca x) H (μ ++ [v]) s → turn v H K →
      wpAny (model cx.prog cx.w) A (forIn ifs true fun c r => if r = true then do let ok ← isTrue c (compEnvC scope cl Ca fm.env) (eval c (compEnvC scope cl Ca fm.env)); pure (ForInStep.yield ok) else pure (ForInStep.yield r))
        (fun ok s' => ∃ H', HS cx H' s' ∧ KE s H s' H' ∧ (ok = true → wpAny (model cx.prog cx.w) A (eval elt (compEnvC scope cl Ca fm.env)) (EP cx s' H' fun v H => K (some v) H) E s') ∧ (ok = false → K none H')) E s)
    (hC : CompP cx items st H turn Q) {RR : Value → Addr → Result → Shared → Prop}
    (hRR : ∀ D Ca s' H', HS cx H' s' → KE s H s' H' → Q (.ref D) H' → H' Ca = none → s.heap.get? Ca = none → (∃ m, s'.heap.Ns Ca m) → RR (.ref D) Ca (.ok .next) s') :
    wpAny (model cx.prog cx.w) A (newList []) (fun acc s₃ => wpAny (model cx.prog cx.w) A (newFunctionEnv scope fm.env.globals cl [] fm.env.qual none .none (some fm.env)) (fun cenv s₄ =>
      codeAny (model cx.prog cx.w) A (.compStart (.ListComp elt [⟨.Name x px, iter, ifs, 0⟩] scope pos) 0 (.ref it) acc { cenv with scope := relabel scope fm.env }) (RR acc cenv.locals) s₄) E s₃) E
      { s with heap := s.heap.push ob } := by
  obtain ⟨hlen, Inv, hI0, hst, hturn, hend⟩ := hC
  refine wpAny_newList ?_ (by simp)
  refine wpAny_newFunctionEnv O.noCell (by intro y hy; cases hy) (fun h₁ hns₁ hsb₁ => ?_) O.kind
  dsimp only at hns₁ hsb₁ ⊢
  obtain ⟨oit, hoit⟩ := (I fun _ _ => False).live _ _ hP
  have hitlt : @LT.lt Nat _ it (s.heap.objs.size + 1) := by have := Heap.lt_size hoit; rwa [Heap.size_push] at this
  -- names for the two new places
  have hD1 : (s.heap.push ob).objs.size = s.heap.objs.size + 1 := Heap.size_push ..
  generalize hDe : (s.heap.push ob).objs.size = D at hns₁ hsb₁ ⊢
  generalize hH2 : (s.heap.push ob).push { cls := .type "list", data := .seq ([] : List Value).toArray } = h2' at hns₁ hsb₁ ⊢
  generalize hCe : h2'.objs.size = Ca at hns₁ hsb₁ ⊢
  have hCa : Ca = D + 1 := by rw [← hCe, ← hH2, Heap.size_push, hDe]
  have hDv : D = s.heap.objs.size + 1 := by rw [← hDe, hD1]
  have hns0 : ∀ b, s.heap.objs.size ≤ b → s.heap.get? b = none := fun b hb => by
    cases e : s.heap.get? b with
    | none => rfl
    | some o => exact absurd (Heap.lt_size e) (Nat.not_lt.mpr hb)
  have hsD : s.heap.get? D = none := hns0 D (by first | lia | omega)
  have hsC : s.heap.get? Ca = none := hns0 Ca (by first | lia | omega)
  have hown : ∀ b, s.heap.get? b = none → ¬ fm.own b := fun b hb q => by
    obtain ⟨o, e⟩ := S.fr.live b q
    rw [hb] at e; cases e
  have hfrn : ∀ b, s.heap.get? b = none → ¬ fm.fr b := fun b hb ⟨e, he, hf⟩ => by
    obtain ⟨_, L, o, _, _, q1, _, _, q4, _⟩ := S.ff e he
    rw [hf] at q1; cases q1; rw [hb] at q4; cases q4
  have nCit : Ca ≠ it := Nat.ne_of_gt (by first | lia | omega)
  have nDit : D ≠ it := Nat.ne_of_gt (by first | lia | omega)
  have nDC : D ≠ Ca := by first | lia | omega
  -- what stood stands
  have k₁ : ∀ b o, s.heap.get? b = some o → h₁.get? b = some o := fun b o e => by
    have hb : @LT.lt Nat _ b _ := Heap.lt_size e
    refine hsb₁.extBut b o (Nat.ne_of_lt (by first | lia | omega)) (Heap.get?_push_of_some _ ?_)
    rw [← hH2]
    exact Heap.get?_push_of_some _ (Heap.get?_push_of_some _ e)
  have kit : ∀ o, (s.heap.push ob).get? it = some o → h₁.get? it = some o := fun o e => by
    refine hsb₁.extBut it o (Ne.symm nCit) (Heap.get?_push_of_some _ ?_)
    rw [← hH2]
    exact Heap.get?_push_of_some _ e
  have hDl : h₁.PlainList D #[] := ⟨0, hsb₁.extBut D _ nDC (Heap.get?_push_of_some _ (by
    rw [← hH2, ← hDe]; exact Heap.get?_push_size _ rfl))⟩
  have S' := S.toHS.grow k₁ (s.toks + ([] : List (Str × Value)).length)
  have K' : KE s H { s with heap := h₁, toks := s.toks + ([] : List (Str × Value)).length } H := KE.grow k₁ _
  have hfr := S.toHS.fresh C hsD
  have loop : codeAny (model cx.prog cx.w) A (.compLoop (.ListComp elt [⟨.Name x px, iter, ifs, 0⟩] scope pos) 0 (.ref it) (.ref D) (compEnvC scope cl Ca fm.env)) (RR (.ref D) Ca)
      { s with heap := h₁, toks := s.toks + ([] : List (Str × Value)).length } := by
    have cok : (compFm fm scope cl Ca x).OK cx A := compFm_ok W O h1 h2 (hown _ hsC) (S.toHS.base_none hsC)
    refine comp_loop (s₀ := s) (H₀ := H) C W O h1 h2 I turn (fun E s H v K F ht => hcond Ca E s H v K cok F ht) ⟨hit, hsC, hsD, nCit, nDit, nDC⟩ ⟨hown _ hsC, hfrn _ hsC, S.toHS.base_none hsC⟩ ⟨hown _ hsD, hfrn _ hsD, hfr.2.1, hfr.2.2⟩ ⟨hown _ hit, hfrn _ hit, S.toHS.base_none hit⟩ hlen
      Inv hst hturn hend hI0 ⟨S.step S' K', K', (I fun _ _ => False).frame _ _ _ hP kit, S.toHS.none_of hit, ⟨_, hns₁⟩, S.toHS.none_of hsC, ⟨#[], hDl, rfl⟩, S.toHS.none_of hsD⟩ ?_
    intro s' H' S₂ k₂ hQ hCn hns
    exact hRR D Ca s' H' S₂ k₂ hQ hCn hsC hns
  exact codeAny_compStart_list loop ((I _).self _ _ ((I fun _ _ => False).frame _ _ _ hP kit) loop)
end
end Mine
end

section
namespace Mine
open PySem PyProof.Rows PySem.SeqAt

section
variable {cx : Cx} {T : Tbl} {A : Around} {E : Value → Shared → Prop} {n : Nat}

noncomputable def ItPost (cx : Cx) (A : Around) (s : Shared) (H : HP) (K : List V → (HP → Prop) → HP → Prop) : Value → Shared → Prop := fun v s₂ =>
  ∃ it P ob s₁ H₁ items st, v = .ref it ∧ HS cx H₁ s₁ ∧ KE s H s₁ H₁ ∧ s₂ = { s₁ with heap := s₁.heap.push ob } ∧ s₁.heap.get? it = none ∧ (∀ E, Iter cx A E it items st P) ∧ P 0 (s₁.heap.push ob) ∧ K items st H₁

theorem iterP_ok (C : cx.OK) (hh : A.handled = none) {H : HP} {s : Shared} (S : HS cx H s) {v : Value} {K : List V → (HP → Prop) → HP → Prop} (h : IterP cx (abs v) H K) :
    wpAny (model cx.prog cx.w) A (pyIter v) (ItPost cx A s H K) E s := by
  obtain ⟨a, ha, h⟩ := onR_inv h
  have := abs_ref ha; subst this
  obtain ⟨vs, hl, h⟩ := onHL_inv h
  exact iter_list C hh S hl fun it P ob h1 h2 h3 => ⟨it, P, ob, s, H, vs, _, rfl, S, Kept.refl _ s H, rfl, h1, h2, h3, h.2⟩

theorem rng_end (hA : AOK A n) {H : HP} {s : Shared} {K : List V → (HP → Prop) → HP → Prop} {s₁ : Shared} {H₁ : HP} {x y : Int} {t u v : Tok} {tk : Nat} (S₁ : HS cx H₁ s₁) (k₁ : KE s H s₁ H₁) (hr : RngP (.int x) (.int y) fun items => K items (fun _ => True) H₁) :
    wpAny (model cx.prog cx.w) A (pyIter (.ref s₁.heap.objs.size)) (ItPost cx A s H K) E { s₁ with heap := s₁.heap.push { cls := .type "range", data := .fields #[.int x t, .int y u, .int 1 v] }, toks := tk } := by
  have kg : ∀ b o, s₁.heap.get? b = some o → (s₁.heap.push { cls := .type "range", data := .fields #[.int x t, .int y u, .int 1 v] }).get? b = some o := fun b o e => Heap.get?_push_of_some _ e
  refine iter_range (s := { s₁ with heap := s₁.heap.push { cls := .type "range", data := .fields #[.int x t, .int y u, .int 1 v] }, toks := tk }) hA.handled (IsRange.new _ _ _ _ _ _ _) hr.1 hr.2.1 fun it P ob h1 h2 h3 => ?_
  exact ⟨it, P, ob, _, H₁, _, _, rfl, S₁.grow kg tk, k₁.trans (KE.grow kg tk), rfl, h1, h2, h3, hr.2.2⟩
theorem rng_inv {v w : Value} {P : List V → Prop} (h : RngP (abs v) (abs w) P) : ∃ x y t u, v = .int x t ∧ w = .int y u ∧ RngP (.int x) (.int y) P := by
  obtain ⟨x, e1, h⟩ := onI_inv h
  obtain ⟨y, e2, h⟩ := onI_inv h
  obtain ⟨t, e1⟩ := abs_int e1
  obtain ⟨u, e2⟩ := abs_int e2
  exact ⟨x, y, t, u, e1, e2, h⟩
noncomputable def RngArgs (cx : Cx) (A : Around) (n : Nat) (fm : Fm) (a b : ME) (as : List Expr) : Prop :=
  (∃ e, as = [e] ∧ a = .cint 0 ∧ kindOK e = true ∧ JE cx A n b fm e) ∨ ∃ e e', as = [e, e'] ∧ kindOK e = true ∧ kindOK e' = true ∧ JE cx A n a fm e ∧ JE cx A n b fm e'
theorem it_rng (C : cx.OK) (TO : T.OK cx) (hA : AOK A n) {fm : Fm} {H : HP} {μ : List V} {s : Shared} (W : fm.OK cx A) (S : SR cx fm H μ s) {np p : Pos} {as : List Expr} {a b : ME}
    (hx : isGlob fm.env.scope "range" = true) (ha : RngArgs cx A n fm a b as)
    {K : List V → (HP → Prop) → HP → Prop} (h : mwpE cx n a μ H fun x H => mwpE cx n b μ H fun y H => RngP x y fun items => K items (fun _ => True) H) :
    wpAny (model cx.prog cx.w) A (eval (.Call (.Name "range" np) as [] p) fm.env) (fun xv s₁ => wpAny (model cx.prog cx.w) A (pyIter xv) (ItPost cx A s H K) E s₁) E s := by
  refine wpAny_Call_ofName (glob_name C W S.toHS hx TO.rng ?_)
  rcases ha with ⟨e, rfl, rfl, ke, i⟩ | ⟨e, e', rfl, ke, ke', i, i'⟩
  · rw [starEach_of ke]
    refine PySem.callWith_type rfl (Calls.evalArgs_plain (Calls.spliced_cons (ep_then (i E H μ s _ S h) fun v s₁ H₁ S₁ k₁ h₁ => Calls.spliced_nil ?_)))
    obtain ⟨y, e2, h2⟩ := onI_inv (v := abs v) h₁
    obtain ⟨t, rfl⟩ := abs_int e2
    exact call_range_1 (rng_end hA S₁ k₁ h2)
  · rw [starEach_of ke, starEach_of ke']
    refine PySem.callWith_type rfl (Calls.evalArgs_plain (Calls.spliced_cons (ep_then (i E H μ s _ S h) fun v s₁ H₁ S₁ k₁ h₁ => ?_)))
    refine Calls.spliced_cons (ep_then (i' E H₁ μ s₁ _ (S.step S₁ k₁) h₁) fun w s₂ H₂ S₂ k₂ h₂ => Calls.spliced_nil ?_)
    obtain ⟨x, y, t, u, rfl, rfl, h₂⟩ := rng_inv h₂
    exact call_range_2 (rng_end hA S₂ (k₁.trans k₂) h₂)

theorem it_val (C : cx.OK) (hA : AOK A n) {fm : Fm} {H : HP} {μ : List V} {s : Shared} (S : SR cx fm H μ s) {e : Expr} {m : ME} (i : JE cx A n m fm e)
    {K : List V → (HP → Prop) → HP → Prop} (h : mwpE cx n m μ H fun v H => IterP cx v H K) :
    wpAny (model cx.prog cx.w) A (eval e fm.env) (fun xv s₁ => wpAny (model cx.prog cx.w) A (pyIter xv) (ItPost cx A s H K) E s₁) E s := by
  refine ep_then (i E H μ s _ S h) fun v s₁ H₁ S₁ k₁ h₁ => wpAny_mono (iterP_ok C hA.handled S₁ h₁) (fun v s₂ x => ?_) fun _ _ e => e
  obtain ⟨it, P, ob, s₃, H₃, items, st, a1, a2, a3, a4⟩ := x
  exact ⟨it, P, ob, s₃, H₃, items, st, a1, a2, k₁.trans a3, a4⟩
end
end Mine
end

section
namespace Mine
open PySem PyProof.Rows PySem.SeqAt

section
variable {cx : Cx} {T : Tbl} {A : Around} {E : Value → Shared → Prop} {n : Nat}

noncomputable def CTests (cx : Cx) (A : Around) (n : Nat) (c : ME) (fm : Fm) (ifs : List Expr) : Prop := (ifs = [] ∧ isTrueM c = true) ∨ ∃ e, ifs = [e] ∧ JT cx A n c fm e
theorem comp_turn {fm : Fm} {μ : List V} {scope : Scope} {x : Str} {cl : List (Str × Addr)} {Ca : Addr} {elt : Expr} {ifs : List Expr} {el cond : ME}
    (ie : JE cx A n el (compFm fm scope cl Ca x) elt) (ic : CTests cx A n cond (compFm fm scope cl Ca x) ifs) (E : Value → Shared → Prop) (s : Shared) (H : HP) (v : V) (K : Option V → HP → Prop) (S : SR cx (compFm fm scope cl Ca x) H (μ ++ [v]) s)
    (h : mwpE cx n cond (μ ++ [v]) H fun c H₂ => onB c fun b => ifB b (mwpE cx n el (μ ++ [v]) H₂ fun v H₃ => K (some v) H₃) (K none H₂)) :
    wpAny (model cx.prog cx.w) A (forIn ifs true fun c r => if r = true then do let ok ← isTrue c (compEnvC scope cl Ca fm.env) (eval c (compEnvC scope cl Ca fm.env)); pure (ForInStep.yield ok) else pure (ForInStep.yield r))
      (fun ok s' => ∃ H', HS cx H' s' ∧ KE s H s' H' ∧ (ok = true → wpAny (model cx.prog cx.w) A (eval elt (compEnvC scope cl Ca fm.env)) (EP cx s' H' fun v H => K (some v) H) E s') ∧ (ok = false → K none H')) E s := by
  rcases ic with ⟨rfl, hc⟩ | ⟨c, rfl, ic⟩
  · refine wpAny_tests_nil ⟨H, S.toHS, Kept.refl _ s H, fun _ => ?_, fun e => by cases e⟩
    cases cond <;> first | (have := hc; subst this; exact ie E H (μ ++ [v]) s _ S h) | exact (Bool.false_ne_true hc).elim
  · refine wpAny_tests_one (wpAny_mono (ic E H (μ ++ [v]) s (fun b H₂ => ifB b (mwpE cx n el (μ ++ [v]) H₂ fun v H₃ => K (some v) H₃) (K none H₂)) S h) (fun b s₁ x => ?_) fun _ _ e => e)
    obtain ⟨H₁, S₁, k₁, h₁⟩ := x
    exact ⟨H₁, S₁, k₁, fun hb => (by subst hb; exact ie E H₁ (μ ++ [v]) s₁ _ (S.step S₁ k₁) h₁), fun hb => by subst hb; exact h₁⟩

noncomputable def CUse (cx : Cx) (A : Around) (E : Value → Shared → Prop) (s : Shared) (H : HP) (Q : V → HP → Prop) (use : Option (Value → Sem Unit)) (Q' : Value → Shared → Prop) : Prop :=
  ∀ (D Ca : Addr) (s' : Shared) (H' : HP), HS cx H' s' → KE s H s' H' → Q (.ref D) H' → H' Ca = none → cx.base.get? Ca = none → (∀ o, s.heap.get? Ca = some o → H Ca = none → False) → (∃ m, s'.heap.Ns Ca m) → compPost (model cx.prog cx.w) A E use Q' (.ref D) Ca (.ok .next) s'
theorem comp_any (C : cx.OK) {fm : Fm} {H : HP} {μ : List V} {s : Shared} {Q : V → HP → Prop} (W : fm.OK cx A) (S : SR cx fm H μ s) {elt iter : Expr} {ifs : List Expr} {x : Str} {px pos p0 : Pos} {scope : Scope} {el cond : ME}
    (O : ScopeOk scope fm.env.scope x) (ki : kindOK iter = true) (ie : ∀ fm' : Fm, fm'.OK cx A → fm'.env.scope = relabelS scope fm.env.scope → fm'.names = compNames scope fm.names x → JE cx A n el fm' elt ∧ CTests cx A n cond fm' ifs)
    {K : List V → (HP → Prop) → HP → Prop} (hK : ∀ items st H₁, K items st H₁ → CompP cx items st H₁ (fun x H₁ K => mwpE cx n cond (μ ++ [x]) H₁ fun c H₂ => onB c fun b => ifB b (mwpE cx n el (μ ++ [x]) H₂ fun v H₃ => K (some v) H₃) (K none H₂)) Q)
    (hw : wpAny (model cx.prog cx.w) A (eval iter fm.env) (fun xv s₁ => wpAny (model cx.prog cx.w) A (pyIter xv) (ItPost cx A s H K) E s₁) E s)
    {use : Option (Value → Sem Unit)} {Q' : Value → Shared → Prop} (huse : CUse cx A E s H Q use Q') :
    wpAny (model cx.prog cx.w) A (comprehension (.ListComp elt [⟨.Name x px, iter, ifs, 0⟩] scope pos) scope fm.env p0 (newList []) false (eval iter fm.env) use) Q' E s := by
  obtain ⟨cl, hcl, h1, h2⟩ := closureFor_ok W O
  refine wpAny_comprehension_free rfl (folded_of ki fm.env) hcl O.kind O.locs (wpAny_mono hw (fun xv s₁ hx => wpAny_mono hx (fun itv s₂ hy => ?_) fun _ _ e => e) fun _ _ e => e)
  obtain ⟨ita, P, ob, s₃, H₁, items, st, rfl, S₁, k₁, rfl, hf, I, hP, hk⟩ := hy
  refine comp_block (RR := compPost (model cx.prog cx.w) A E use Q') C W (S.step S₁ k₁) O h1 h2 I hf hP _ (fun Ca E s H v K cok F ht => comp_turn (ie _ cok rfl rfl).1 (ie _ cok rfl rfl).2 E s H v K F ht) (hK _ _ _ hk) ?_
  intro D Ca s' H' S' k' hQ hCa hCf hns
  exact huse D Ca s' H' S' (k₁.trans k') hQ hCa (S₁.base_none hCf) (fun o e e2 => by obtain ⟨o', e', _⟩ := k₁.keep Ca o e e2 id; rw [e'] at hCf; cases hCf) hns

theorem post_same {H H' : HP} {s s' : Shared} {Ca : Addr} {h' : Heap} (S' : HS cx H' s') (k : KE s H s' H') (hCa : H' Ca = none) (hb : cx.base.get? Ca = none) (hf : ∀ o, s.heap.get? Ca = some o → H Ca = none → False)
    (sb : Heap.SameBut Ca s'.heap h') : HS cx H' { s' with heap := h' } ∧ KE s H { s' with heap := h' } H' :=
  ⟨⟨fun a o e => (S'.hr a o e).of_eq (sb.2 a (fun q => by subst q; rw [hCa] at e; cases e)), fun b o e => (sb.2 b (fun q => by subst q; rw [hb] at e; cases e)).trans (S'.ext b o e), S'.low⟩,
    ⟨fun b o e hn q => (let ⟨o', e', so⟩ := k.keep b o e hn q; ⟨o', (sb.2 b (fun q => by subst q; exact hf o e hn)).trans e', so⟩), k.dom, k.os, k.gens⟩⟩

noncomputable def JC (cx : Cx) (A : Around) (n : Nat) (m : ME) (fm : Fm) (e : Expr) : Prop := ∀ (E : Value → Shared → Prop) (H : HP) (μ : List V) (s : Shared) (Q : V → HP → Prop) (p0 : Pos) (use : Option (Value → Sem Unit)) (Q' : Value → Shared → Prop) (elt : Expr) (gens : List Comprehension) (scope : Scope) (pos : Pos),
  e = .ListComp elt gens scope pos → SR cx fm H μ s → mwpE cx n m μ H Q → CUse cx A E s H Q use Q' → wpAny (model cx.prog cx.w) A (comprehension (.ListComp elt gens scope pos) scope fm.env p0 (newList []) (firstAsync gens) (firstIter gens fm.env) use) Q' E s
theorem jc_value {m : ME} {fm : Fm} {elt : Expr} {gens : List Comprehension} {scope : Scope} {pos : Pos} (i : JC cx A n m fm (.ListComp elt gens scope pos)) : JE cx A n m fm (.ListComp elt gens scope pos) := by
  intro E H μ s Q S h
  rw [eval_ListComp]
  refine i E H μ s Q _ _ _ elt gens scope pos rfl S h ?_
  intro D Ca s' H' S' k hQ hCa hb hf hns
  obtain ⟨m, hm⟩ := hns
  exact ⟨m, hm, fun h' sb => (let ⟨a, b⟩ := post_same S' k hCa hb hf sb; ⟨H', a, b, hQ⟩)⟩
theorem jc_comp (C : cx.OK) (hA : AOK A n) {fm : Fm} (W : fm.OK cx A) {elt iter : Expr} {ifs : List Expr} {x : Str} {px pos : Pos} {scope : Scope} {el it cond : ME}
    (O : ScopeOk scope fm.env.scope x) (ki : kindOK iter = true) (ie : ∀ fm' : Fm, fm'.OK cx A → fm'.env.scope = relabelS scope fm.env.scope → fm'.names = compNames scope fm.names x → JE cx A n el fm' elt ∧ CTests cx A n cond fm' ifs)
    (ii : JE cx A n it fm iter) : JC cx A n (.comp el it cond) fm (.ListComp elt [⟨.Name x px, iter, ifs, 0⟩] scope pos) := by
  intro E H μ s Q p0 use Q' _ _ _ _ e S h hu
  cases e
  exact comp_any C W S O ki ie (fun _ _ _ h => h) (it_val C hA S ii h) hu
theorem jc_compR (C : cx.OK) (TO : T.OK cx) (hA : AOK A n) {fm : Fm} (W : fm.OK cx A) {elt : Expr} {as ifs : List Expr} {x : Str} {px np ip pos : Pos} {scope : Scope} {el a b cond : ME}
    (O : ScopeOk scope fm.env.scope x) (hx : isGlob fm.env.scope "range" = true) (ie : ∀ fm' : Fm, fm'.OK cx A → fm'.env.scope = relabelS scope fm.env.scope → fm'.names = compNames scope fm.names x → JE cx A n el fm' elt ∧ CTests cx A n cond fm' ifs)
    (ha : RngArgs cx A n fm a b as) : JC cx A n (.compR el a b cond) fm (.ListComp elt [⟨.Name x px, .Call (.Name "range" np) as [] ip, ifs, 0⟩] scope pos) := by
  intro E H μ s Q p0 use Q' _ _ _ _ e S h hu
  cases e
  exact comp_any C W S O rfl ie (fun _ _ _ h => h) (it_rng C TO hA W S hx ha h) hu

noncomputable def isComp : Expr → Bool
  | .ListComp .. => true
  | _ => false
structure JJ (cx : Cx) (A : Around) (n : Nat) (m : ME) (fm : Fm) (e : Expr) : Prop where
  v : JE cx A n m fm e
  t : JT cx A n m fm e
  c : isComp e = true → JC cx A n m fm e
  k : kindOK e = true
theorem jj {m : ME} {fm : Fm} {e : Expr} (v : JE cx A n m fm e) (t : JT cx A n m fm e) (hc : isComp e = false) (hk : kindOK e = true) : JJ cx A n m fm e := ⟨v, t, fun q => (Bool.false_ne_true (hc.symm.trans q)).elim, hk⟩
theorem jj1 {m : ME} {fm : Fm} {e : Expr} (hc : isComp e = false) (hk : kindOK e = true) (he : ∀ env whole, isTrue e env whole = (do let v ← whole; standAt e.pos; holding [v] (truthy v))) (v : JE cx A n m fm e) : JJ cx A n m fm e := jj v (t_value v he) hc hk
theorem jjc {m : ME} {fm : Fm} {elt : Expr} {gens : List Comprehension} {scope : Scope} {pos : Pos} (i : JC cx A n m fm (.ListComp elt gens scope pos)) : JJ cx A n m fm (.ListComp elt gens scope pos) := ⟨jc_value i, t_value (jc_value i) fun _ _ => rfl, fun _ => i, rfl⟩
structure JR (cx : Cx) (A : Around) (n : Nat) (ms : MEs) (fm : Fm) (es : List Expr) : Prop where
  l : JL cx A n ms fm es
  b : ∀ op, JB cx A n op ms fm es
  u : ∀ op, JU cx A n op ms fm es
  one : ∀ m e, ms = .cons m .nil → es = [e] → JE cx A n m fm e
  ks : ∀ e ∈ es, kindOK e = true

theorem tests_of {fm : Fm} {c : ME} {ifs : List Expr} (h : (ifs.isEmpty && isTrueM c || l1 ifs fun i => chkE T c fm.env.scope fm.names i) = true) (i : ∀ e, chkE T c fm.env.scope fm.names e = true → JJ cx A n c fm e) : CTests cx A n c fm ifs := by
  rcases or2 h with h | h
  · obtain ⟨h1, h2⟩ := and2 h; exact .inl ⟨nil_of h1, h2⟩
  · obtain ⟨e, h1, h2⟩ := l1_inv h; exact .inr ⟨e, h1, (i e h2).t⟩
theorem zero_of {m : ME} (h : isZeroM m = true) : m = .cint 0 := by
  cases m <;> first | (rw [eq_of_beq (show (_ == (0 : Int)) = true from h)]) | exact (Bool.false_ne_true h).elim
theorem none_of {m : ME} (h : isNoneM m = true) : m = .cnone := by
  cases m <;> first | rfl | exact (Bool.false_ne_true h).elim
theorem rng_of {fm : Fm} {a b : ME} {as : List Expr} (h : ((l1 as fun q => isZeroM a && chkE T b fm.env.scope fm.names q) || l2 as fun p q => chkE T a fm.env.scope fm.names p && chkE T b fm.env.scope fm.names q) = true)
    (ia : ∀ e, chkE T a fm.env.scope fm.names e = true → JJ cx A n a fm e) (ib : ∀ e, chkE T b fm.env.scope fm.names e = true → JJ cx A n b fm e) : RngArgs cx A n fm a b as := by
  rcases or2 h with h | h
  · obtain ⟨e, h1, h2⟩ := l1_inv h
    obtain ⟨h2, h3⟩ := and2 h2
    exact .inl ⟨e, h1, zero_of h2, (ib e h3).k, (ib e h3).v⟩
  · obtain ⟨e, e', h1, h2⟩ := l2_inv h
    obtain ⟨h2, h3⟩ := and2 h2
    exact .inr ⟨e, e', h1, (ia e h2).k, (ib e' h3).k, (ia e h2).v, (ib e' h3).v⟩

theorem notB {b : Bool} (h : (!b) = true) : b = false := by cases b; rfl; cases h
mutual
theorem sE (C : cx.OK) (TO : T.OK cx) (hA : AOK0 A n) (hh : T.q = false → A.handled = none) : ∀ (m : ME) (fm : Fm) (e : Expr), fm.OK cx A → chkE T m fm.env.scope fm.names e = true → JJ cx A n m fm e
  | .cint i, fm, e, W, h => by
    obtain ⟨c, k, p, rfl, h1⟩ := vConst_inv h; exact jj1 rfl rfl (fun _ _ => rfl) (j_int h1)
  | .cbool b, fm, e, W, h => by
    obtain ⟨c, k, p, rfl, h1⟩ := vConst_inv h; exact jj1 rfl rfl (fun _ _ => rfl) (j_bool h1)
  | .cnone, fm, e, W, h => by
    obtain ⟨c, k, p, rfl, h1⟩ := vConst_inv h; exact jj1 rfl rfl (fun _ _ => rfl) (j_none h1)
  | .cstr x, fm, e, W, h => by
    obtain ⟨c, k, p, rfl, h1⟩ := vConst_inv h; exact jj1 rfl rfl (fun _ _ => rfl) (j_str h1)
  | .loc i, fm, e, W, h => by
    replace h := vName_inv h
    obtain ⟨x, p, rfl, h1⟩ := h
    replace h1 := and2 h1
    obtain ⟨h2, h3⟩ := h1
    exact jj1 rfl rfl (fun _ _ => rfl) (j_loc W h2 (eq_of_beq h3))
  | .bin op l r, fm, e, W, h => by
    replace h := vBin_inv h
    obtain ⟨a, o, b, p, rfl, h1⟩ := h
    replace h1 := and2 h1
    obtain ⟨h2, h3⟩ := h1
    replace h3 := and2 h3
    obtain ⟨h3, h4⟩ := h3
    rw [eq_of_beq h2]
    exact jj1 rfl rfl (fun _ _ => rfl) (j_bin C hA (sE C TO hA hh l fm a W h3).v (sE C TO hA hh r fm b W h4).v)
  | .not m, fm, e, W, h => by
    replace h := vUn_inv h
    obtain ⟨o, a, p, rfl, h1⟩ := h
    replace h1 := and2 h1
    obtain ⟨h2, h3⟩ := h1
    rw [eq_of_beq h2]
    exact jj (j_not (sE C TO hA hh m fm a W h3).v) (t_not (sE C TO hA hh m fm a W h3).t) rfl rfl
  | .cmp l op r, fm, e, W, h => by
    replace h := vCmp_inv h
    obtain ⟨a, ops, cs, p, rfl, h1⟩ := h
    replace h1 := l1_inv h1
    obtain ⟨o, rfl, h2⟩ := h1
    replace h2 := l1_inv h2
    obtain ⟨b, rfl, h3⟩ := h2
    replace h3 := and2 h3
    obtain ⟨h4, h5⟩ := h3
    replace h5 := and2 h5
    obtain ⟨h5, h6⟩ := h5
    rw [eq_of_beq h4]
    have il := sE C TO hA hh l fm a W h5
    have ir := sE C TO hA hh r fm b W h6
    exact jj (j_cmp C hA ir.k il.v ir.v) (t_cmp C hA ir.k il.v ir.v) rfl rfl
  | .bop op ms, fm, e, W, h => by
    replace h := vBool_inv h
    obtain ⟨o, es, p, rfl, h1⟩ := h
    replace h1 := and2 h1
    obtain ⟨h2, h3⟩ := h1
    rw [eq_of_beq h2]
    have i := sEs C TO hA hh ms fm es W h3
    exact jj (fun E H μ s Q S h => i.b op E p H μ s Q S h) (fun E H μ s Q S h => wpAny_isTrue_BoolOp (i.u op E H μ s Q S h)) rfl rfl
  | .callf f ms, fm, e, W, h => by
    replace h := and2 h
    obtain ⟨h0, h⟩ := h
    have hA' : AOK A n := ⟨hA, hh (notB h0)⟩
    replace h := nameCall_inv h
    obtain ⟨x, np, as, p, rfl, h1⟩ := h
    replace h1 := and2 h1
    obtain ⟨h2, h3⟩ := h1
    replace h3 := and2 h3
    obtain ⟨h4, h5⟩ := h3
    replace h5 := and2 h5
    obtain ⟨h6, h7⟩ := h5
    cases as with
    | nil => cases h6
    | cons a r => cases ms with
      | nil => cases h7
      | cons m ms =>
        have i := sEs C TO hA hh (.cons m ms) fm (a :: r) W h7
        exact jj1 rfl rfl (fun _ _ => rfl) (j_callf C TO hA' W h2 (eq_of_beq h4) (i.ks a List.mem_cons_self) i.l)
  | .callb b ms, fm, e, W, h => by
    replace h := and2 h
    obtain ⟨h0, h⟩ := h
    replace h := nameCall_inv h
    obtain ⟨x, np, as, p, rfl, h1⟩ := h
    replace h1 := and2 h1
    obtain ⟨h2, h3⟩ := h1
    replace h3 := and2 h3
    obtain ⟨h4, h5⟩ := h3
    replace h5 := and2 h5
    obtain ⟨h6, h7⟩ := h5
    cases as with
    | nil => cases h6
    | cons a r => cases ms with
      | nil => cases h7
      | cons m ms =>
        have i := sEs C TO hA hh (.cons m ms) fm (a :: r) W h7
        exact jj1 rfl rfl (fun _ _ => rfl) (j_callb C TO hA W (fun e => hh (by rw [e] at h0; exact notB h0)) h2 (eq_of_beq h4) i.ks i.l)
  | .isi m t, fm, e, W, h => by
    replace h := nameCall_inv h
    obtain ⟨x, np, as, p, rfl, h1⟩ := h
    replace h1 := and2 h1
    obtain ⟨h2, h3⟩ := h1
    replace h3 := and2 h3
    obtain ⟨h4, h5⟩ := h3
    replace h5 := l2_inv h5
    obtain ⟨a, b, rfl, h6⟩ := h5
    replace h6 := and2 h6
    obtain ⟨h7, h8⟩ := h6
    replace h8 := vName_inv h8
    obtain ⟨y, tp, rfl, h9⟩ := h8
    replace h9 := and2 h9
    obtain ⟨h10, h11⟩ := h9
    rw [eq_of_beq h4] at h2 ⊢
    exact jj1 rfl rfl (fun _ _ => rfl) (j_isi C TO W h2 h10 (eq_of_beq h11) (sE C TO hA hh m fm a W h7).k (sE C TO hA hh m fm a W h7).v)
  | .app y o m, fm, e, W, h => by
    replace h := vCall_inv h
    obtain ⟨f, as, ks, p, rfl, h1⟩ := h
    replace h1 := and2 h1
    obtain ⟨h2, h3⟩ := h1
    replace h3 := vAttr_inv h3
    obtain ⟨b, x, ap, rfl, h4⟩ := h3
    replace h4 := and2 h4
    obtain ⟨h4, h5⟩ := h4
    replace h5 := and2 h5
    obtain ⟨h5, h6⟩ := h5
    replace h6 := and2 h6
    obtain ⟨h6, h7⟩ := h6
    replace h7 := l1_inv h7
    obtain ⟨a, rfl, h8⟩ := h7
    replace h4 := and2 h4
    obtain ⟨h9, h10⟩ := h4
    rw [nil_of h2, eq_of_beq h5]
    have i := sE C TO hA hh m fm a W h8
    exact jj1 rfl rfl (fun _ _ => rfl) (j_app C h9 h10 i.k (sE C TO hA hh o fm b W h6).v i.v)
  | .sub o i, fm, e, W, h => by
    replace h := vSub_inv h
    obtain ⟨a, b, p, rfl, h1⟩ := h
    replace h1 := and2 h1
    obtain ⟨h2, h3⟩ := h1
    exact jj1 rfl rfl (fun _ _ => rfl) (j_sub C (sE C TO hA hh i fm b W h3).k (sE C TO hA hh o fm a W h2).v (sE C TO hA hh i fm b W h3).v)
  | .slice o lo hi, fm, e, W, h => by
    replace h := vSub_inv h
    obtain ⟨a, b, p, rfl, h1⟩ := h
    replace h1 := and2 h1
    obtain ⟨h2, h3⟩ := h1
    replace h3 := vSlice_inv h3
    obtain ⟨x, y, z, p', rfl, h4⟩ := h3
    replace h4 := and2 h4
    obtain ⟨h5, h6⟩ := h4
    replace h6 := and2 h6
    obtain ⟨h7, h8⟩ := h6
    cases z with
    | some z => cases h5
    | none =>
      refine jj1 rfl rfl (fun _ _ => rfl) (j_slice C (sE C TO hA hh o fm a W h2).v ?_ ?_)
      · cases x with
        | none => exact .inl ⟨rfl, none_of h7⟩
        | some x => exact .inr ⟨x, rfl, (sE C TO hA hh lo fm x W h7).v⟩
      · cases y with
        | none => exact .inl ⟨rfl, none_of h8⟩
        | some y => exact .inr ⟨y, rfl, (sE C TO hA hh hi fm y W h8).v⟩
  | .list ms, fm, e, W, h => by
    replace h := vList_inv h
    obtain ⟨es, p, rfl, h1⟩ := h
    exact jj1 rfl rfl (fun _ _ => rfl) (j_list C (sEs C TO hA hh ms fm es W h1).l)
  | .tup ms, fm, e, W, h => by
    replace h := vTup_inv h
    obtain ⟨es, k, p, rfl, h1⟩ := h
    exact jj1 rfl rfl (fun _ _ => rfl) (j_tup C (sEs C TO hA hh ms fm es W h1).l)
  | .comp el it c, fm, e, W, h => by
    replace h := and2 h
    obtain ⟨h0, h⟩ := h
    have hA' : AOK A n := ⟨hA, hh (notB h0)⟩
    replace h := oneComp_inv h
    obtain ⟨elt, x, px, iter, ifs, scope, p, rfl, hs, h1⟩ := h
    replace h1 := and2 h1
    obtain ⟨h1, h2⟩ := h1
    replace h2 := and2 h2
    obtain ⟨h2, h3⟩ := h2
    refine jjc (jc_comp C hA' W (scopeOk_of hs) (sE C TO hA hh it fm iter W h2).k (fun fm' W' e1 e2 => ?_) (sE C TO hA hh it fm iter W h2).v)
    rw [← e1, ← e2] at h1 h3
    exact ⟨(sE C TO hA hh el fm' elt W' h1).v, tests_of h3 fun e he => sE C TO hA hh c fm' e W' he⟩
  | .compR el a b c, fm, e, W, h => by
    replace h := and2 h
    obtain ⟨h0, h⟩ := h
    have hA' : AOK A n := ⟨hA, hh (notB h0)⟩
    replace h := oneComp_inv h
    obtain ⟨elt, x, px, iter, ifs, scope, p, rfl, hs, h1⟩ := h
    replace h1 := and2 h1
    obtain ⟨a1, a2⟩ := h1
    replace a2 := and2 a2
    obtain ⟨a3, a4⟩ := a2
    replace a3 := nameCall_inv a3
    obtain ⟨y, np, as, ip, rfl, a5⟩ := a3
    replace a5 := and2 a5
    obtain ⟨a6, a7⟩ := a5
    replace a7 := and2 a7
    obtain ⟨a8, a9⟩ := a7
    have := eq_of_beq a8; subst this
    refine jjc (jc_compR C TO hA' W (scopeOk_of hs) a6 (fun fm' W' e1 e2 => ?_) (rng_of a9 (fun e he => sE C TO hA hh a fm e W he) fun e he => sE C TO hA hh b fm e W he))
    rw [← e1, ← e2] at a1 a4
    exact ⟨(sE C TO hA hh el fm' elt W' a1).v, tests_of a4 fun e he => sE C TO hA hh c fm' e W' he⟩
  | .neg m, fm, e, W, h => by
    replace h := vUn_inv h
    obtain ⟨o, a, p, rfl, h1⟩ := h
    replace h1 := and2 h1
    obtain ⟨h2, h3⟩ := h1
    rw [eq_of_beq h2]
    exact jj1 rfl rfl (fun _ _ => rfl) (j_neg (sE C TO hA hh m fm a W h3).v)
  | .cmp2 l o1 m o2 r, fm, e, W, h => by
    replace h := vCmp_inv h
    obtain ⟨a, ops, cs, p, rfl, h1⟩ := h
    replace h1 := l2_inv h1
    obtain ⟨q1, q2, rfl, h2⟩ := h1
    replace h2 := l2_inv h2
    obtain ⟨b, c, rfl, h3⟩ := h2
    replace h3 := and2 h3
    obtain ⟨h4, h5⟩ := h3
    replace h5 := and2 h5
    obtain ⟨h5, h6⟩ := h5
    replace h6 := and2 h6
    obtain ⟨h6, h7⟩ := h6
    replace h4 := and2 h4
    obtain ⟨h8, h9⟩ := h4
    rw [eq_of_beq h8, eq_of_beq h9]
    have il := sE C TO hA hh l fm a W h5
    have im := sE C TO hA hh m fm b W h6
    have ir := sE C TO hA hh r fm c W h7
    exact jj (j_cmp2 C hA ir.k il.v im.v ir.v) (t_cmp2 C hA ir.k il.v im.v ir.v) rfl rfl
  | .gint i, fm, e, W, h => by
    replace h := vName_inv h
    obtain ⟨x, p, rfl, h1⟩ := h
    replace h1 := and2 h1
    obtain ⟨h2, h3⟩ := h1
    exact jj1 rfl rfl (fun _ _ => rfl) (j_gint C TO W h2 (eq_of_beq h3))
  | .attr Cc i x, fm, e, W, h => by
    replace h := vAttr_inv h
    obtain ⟨o, y, p, rfl, h1⟩ := h
    replace h1 := and2 h1
    obtain ⟨h2, h3⟩ := h1
    replace h3 := and2 h3
    obtain ⟨a3, a4⟩ := h3
    replace a4 := vName_inv a4
    obtain ⟨z, np, rfl, h5⟩ := a4
    replace h5 := and2 h5
    obtain ⟨a5, a6⟩ := h5
    rw [eq_of_beq h2]
    exact jj1 rfl rfl (fun _ _ => rfl) (j_attr TO W a3 a5 (eq_of_beq a6))
  | .callm Cc x f i ms, fm, e, W, h => by
    replace h := and2 h
    obtain ⟨h0, h⟩ := h
    have hA' : AOK A n := ⟨hA, hh (notB h0)⟩
    replace h := vCall_inv h
    obtain ⟨g, as, ks, p, rfl, h1⟩ := h
    replace h1 := and2 h1
    obtain ⟨h2, h3⟩ := h1
    replace h3 := vAttr_inv h3
    obtain ⟨o, y, ap, rfl, h4⟩ := h3
    replace h4 := and2 h4
    obtain ⟨a4, a5⟩ := h4
    replace a4 := and2 a4
    obtain ⟨a6, a7⟩ := a4
    replace a5 := and2 a5
    obtain ⟨b5, b8⟩ := a5
    replace b8 := and2 b8
    obtain ⟨c8, c9⟩ := b8
    replace c8 := vName_inv c8
    obtain ⟨z, np, rfl, d1⟩ := c8
    replace d1 := and2 d1
    obtain ⟨d2, d3⟩ := d1
    replace c9 := and2 c9
    obtain ⟨e1, e2⟩ := c9
    rw [nil_of h2, eq_of_beq a7]
    have i := sEs C TO hA hh ms fm as W e2
    exact jj1 rfl rfl (fun _ _ => rfl) (j_callm TO hA' W a6 b5 d2 (eq_of_beq d3) (of_decide_eq_true e1) i.ks e2 i.l)
  | .mk Cc f ms, fm, e, W, h => by
    replace h := and2 h
    obtain ⟨h0, h⟩ := h
    have hA' : AOK A n := ⟨hA, hh (notB h0)⟩
    replace h := nameCall_inv h
    obtain ⟨x, np, as, p, rfl, h1⟩ := h
    replace h1 := and2 h1
    obtain ⟨h2, h3⟩ := h1
    replace h3 := and2 h3
    obtain ⟨h4, h5⟩ := h3
    replace h5 := and2 h5
    obtain ⟨h6, h7⟩ := h5
    cases as with
    | nil => cases h6
    | cons a r => cases ms with
      | nil => cases h7
      | cons m ms =>
        have i := sEs C TO hA hh (.cons m ms) fm (a :: r) W h7
        exact jj1 rfl rfl (fun _ _ => rfl) (j_mk C TO hA' W h2 h4 i.ks i.l)
  | .pop y o, fm, e, W, h => by
    replace h := vCall_inv h
    obtain ⟨f, as, ks, p, rfl, h1⟩ := h
    replace h1 := and2 h1
    obtain ⟨h2, h3⟩ := h1
    replace h2 := and2 h2
    obtain ⟨g1, g2⟩ := h2
    replace h3 := vAttr_inv h3
    obtain ⟨b, x, ap, rfl, h4⟩ := h3
    replace h4 := and2 h4
    obtain ⟨h4, h5⟩ := h4
    replace h5 := and2 h5
    obtain ⟨h5, h6⟩ := h5
    replace h4 := and2 h4
    obtain ⟨h9, h10⟩ := h4
    rw [eq_of_beq h5, nil_of g1, nil_of g2]
    exact jj1 rfl rfl (fun _ _ => rfl) (j_pop h9 h10 (sE C TO hA hh o fm b W h6).v)
  | .dsub o i, fm, e, W, h => by
    replace h := vSub_inv h
    obtain ⟨a, b, p, rfl, h1⟩ := h
    replace h1 := and2 h1
    obtain ⟨h2, h3⟩ := h1
    exact jj1 rfl rfl (fun _ _ => rfl) (j_dsub (sE C TO hA hh i fm b W h3).k (sE C TO hA hh o fm a W h2).v (sE C TO hA hh i fm b W h3).v)
  | .dnil, fm, e, W, h => by
    replace h := vDict_inv h
    obtain ⟨ks, vs, p, rfl, h1⟩ := h
    replace h1 := and2 h1
    obtain ⟨h2, h3⟩ := h1
    rw [nil_of h2, nil_of h3]
    exact jj1 rfl rfl (fun _ _ => rfl) (j_dnil C)
  | .done k v, fm, e, W, h => by
    replace h := vDict_inv h
    obtain ⟨ks, vs, p, rfl, h1⟩ := h
    replace h1 := l1_inv h1
    obtain ⟨x, rfl, h2⟩ := h1
    replace h2 := and2 h2
    obtain ⟨h2', h3⟩ := h2
    replace h3 := l1_inv h3
    obtain ⟨y, rfl, h4⟩ := h3
    cases x with
    | none => cases h2'
    | some x =>
      obtain ⟨c, ck, cp, rfl, h5⟩ := vConst_inv h2'
      exact jj1 rfl rfl (fun _ _ => rfl) (j_done C h5 (sE C TO hA hh v fm y W h4).v)
theorem sEs (C : cx.OK) (TO : T.OK cx) (hA : AOK0 A n) (hh : T.q = false → A.handled = none) : ∀ (ms : MEs) (fm : Fm) (es : List Expr), fm.OK cx A → chkEs T ms fm.env.scope fm.names es = true → JR cx A n ms fm es
  | .nil, fm, es, W, h => by
    have := nil_of h; subst this
    exact ⟨jl_nil, fun _ _ _ _ _ _ _ _ h => False.elim h, fun _ _ _ _ _ _ _ h => False.elim h, fun _ _ q => (by cases q), fun e he => by cases he⟩
  | .cons m .nil, fm, es, W, h => by
    obtain ⟨e, r, rfl, h1, h2⟩ := chkEs_cons h
    have := nil_of h2; subst this
    have i := sE C TO hA hh m fm e W h1
    exact ⟨jl_cons i.k i.v jl_nil, fun _ => jb_one i.v, fun _ => ju_one i.t, fun _ _ q q' => (by cases q; cases q'; exact i.v), fun e he => by rw [List.mem_singleton.mp he]; exact i.k⟩
  | .cons m (.cons m' ms), fm, es, W, h => by
    obtain ⟨e, r, rfl, h1, h2⟩ := chkEs_cons h
    have i := sE C TO hA hh m fm e W h1
    have ir := sEs C TO hA hh (.cons m' ms) fm r W h2
    obtain ⟨e', r', rfl, _, _⟩ := chkEs_cons h2
    refine ⟨jl_cons i.k i.v ir.l, fun op => jb_more i.v (ir.b op), fun op => ju_more i.t (ir.u op), fun _ _ q => (by cases q), fun x hx => ?_⟩
    rcases List.mem_cons.mp hx with rfl | hx
    · exact i.k
    · exact ir.ks x hx
end
end
end Mine
end

section
namespace Mine
open PySem PyProof.Rows PySem.W

section
variable {cx : Cx} {H H' : HP} {s s' : Shared} {l : List Env} {e C T : Addr} {h' : Heap} {A : Around} {E : Value → Shared → Prop} {M : Model} {env : Env}
noncomputable abbrev hid (h : Heap) (e T : Addr) (l : List Env) : Heap := hideAll h (e :: T :: l.filterMap (·.frame))
theorem fun_of (ff : FrL cx.base H' s'.heap l) : ∀ {l' : List Env}, (∀ x ∈ l', x ∈ l) → s'.heap.FunFrames (hid s'.heap e T l) l'
  | [], _ => trivial
  | x :: l', hl => by
    obtain ⟨k, L, o, es, ep, h1, _, _, h4, h5⟩ := ff x (hl x List.mem_cons_self)
    refine ⟨k, ⟨L, o, h1, hideAll_none _ (.tail _ (.tail _ (List.mem_filterMap.mpr ⟨x, hl x List.mem_cons_self, h1⟩))), h4, fun vs q => by rw [h5] at q; cases q⟩, fun_of ff fun y hy => hl y (List.mem_cons_of_mem _ hy)⟩
theorem trans_ok (S : HS cx H' s') (ff : FrL cx.base H' s'.heap l) (e1 : H' e = none) (t1 : H' T = none) (e2 : cx.base.get? e = none) (t2 : cx.base.get? T = none)
    (st : (hid s'.heap e T l).StaysIn h') (up : s'.heap.UpToSlots h') :
    HS cx H' { s' with heap := h' } ∧ (∀ b o, s'.heap.get? b = some o → b ≠ e → b ≠ T → ∃ o', h'.get? b = some o' ∧ SO o o') ∧ FrL cx.base H' h' l := by
  have frm : ∀ b, b ∈ l.filterMap (·.frame) → cx.base.get? b = none ∧ H' b = none ∧ ∃ o es ep, s'.heap.get? b = some o ∧ o.data = .dict es ep := fun b hb => by
    obtain ⟨x, hx, hf⟩ := List.mem_filterMap.mp hb
    obtain ⟨k, L, o, es, ep, h1, h2, h3, h4, h5⟩ := ff x hx
    rw [hf] at h1; cases h1
    exact ⟨h2, h3, o, es, ep, h4, h5⟩
  have ex : ∀ b o, s'.heap.get? b = some o → b ≠ e → b ≠ T → b ∉ l.filterMap (·.frame) → h'.get? b = some o := fun b o hb n1 n2 n3 =>
    st b o (hideAll_get _ hb (by simp only [List.mem_cons, not_or]; exact ⟨n1, n2, n3⟩))
  have sl : ∀ b o es ep, s'.heap.get? b = some o → o.data = .dict es ep → ∃ o', h'.get? b = some o' ∧ SO o o' := fun b o es ep hb hd => by
    obtain ⟨q, hq⟩ := up b o hb fun vs q => by rw [hd] at q; cases q
    exact ⟨_, hq, .inr ⟨⟨es, ep, hd⟩, q, rfl⟩⟩
  refine ⟨⟨fun a o ha => (S.hr a o ha).keep fun ob hb => ex a ob hb (fun q => by subst q; rw [e1] at ha; cases ha) (fun q => by subst q; rw [t1] at ha; cases ha) (fun q => by rw [(frm a q).2.1] at ha; cases ha),
    fun b o hb => ex b o (S.ext b o hb) (fun q => by subst q; rw [e2] at hb; cases hb) (fun q => by subst q; rw [t2] at hb; cases hb) (fun q => by rw [(frm b q).1] at hb; cases hb), S.low⟩, fun b o hb n1 n2 => ?_, fun x hx => ?_⟩
  · by_cases q : b ∈ l.filterMap (·.frame)
    · obtain ⟨_, _, o', es, ep, h4, h5⟩ := frm b q
      rw [hb] at h4; cases h4
      exact sl b o es ep hb h5
    · exact ⟨o, ex b o hb n1 n2 q, .refl o⟩
  · obtain ⟨k, L, o, es, ep, h1, h2, h3, h4, h5⟩ := ff x hx
    obtain ⟨o', h6, h7⟩ := sl L o es ep h4 h5
    exact ⟨k, L, o', es, ep, h1, h2, h3, h6, h7.data.trans h5⟩
theorem Kept.pass {ow : Addr → Prop} (k : Kept ow s H s' H') (hw : ∀ b o, s.heap.get? b = some o → H b = none → b ≠ e ∧ b ≠ T) (hb : ∀ b o, s'.heap.get? b = some o → b ≠ e → b ≠ T → ∃ o', h'.get? b = some o' ∧ SO o o') : Kept ow s H { s' with heap := h' } H' :=
  ⟨fun b o q n w => (let ⟨_, q1, s1⟩ := k.keep b o q n w; let ⟨n1, n2⟩ := hw b o q n; let ⟨o2, q2, s2⟩ := hb b _ q1 n1 n2; ⟨o2, q2, s1.trans s2⟩), k.dom, k.os, k.gens⟩
theorem ExcIn.ne (x : ExcIn cx.base s H H' s'.heap e C T) : ∀ b o, s.heap.get? b = some o → H b = none → b ≠ e ∧ b ≠ T := fun b o q n => ⟨fun z => by subst z; exact x.e0 o q n, fun z => by subst z; exact x.t0 o q n⟩
theorem exc_of (k : KE s H s' H') (S : HS cx H' s') (ff : FrL cx.base H' s'.heap l) (x : ExcIn cx.base s H H' s'.heap e C T) {a0 : Value} (tr : h'.TracedW (hid s'.heap e T l) e (.ref C) a0) (hl : h'.FunFrames (hid s'.heap e T l) l) : ∃ T', ExcIn cx.base s H H' h' e C T' ∧ T' ≠ e := by
  obtain ⟨oe, vs, T', oT, ts, h1, ⟨h2, h3⟩, h4, h5, h6, h7, h8, h9, h10⟩ := tr
  refine ⟨T', ?_, h7⟩
  have nofr : T' ∉ l.filterMap (·.frame) := fun q => by
    obtain ⟨_, o, q1, q2⟩ := hl.mem q
    rw [h8] at q1; cases q1; exact q2 ts h9
  have new : T' ≠ T → s'.heap.get? T' = none := fun n => by
    cases q : s'.heap.get? T' with
    | none => rfl
    | some o =>
      rw [hideAll_get _ q (by simp only [List.mem_cons, not_or]; exact ⟨h7, n, nofr⟩)] at h6; cases h6
  by_cases q : T' = T
  · subst q
    exact ⟨x.e0, x.t0, x.e1, x.t1, x.e2, x.t2, oe, vs, a0, h1, h2, h4, h3, .inr ⟨oT, ts, h5, h7, h8, h9, h10⟩⟩
  · have n := new q
    exact ⟨x.e0, fun o q1 q2 => (by obtain ⟨o', q3, _⟩ := k.keep T' o q1 q2 id; rw [n] at q3; cases q3), x.e1, S.none_of n, x.e2, S.base_none n, oe, vs, a0, h1, h2, h4, h3, .inr ⟨oT, ts, h5, h7, h8, h9, h10⟩⟩
theorem leave_ok {outer : List Env} {L : Addr} (hfr : A.frames = some (env :: outer)) (hf : env.frame = some L) (k : KE s H s' H') (S : HS cx H' s') (ff : FrL cx.base H' s'.heap (env :: outer)) (x : ExcIn cx.base s H H' s'.heap e C T) {Q : Unit → Shared → Prop}
    (hQ : ∀ h'' T', HS cx H' { s' with heap := h'' } → KE s H { s' with heap := h'' } H' → ExcIn cx.base s H H' h'' e C T' → T' ≠ e → Q () { s' with heap := h'' }) : wpAny M A (leaving env (.ref e)) Q E s' := by
  have fin : ∀ h'' a0, Heap.LeftW (hid s'.heap e T (env :: outer)) (env :: outer) e (.ref C) a0 s'.heap h'' → Q () { s' with heap := h'' } := fun h'' a0 ⟨k1, k2, k3, k4⟩ => by
    obtain ⟨S2, hb, _⟩ := trans_ok (T := T) S ff x.e1 x.t1 x.e2 x.t2 k1 k4
    obtain ⟨T', x', nT⟩ := exc_of k S ff x k3 k2
    exact hQ h'' T' S2 (k.pass x.ne hb) x' nT
  obtain ⟨oe, vs, a0, h1, h2, h3, h4, h5⟩ := x.at_
  have hen : (hid s'.heap e T (env :: outer)).get? e = none := hideAll_none _ (.head _)
  have hst : (hid s'.heap e T (env :: outer)).StaysIn s'.heap := fun b o q => of_hideAll _ q
  rcases h5 with ⟨h5, _⟩ | ⟨oT, ts, h5, h6, h7, h8, h9⟩
  · exact wpAny_leaving_firstW hfr (fun_of ff fun _ q => q) hf h1 hst hen h3 h5 h4 fun h'' hL => fin h'' a0 (by rw [h2] at hL; exact hL)
  · exact wpAny_leaving_nextW (cls := .ref C) (a0 := a0) hfr (fun_of ff fun _ q => q) hf ⟨oe, vs, T, oT, ts, h1, ⟨h2, h4⟩, h3, h5, hideAll_none _ (.tail _ (.head _)), h6, h7, h8, h9⟩ hst hen fun h'' hL => fin h'' a0 hL
theorem catch_ok {prog : Program} {w : World} {outer : List Env} {L : Addr} (hfr : A.frames = some (env :: outer)) (hf : env.frame = some L) (k : KE s H s' H') (S : HS cx H' s') (ff : FrL cx.base H' s'.heap (env :: outer)) (x : ExcIn cx.base s H H' s'.heap e C T) (hT : T ≠ e)
    {t : Expr} {b₀ : Stmt} {suite : List Stmt} {pos : Pos} {rest : List ExceptHandler} {Q : Flow → Shared → Prop} (hC : ExcCls C cx.base)
    (ht : ∀ (E : Value → Shared → Prop) (s₁ : Shared) (Q : Value → Shared → Prop), HS cx H' s₁ → Q (.ref C) s₁ → wpAny (model prog w) (A.mark (some (.ref e))) (eval t env) Q E s₁)
    (hQ : ∀ (E : Value → Shared → Prop) h₁, HS cx H' { s' with heap := h₁ } → KE s H { s' with heap := h₁ } H' → wpAny (model prog w) (A.mark (some (.ref e))) (execs (b₀ :: suite) env) Q E { s' with heap := h₁ }) :
    wpAny (model prog w) A (noteFrame (.ref e) env) (fun _ s₂ => wpAny (model prog w) A (setFlight (.ref e) none) (fun _ s₃ => wpAny (model prog w) A (handleBy (.ref e) env (.ExceptHandler (some t) none (b₀ :: suite) pos :: rest)) Q E s₃) E s₂) E s' := by
  obtain ⟨oe, vs, a0, h1, h2, h3, h4, h5⟩ := x.at_
  rcases h5 with ⟨_, h5⟩ | ⟨oT, ts, h5, h6, h7, h8, h9⟩
  · exact absurd h5 hT
  have fl : Heap.FlyingW (hid s'.heap e T (env :: outer)) (env :: outer) e (.ref C) a0 s'.heap :=
    ⟨fun b o q => of_hideAll _ q, hideAll_none _ (.head _), fun_of ff fun _ q => q, oe, vs, T, oT, ts, h1, ⟨h2, h4⟩, h3, h5, hideAll_none _ (.tail _ (.head _)), h6, h7, h8, h9⟩
  refine wpAny_looks_onW hfr hf fl fun h₄ held₄ u₄ => wpAny_landsW held₄ fun h₅ fl₅ u₅ => ?_
  have u45 := u₄.trans u₅
  obtain ⟨S5, _, _⟩ := trans_ok (T := T) S ff x.e1 x.t1 x.e2 x.t2 fl₅.1 u45
  refine handleBy_own (x := "") (mg := fun _ => some (.ref C)) (bmB := bmV) (newId := "ValueError.__new__") rfl (ht _ _ _ S5 ⟨rfl, hC.keeps S5.ext, fl₅.there, lands_againW fl₅ fun h₆ fl₆ u₆ => ?_⟩)
  obtain ⟨S6, hb, _⟩ := trans_ok (T := T) S ff x.e1 x.t1 x.e2 x.t2 fl₆.1 (u45.trans u₆)
  exact hQ _ h₆ S6 (k.pass x.ne hb)
end

end Mine
end

section
namespace Mine
open PySem PyProof.Rows PySem.SeqAt

noncomputable def wAsg (st : Stmt) (k : List Expr → Expr → Bool) : Bool := match st with
  | .Assign ts v _ => k ts v
  | _ => false
theorem wAsg_inv {st : Stmt} {k : List Expr → Expr → Bool} (h : wAsg st k = true) : ∃ ts v p, st = .Assign ts v p ∧ k ts v = true := by cases st <;> first | exact ⟨_, _, _, rfl, h⟩ | exact (Bool.false_ne_true h).elim
noncomputable def wExpr (st : Stmt) (k : Expr → Bool) : Bool := match st with
  | .Expr v _ => k v
  | _ => false
theorem wExpr_inv {st : Stmt} {k : Expr → Bool} (h : wExpr st k = true) : ∃ v p, st = .Expr v p ∧ k v = true := by cases st <;> first | exact ⟨_, _, rfl, h⟩ | exact (Bool.false_ne_true h).elim
noncomputable def wIf (st : Stmt) (k : Expr → List Stmt → List Stmt → Bool) : Bool := match st with
  | .If c t e _ => k c t e
  | _ => false
theorem wIf_inv {st : Stmt} {k : Expr → List Stmt → List Stmt → Bool} (h : wIf st k = true) : ∃ c t e p, st = .If c t e p ∧ k c t e = true := by cases st <;> first | exact ⟨_, _, _, _, rfl, h⟩ | exact (Bool.false_ne_true h).elim
noncomputable def wFor (st : Stmt) (k : Expr → Expr → List Stmt → List Stmt → Bool) : Bool := match st with
  | .For tg it b o _ => k tg it b o
  | _ => false
theorem wFor_inv {st : Stmt} {k : Expr → Expr → List Stmt → List Stmt → Bool} (h : wFor st k = true) : ∃ tg it b o p, st = .For tg it b o p ∧ k tg it b o = true := by cases st <;> first | exact ⟨_, _, _, _, _, rfl, h⟩ | exact (Bool.false_ne_true h).elim
noncomputable def wWhile (st : Stmt) (k : Expr → List Stmt → List Stmt → Bool) : Bool := match st with
  | .While c b o _ => k c b o
  | _ => false
theorem wWhile_inv {st : Stmt} {k : Expr → List Stmt → List Stmt → Bool} (h : wWhile st k = true) : ∃ c b o p, st = .While c b o p ∧ k c b o = true := by cases st <;> first | exact ⟨_, _, _, _, rfl, h⟩ | exact (Bool.false_ne_true h).elim
noncomputable def wRet (st : Stmt) (k : Option Expr → Bool) : Bool := match st with
  | .Return v _ => k v
  | _ => false
theorem wRet_inv {st : Stmt} {k : Option Expr → Bool} (h : wRet st k = true) : ∃ v p, st = .Return v p ∧ k v = true := by cases st <;> first | exact ⟨_, _, rfl, h⟩ | exact (Bool.false_ne_true h).elim

theorem so_inv {α : Type} {o : Option α} {k : α → Bool} (h : so o k false = true) : ∃ a, o = some a ∧ k a = true := by
  cases o with
  | none => cases h
  | some a => exact ⟨a, rfl, h⟩
noncomputable def wRaise0 (st : Stmt) (k : Option Expr → Option Expr → Bool) : Bool := match st with
  | .Raise a b _ => k a b
  | _ => false
theorem wRaise0_inv {st : Stmt} {k : Option Expr → Option Expr → Bool} (h : wRaise0 st k = true) : ∃ a b p, st = .Raise a b p ∧ k a b = true := by cases st <;> first | exact ⟨_, _, _, rfl, h⟩ | exact (Bool.false_ne_true h).elim
noncomputable def wRaise (st : Stmt) (k : Str → Expr → Bool) : Bool := wRaise0 st fun a b => b.isNone && so a (fun e => nameCall e fun x as => l1 as fun a => k x a) false
theorem wRaise_inv {st : Stmt} {k : Str → Expr → Bool} (h : wRaise st k = true) : ∃ x np a cp p, st = .Raise (some (.Call (.Name x np) [a] [] cp)) none p ∧ k x a = true := by
  obtain ⟨a, b, p, rfl, h⟩ := wRaise0_inv h
  obtain ⟨h1, h2⟩ := and2 h
  obtain ⟨e, rfl, h2⟩ := so_inv h2
  obtain ⟨x, np, as, cp, rfl, h3⟩ := nameCall_inv h2
  obtain ⟨a, rfl, h4⟩ := l1_inv h3
  cases b with
  | none => exact ⟨_, _, _, _, _, rfl, h4⟩
  | some _ => cases h1
noncomputable def wTry0 (st : Stmt) (k : List Stmt → List ExceptHandler → List Stmt → List Stmt → Bool) : Bool := match st with
  | .Try a b c d _ => k a b c d
  | _ => false
theorem wTry0_inv {st : Stmt} {k : List Stmt → List ExceptHandler → List Stmt → List Stmt → Bool} (h : wTry0 st k = true) : ∃ a b c d p, st = .Try a b c d p ∧ k a b c d = true := by cases st <;> first | exact ⟨_, _, _, _, _, rfl, h⟩ | exact (Bool.false_ne_true h).elim
noncomputable def wHan (h : ExceptHandler) (k : Option Expr → Option Str → List Stmt → Bool) : Bool := match h with
  | .ExceptHandler t n b _ => k t n b
theorem wHan_inv {h : ExceptHandler} {k : Option Expr → Option Str → List Stmt → Bool} (e : wHan h k = true) : ∃ t n b p, h = .ExceptHandler t n b p ∧ k t n b = true := by cases h; exact ⟨_, _, _, _, rfl, e⟩
noncomputable def isConsM : MEs → Bool
  | .nil => false
  | .cons _ _ => true
noncomputable def chkX (T : Tbl) (k : XK) (ms : MEs) (sc : Scope) (nm : List (Option Str)) (e : Expr) : Bool := match k with
  | .fn f => isConsM ms && chkE T (.callf f ms) sc nm e
  | .mt C x f j => chkE T (.callm C x f j ms) sc nm e
  | .mk C f => chkE T (.mk C f ms) sc nm e

noncomputable def chkA (T : Tbl) (d : Option Nat) (k : XK) (ms : MEs) (sc : Scope) (nm : List (Option Str)) (st : Stmt) : Bool := match d with
  | some i => wAsg st fun ts v => l1 ts fun t => vName t fun x => nm[i]? == some (some x) && chkX T k ms sc nm v
  | none => wExpr st fun v => chkX T k ms sc nm v
noncomputable def chkT (T : Tbl) : TB → Scope → List (Option Str) → List Stmt → Bool
  | .act d k ms, sc, nm, ss => l1 ss fun st => chkA T d k ms sc nm st
  | .ite c t e, sc, nm, ss => l1 ss fun st => wIf st fun d a b => chkE T c sc nm d && (chkT T t sc nm a && chkT T e sc nm b)
noncomputable def chkH (T : Tbl) (K : Addr) (h : ME) (sc : Scope) (nm : List (Option Str)) (x : ExceptHandler) : Bool :=
  wHan x fun t y b => (y.isNone && so t (fun t => vName t fun c => isGlob sc c && T.exs.lookup c == some K) false) && l1 b fun st => wRet st fun v => so v (fun e => chkE { T with q := true } h sc nm e) false
mutual
noncomputable def chkS (T : Tbl) : MS → Scope → List (Option Str) → Stmt → Bool
  | .assign i m, sc, nm, st => wAsg st fun ts v => l1 ts fun t => vName t fun x => nm[i]? == some (some x) && chkE T m sc nm v
  | .setSub o i m, sc, nm, st => wAsg st fun ts v => l1 ts fun t => vSub t fun a b => !isComp v && (chkE T m sc nm v && (chkE T o sc nm a && chkE T i sc nm b))
  | .expr m, sc, nm, st => wExpr st fun v => !isComp v && chkE T m sc nm v
  | .ite c t e, sc, nm, st => wIf st fun d a b => chkE T c sc nm d && (chkSs T t sc nm a && chkSs T e sc nm b)
  | .for_ i m b, sc, nm, st => !T.q && wFor st fun tg it bd o => o.isEmpty && (chkSs T b sc nm bd && (chkE T m sc nm it && vName tg fun x => nm[i]? == some (some x)))
  | .forR i a c b, sc, nm, st => !T.q && wFor st fun tg it bd o => o.isEmpty && (chkSs T b sc nm bd && ((vName tg fun x => nm[i]? == some (some x)) && nameCall it fun y as => isGlob sc y && (y == ("range" : Str) &&
      ((l1 as fun q => isZeroM a && chkE T c sc nm q) || l2 as fun p q => chkE T a sc nm p && chkE T c sc nm q))))
  | .while_ c b, sc, nm, st => !T.q && wWhile st fun d bd o => o.isEmpty && (chkE T c sc nm d && chkSs T b sc nm bd)
  | .ret m, sc, nm, st => wRet st fun v => so v (fun e => chkE T m sc nm e) false
  | .setAttr C i x m, sc, nm, st => wAsg st fun ts v => l1 ts fun t => vAttr t fun o y _ => (y == x && T.ats.contains (C, x)) && (!isComp v && (chkE T m sc nm v && vName o fun z => !(z == ("__debug__" : Str)) && nm[i]? == some (some z)))
  | .raiseS C m, sc, nm, st => !T.q && wRaise st fun x a => isGlob sc x && (T.exs.lookup x == some C && chkE T m sc nm a)
  | .xdo d k ms, sc, nm, st => chkA T d k ms sc nm st
  | .setD o i m, sc, nm, st => wAsg st fun ts v => l1 ts fun t => vSub t fun a b => !isComp v && (chkE T m sc nm v && (chkE T o sc nm a && chkE T i sc nm b))
  | .try_ b K h, sc, nm, st => !T.q && wTry0 st fun bd hd o f => (o.isEmpty && f.isEmpty) && (chkT T b sc nm bd && l1 hd fun x => chkH T K h sc nm x)
noncomputable def chkSs (T : Tbl) : MSs → Scope → List (Option Str) → List Stmt → Bool
  | .nil, _, _, ss => ss.isEmpty
  | .cons m ms, sc, nm, ss => match ss with
    | s :: r => chkS T m sc nm s && chkSs T ms sc nm r
    | [] => false
end

noncomputable def SP (cx : Cx) (fm : Fm) (s : Shared) (H : HP) (N : List V → HP → Prop) (R : V → HP → Prop) : Flow → Shared → Prop := fun f s' =>
  ∃ H' μ', SR cx fm H' μ' s' ∧ Kept fm.own s H s' H' ∧ (match f with | .next => N μ' H' | .ret v => R (abs v) H' | _ => False)
structure XM (cx : Cx) (A : Around) (fm : Fm) (R : V → HP → Prop) (E : Value → Shared → Prop) (s : Shared) (H : HP) : Prop where
  x : ∀ (e C T : Addr) (H' : HP) (μ' : List V) (s' : Shared), SR cx fm H' μ' s' → Kept fm.own s H s' H' → ExcIn cx.base s H H' s'.heap e C T → ¬ fm.own e → ¬ fm.own T → R (.exc C) H' → E (.ref e) s'
  p : PassesOwn (model cx.prog cx.w) A fm.env E
theorem XM.from {cx : Cx} {A : Around} {fm : Fm} {R : V → HP → Prop} {E : Value → Shared → Prop} {s s₁ : Shared} {H H₁ : HP} (X : XM cx A fm R E s H) (k : Kept fm.own s H s₁ H₁) : XM cx A fm R E s₁ H₁ := ⟨fun e C T H' μ' s' S' k' x n1 n2 r =>
  X.x e C T H' μ' s' S' (k.trans k') ⟨fun o q q2 => (let ⟨o', e1, _⟩ := k.keep e o q q2 n1; x.e0 o' e1 (k.dom e o q q2 n1)), fun o q q2 => (let ⟨o', e1, _⟩ := k.keep T o q q2 n2; x.t0 o' e1 (k.dom T o q q2 n2)), x.e1, x.t1, x.e2, x.t2, x.at_⟩ n1 n2 r, X.p⟩
noncomputable def JS (cx : Cx) (A : Around) (n : Nat) (m : MS) (fm : Fm) (st : Stmt) : Prop := ∀ (E : Value → Shared → Prop) (H : HP) (μ : List V) (s : Shared) (N : List V → HP → Prop) (R : V → HP → Prop),
  SR cx fm H μ s → XM cx A fm R E s H → mwpS cx n m μ H N R → wpAny (model cx.prog cx.w) A (exec st fm.env) (SP cx fm s H N R) E s
noncomputable def JSs (cx : Cx) (A : Around) (n : Nat) (m : MSs) (fm : Fm) (ss : List Stmt) : Prop := ∀ (E : Value → Shared → Prop) (H : HP) (μ : List V) (s : Shared) (N : List V → HP → Prop) (R : V → HP → Prop),
  SR cx fm H μ s → XM cx A fm R E s H → mwpSs cx n m μ H N R → wpAny (model cx.prog cx.w) A (execs ss fm.env) (SP cx fm s H N R) E s

section
variable {cx : Cx} {T : Tbl} {A : Around} {E : Value → Shared → Prop} {n : Nat} {fm : Fm}

theorem sp_from {s s₁ : Shared} {H H₁ : HP} {N : List V → HP → Prop} {R : V → HP → Prop} {M : Model} {t : Sem Flow} (k : Kept fm.own s H s₁ H₁) (h : wpAny M A t (SP cx fm s₁ H₁ N R) E s₁) : wpAny M A t (SP cx fm s H N R) E s₁ :=
  wpAny_mono h (fun _ _ ⟨H', μ', a, b, c⟩ => ⟨H', μ', a, k.trans b, c⟩) fun _ _ e => e
theorem swaps_of {v : Expr} (h : isComp v = false) (hk : kindOK v = true) (t : Option Expr) (l : Nat) (env : Env) : swapsWith v t l env = pure false := by
  cases v <;> first | rfl | exact (Bool.false_ne_true hk).elim | exact (Bool.false_ne_true h.symm).elim
theorem swaps_comp (elt : Expr) (gens : List Comprehension) (scope : Scope) (p : Pos) (x : Str) (px : Pos) (l : Nat) (env : Env) : ∃ b, swapsWith (.ListComp elt gens scope p) (some (.Name x px)) l env = pure b := ⟨_, rfl⟩

theorem s_plain (W : fm.OK cx A) {m : ME} {v : Expr} {x : Str} {i : Nat} {px p : Pos} (hi : fm.names[i]? = some (some x)) (iv : JE cx A n m fm v) (hs : swapsWith v (some (.Name x px)) p.line fm.env = pure false) : JS cx A n (.assign i m) fm (.Assign [.Name x px] v p) := by
  intro E H μ s N R S X h
  refine wpAny_Assign_Name (ep_then (iv E H μ s _ S h) fun y s₁ H₁ S₁ k₁ h₁ => store_loc W (S.step S₁ k₁) hi fun s₂ S₂ k₂ => ?_) hs
  exact ⟨H₁, _, S₂, (k₁.any _).trans k₂, h₁⟩
theorem s_swap (W : fm.OK cx A) {m : ME} {elt : Expr} {gens : List Comprehension} {scope : Scope} {vp : Pos} {x : Str} {i : Nat} {px p : Pos} (hi : fm.names[i]? = some (some x)) (ic : JC cx A n m fm (.ListComp elt gens scope vp))
    (hs : swapsWith (.ListComp elt gens scope vp) (some (.Name x px)) p.line fm.env = pure true) : JS cx A n (.assign i m) fm (.Assign [.Name x px] (.ListComp elt gens scope vp) p) := by
  intro E H μ s N R S X h
  rw [exec_Assign_Name_used _ _ _ _ hs]
  refine wpAny_bind (wpAny_standAt (wpAny_bind ?_))
  show wpAny _ A (do let _ ← comprehension (.ListComp elt gens scope vp) scope fm.env _ (newList []) (firstAsync gens) (firstIter gens fm.env) (some (assign (.Name x px) fm.env))) _ _ s
  refine wpAny_bind (wpAny_mono (ic _ H μ s _ _ _ (fun _ s' => SP cx fm s H N R .next s') elt gens scope vp rfl S h ?_) (fun _ s' hq => wpAny_pure (wpAny_pure hq)) fun _ _ e => e)
  intro D Ca s' H' S' k hQ hCa hbase hf hns
  show wpAny _ A (assign (.Name x px) fm.env (.ref D)) _ _ _
  refine wpAny_assign_Name (store_loc W (S.step S' k) hi fun s₂ S₂ k₂ => ?_)
  have hown : ¬ fm.own Ca := fun q => by rw [W.above Ca q] at hbase; exact absurd (S.fr.live Ca q) (by
    rintro ⟨o, e⟩
    cases e2 : H Ca with
    | none => exact hf o e e2
    | some oo => exact S.own Ca oo e2 q)
  obtain ⟨m, hm⟩ := hns
  have hm₂ : s₂.heap.Ns Ca m := Ns.so hm fun o e => k₂.keep Ca o e hCa hown
  have hfr : ¬ fm.fr Ca := fun ⟨e, he, hff⟩ => by
    obtain ⟨_, L, o, _, _, q1, _, q3, q4, _⟩ := S.ff e he
    rw [hff] at q1; cases q1; exact hf o q4 q3
  refine ⟨m, hm₂, fun h' sb => ?_⟩
  have S₃ : SR cx fm H' (setL μ i (.ref D)) { s₂ with heap := h' } := S₂.aside hCa hown hfr hbase sb.extBut s₂.toks
  have k₃ := (k.any fm.own).trans k₂
  exact ⟨H', _, S₃, ⟨fun b o e hn hw => (let ⟨o', e', so⟩ := k₃.keep b o e hn hw; ⟨o', sb.extBut b o' (fun q => by subst q; exact hf o e hn) e', so⟩), k₃.dom, k₃.os, k₃.gens⟩, hQ⟩
theorem s_asg (W : fm.OK cx A) {m : ME} {v : Expr} {x : Str} {i : Nat} {px p : Pos} (hi : fm.names[i]? = some (some x)) (kv : kindOK v = true) (iv : JJ cx A n m fm v) : JS cx A n (.assign i m) fm (.Assign [.Name x px] v p) := by
  cases hv : isComp v with
  | false => exact s_plain W hi iv.v (swaps_of hv kv _ _ _)
  | true =>
    have ic := iv.c hv
    cases v <;> first | exact (Bool.false_ne_true hv).elim | skip
    rename_i elt gens scope vp
    obtain ⟨b, hb⟩ := swaps_comp elt gens scope vp x px p.line fm.env
    cases b with
    | false => exact s_plain W hi iv.v hb
    | true => exact s_swap W hi ic hb
theorem s_sub {o i m : ME} {a b v : Expr} {sp p : Pos} (hc : isComp v = false) (kv : kindOK v = true) (iv : JE cx A n m fm v) (io : JE cx A n o fm a) (ii : JE cx A n i fm b) : JS cx A n (.setSub o i m) fm (.Assign [.Subscript a b sp] v p) := by
  intro E H μ s N R S X h
  refine wpAny_Assign_Subscript (ep_then (iv E H μ s _ S h) fun vv s₁ H₁ S₁ k₁ h₁ => ep_then (io E H₁ μ s₁ _ (S.step S₁ k₁) h₁) fun ov s₂ H₂ S₂ k₂ h₂ => ?_) (swaps_of hc kv _ _ _)
  have k12 := k₁.trans k₂
  refine ep_then (ii E H₂ μ s₂ _ (S.step S₂ k12) h₂) fun iv s₃ H₃ S₃ k₃ h₃ => wpAny_mono (setSub_ok S₃ h₃) (fun _ s₄ q => ?_) fun _ _ e => e
  obtain ⟨H₄, S₄, k₄, h₄⟩ := q
  have k := k12.trans (k₃.trans k₄)
  exact ⟨H₄, μ, S.step S₄ k, KE.any k _, h₄⟩
theorem s_setDJ {o i m : ME} {a b v : Expr} {sp p : Pos} (hc : isComp v = false) (kv : kindOK v = true) (iv : JE cx A n m fm v) (io : JE cx A n o fm a) (ii : JE cx A n i fm b) : JS cx A n (.setD o i m) fm (.Assign [.Subscript a b sp] v p) := by
  intro E H μ s N R S X h
  refine wpAny_Assign_Subscript (ep_then (iv E H μ s _ S h) fun vv s₁ H₁ S₁ k₁ h₁ => ep_then (io E H₁ μ s₁ _ (S.step S₁ k₁) h₁) fun ov s₂ H₂ S₂ k₂ h₂ => ?_) (swaps_of hc kv _ _ _)
  have k12 := k₁.trans k₂
  refine ep_then (ii E H₂ μ s₂ _ (S.step S₂ k12) h₂) fun iv s₃ H₃ S₃ k₃ h₃ => wpAny_mono (setD_ok S₃ h₃) (fun _ s₄ q => ?_) fun _ _ e => e
  obtain ⟨H₄, S₄, k₄, h₄⟩ := q
  have k := k12.trans (k₃.trans k₄)
  exact ⟨H₄, μ, S.step S₄ k, KE.any k _, h₄⟩
theorem s_exp (W : fm.OK cx A) {m : ME} {v : Expr} {p : Pos} (hc : isComp v = false) (kv : kindOK v = true) (iv : JE cx A n m fm v) : JS cx A n (.expr m) fm (.Expr v p) := by
  intro E H μ s N R S X h
  refine wpAny_Expr_any (ep_then (iv E H μ s _ S h) fun vv s₁ H₁ S₁ k₁ h₁ => ?_) (by unfold interactive; rw [W.kind]; rfl) (swaps_of hc kv _ _ _)
  exact ⟨H₁, μ, S.step S₁ k₁, k₁.any _, h₁⟩
theorem s_retE {m : ME} {v : Expr} {p : Pos} (iv : JE cx A n m fm v) : JS cx A n (.ret m) fm (.Return (some v) p) := by
  intro E H μ s N R S X h
  refine wpAny_Return_some (ep_then (iv E H μ s _ S h) fun vv s₁ H₁ S₁ k₁ h₁ => ?_)
  exact ⟨H₁, μ, S.step S₁ k₁, k₁.any _, h₁⟩
theorem s_attrJ (TO : T.OK cx) (W : fm.OK cx A) {C : Addr} {i : Nat} {x z : Str} {m : ME} {v : Expr} {np ap p : Pos} (ht : T.ats.contains (C, x) = true) (hd : (!(z == ("__debug__" : Str))) = true) (hi : fm.names[i]? = some (some z)) (hc : isComp v = false) (kv : kindOK v = true) (iv : JE cx A n m fm v) :
    JS cx A n (.setAttr C i x m) fm (.Assign [.Attribute (.Name z np) x ap] v p) := by
  intro E H μ s N R S X h
  refine plainObj_wpAny_Assign_Attribute (ep_then (iv E H μ s _ S h) fun vv s₁ H₁ S₁ k₁ h₁ => name_ok W (S.step S₁ k₁) hd hi (ref_ne h₁) fun o ho => ?_) (swaps_of hc kv _ _ _)
  refine wpAny_mono (setAttr_ok TO.kin (TO.at_ C x ht) S₁ (by rw [ho]; exact h₁)) (fun _ s₂ q => ?_) fun _ _ e => e
  obtain ⟨H₂, S₂, k₂, h₂⟩ := q
  have k := k₁.trans k₂
  exact ⟨H₂, μ, S.step S₂ k, KE.any k _, h₂⟩
theorem ss_nilJ : JSs cx A n .nil fm [] := fun E H μ s N R S _ h => wpAny_execs_nil ⟨H, μ, S, Kept.refl _ _ _, h⟩
theorem ss_consJ {m : MS} {ms : MSs} {st : Stmt} {r : List Stmt} (i : JS cx A n m fm st) (ir : JSs cx A n ms fm r) : JSs cx A n (.cons m ms) fm (st :: r) := by
  intro E H μ s N R S X h
  refine wpAny_execs_cons (wpAny_mono (i E H μ s _ R S X h) (fun f s₁ q => ?_) fun _ _ e => e)
  obtain ⟨H₁, μ₁, S₁, k₁, h₁⟩ := q
  cases f with
  | next => exact sp_from k₁ (ir _ H₁ μ₁ s₁ N R S₁ (X.from k₁) h₁)
  | ret v => exact ⟨H₁, μ₁, S₁, k₁, h₁⟩
  | brk => exact h₁.elim
  | cont => exact h₁.elim
theorem s_if {c : ME} {t e : MSs} {d : Expr} {a b : List Stmt} {p : Pos} (ic : JT cx A n c fm d) (it : JSs cx A n t fm a) (ie : JSs cx A n e fm b) : JS cx A n (.ite c t e) fm (.If d a b p) := by
  intro E H μ s N R S X h
  refine wpAny_If (wpAny_mono (ic E H μ s (fun b' H => ifB b' (mwpSs cx n t μ H N R) (mwpSs cx n e μ H N R)) S h) (fun v s₁ q => ?_) fun _ _ e => e)
  obtain ⟨H₁, S₁, k₁, h₁⟩ := q
  cases v with
  | true => exact sp_from (k₁.any _) (it E H₁ μ s₁ N R (S.step S₁ k₁) (X.from (k₁.any _)) h₁)
  | false => exact sp_from (k₁.any _) (ie E H₁ μ s₁ N R (S.step S₁ k₁) (X.from (k₁.any _)) h₁)
theorem s_whileJ {c : ME} {b : MSs} {d : Expr} {bd : List Stmt} {p : Pos} (ic : JT cx A n c fm d) (ib : JSs cx A n b fm bd) : JS cx A n (.while_ c b) fm (.While d bd [] p) := by
  intro E H μ s N R S X h
  obtain ⟨I, ⟨k0, hI⟩, hstep⟩ := h
  refine wpAny_While (codeAny_whileLoop (fun k s' => ∃ μ' H', I k μ' H' ∧ SR cx fm H' μ' s' ∧ Kept fm.own s H s' H') ?_ k0 ⟨μ, H, hI, S, Kept.refl _ _ _⟩)
  rintro k s' ⟨μ', H', hI', S', k'⟩
  refine wpAny_mono (ic _ H' μ' s' (fun b' H₁ => ifB b' (mwpSs cx n b μ' H₁ (fun μ' H' => ∃ H₃, LE H₃ H' ∧ ∃ m, m < k ∧ I m μ' H₃) R) (N μ' H₁)) S' (hstep k μ' H' hI')) (fun v s₁ q => ?_) fun _ _ e => e
  obtain ⟨H₁, S₁, k₁, h₁⟩ := q
  have kk := k'.trans (k₁.any fm.own)
  cases v with
  | true =>
    refine wpAny_passesOwn X.p (wpAny_mono (ib E H₁ μ' s₁ _ R (S'.step S₁ k₁) (X.from kk) h₁) (fun f s₂ q => ?_) fun _ _ e => e)
    obtain ⟨H₂, μ₂, S₂, k₂, h₂⟩ := q
    cases f with
    | next =>
      obtain ⟨H₃, le, m, hm, hI3⟩ := h₂
      exact ⟨m, hm, μ₂, H₃, hI3, S₂.le le, (kk.trans k₂).le le⟩
    | ret v => exact ⟨H₂, μ₂, S₂, kk.trans k₂, h₂⟩
    | brk => exact h₂.elim
    | cont => exact h₂.elim
  | false => exact wpAny_execs_nil ⟨H₁, μ', S'.step S₁ k₁, kk, h₁⟩

theorem for_loop {fm : Fm} {H : HP} {μ : List V} {s : Shared} {N : List V → HP → Prop} {R : V → HP → Prop} (W : fm.OK cx A) {x : Str} {px : Pos} {i : Nat} (hi : fm.names[i]? = some (some x)) {body : List Stmt} {b : MSs} (ib : JSs cx A n b fm body)
    (X : XM cx A fm R E s H) {s₁ : Shared} {H₁ : HP} (S₁ : SR cx fm H₁ μ s₁) (k₁ : KE s H s₁ H₁) {it : Addr} {P : Nat → Heap → Prop} {ob : Obj} {items : List V} {st : HP → Prop} (I : ∀ E, Iter cx A E it items st P) (hf : s₁.heap.get? it = none) (hP : P 0 (s₁.heap.push ob))
    (hF : ForP items st μ H₁ (fun x μ H K => mwpSs cx n b (setL μ i x) H K R) N) :
    codeAny (model cx.prog cx.w) A (.forLoop (.Name x px) (.ref it) body [] fm.env) (fun r s' => match r with | .ok f => SP cx fm s H N R f s' | .error e => cameBackBy (model cx.prog cx.w) A fm.env E e s') { s₁ with heap := s₁.heap.push ob } := by
  obtain ⟨Inv, hI0, hst, hturn, hend⟩ := hF
  have kg : ∀ b o, s₁.heap.get? b = some o → (s₁.heap.push ob).get? b = some o := fun b o e => Heap.get?_push_of_some _ e
  have hown : ¬ fm.own it := fun q => by obtain ⟨o, e⟩ := S₁.fr.live it q; rw [hf] at e; cases e
  have hbase : cx.base.get? it = none := S₁.toHS.base_none hf
  have hfr : ¬ fm.fr it := fun ⟨e, he, hff⟩ => by
    obtain ⟨_, L, o, _, _, q1, _, _, q4, _⟩ := S₁.ff e he
    rw [hff] at q1; cases q1; rw [hf] at q4; cases q4
  refine codeAny_forLoop (fun k s' => ∃ done rest μ' H', items = done ++ rest ∧ k = rest.length ∧ Inv done μ' H' ∧ SR cx fm H' μ' s' ∧ Kept fm.own s H s' H' ∧ P done.length s'.heap ∧ H' it = none) ?_ items.length
    ⟨[], items, μ, H₁, rfl, rfl, hI0, S₁.step (S₁.toHS.grow kg _) (KE.grow kg _), KE.any (k₁.trans (KE.grow kg _)) _, hP, S₁.toHS.none_of hf⟩
  rintro k s' ⟨done, rest, μ', H', hitems, rfl, hInv, S', k', hp, hit⟩
  -- an object that lives at s and is not the abstract heap's is not the iterator
  have nit : ∀ b o, s.heap.get? b = some o → H b = none → b ≠ it := fun b o e hn q => by
    subst q; obtain ⟨o', e', _⟩ := k₁.keep _ o e hn id; rw [e'] at hf; cases hf
  cases rest with
  | nil =>
    rw [List.append_nil] at hitems
    subst hitems
    refine (I _).stop s' H' _ S'.toHS (hst _ _ _ hInv) hp fun h' eb => ?_
    exact wpAny_execs_nil ⟨H', μ', S'.aside hit hown hfr hbase eb s'.toks, ⟨fun b o e hn hw => (let ⟨o', e', so⟩ := k'.keep b o e hn hw; ⟨o', eb b o' (nit b o e hn) e', so⟩), k'.dom, k'.os, k'.gens⟩, hend μ' H' hInv⟩
  | cons v rest =>
    have hv : items[done.length]? = some v := by rw [hitems]; simp
    refine (I _).next s' H' done.length v _ S'.toHS (hst _ _ _ hInv) hp hv fun h₂ tk xv hxa hp₂ sb₂ => ?_
    have S₂ := S'.aside hit hown hfr hbase sb₂.extBut tk
    have k₂ : Kept fm.own s H { s' with heap := h₂, toks := tk } H' := ⟨fun b o e hn hw => (let ⟨o', e', so⟩ := k'.keep b o e hn hw; ⟨o', sb₂.extBut b o' (nit b o e hn) e', so⟩), k'.dom, k'.os, k'.gens⟩
    refine wpAny_assign_Name (store_loc W S₂ hi fun s₃ S₃ k₃ => ?_)
    rw [hxa] at S₃
    obtain ⟨oi, hoi⟩ := (I fun _ _ => False).live _ _ hp₂
    have hp₃ : P (done.length + 1) s₃.heap := (I fun _ _ => False).frame _ _ _ hp₂ fun o e => k₃.same e hit hown ((I fun _ _ => False).nd _ _ _ hp₂ e)
    refine wpAny_passesOwn X.p (wpAny_mono (ib E H' (setL μ' i v) s₃ _ R S₃ (X.from (k₂.trans k₃)) (hturn done v rest μ' H' hitems hInv)) (fun f s₄ q => ?_) fun _ _ e => e)
    obtain ⟨H₄, μ₄, S₄, k₄, h₄⟩ := q
    have kk := (k₂.trans k₃).trans k₄
    cases f with
    | next =>
      obtain ⟨H₅, le, hI5⟩ := h₄
      have hoi₃ := k₃.same hoi hit hown ((I fun _ _ => False).nd _ _ _ hp₂ hoi)
      refine ⟨rest.length, Nat.lt_succ_self _, done ++ [v], rest, μ₄, H₅, by rw [hitems]; simp, rfl, hI5, S₄.le le, kk.le le, ?_, ?_⟩
      · rw [List.length_append]
        exact (I fun _ _ => False).frame _ _ _ hp₃ fun o e => k₄.same e hit hown ((I fun _ _ => False).nd _ _ _ hp₃ e)
      · cases e : H₅ it with
        | none => rfl
        | some o =>
          have := k₄.dom it oi hoi₃ hit hown
          rw [le it o e] at this; cases this
    | ret v => exact ⟨H₄, μ₄, S₄, kk, h₄⟩
    | brk => exact h₄.elim
    | cont => exact h₄.elim

theorem s_forJ (C : cx.OK) (hA : AOK A n) (W : fm.OK cx A) {i : Nat} {m : ME} {b : MSs} {x : Str} {px p : Pos} {it : Expr} {bd : List Stmt} (hi : fm.names[i]? = some (some x)) (ki : kindOK it = true) (ii : JE cx A n m fm it) (ib : JSs cx A n b fm bd) :
    JS cx A n (.for_ i m b) fm (.For (.Name x px) it bd [] p) := by
  intro E H μ s N R S X h
  refine wpAny_For (wpAny_mono (it_val (K := fun items st H₁ => ForP items st μ H₁ (fun x μ H K => mwpSs cx n b (setL μ i x) H K R) N) C hA S ii h) (fun xv s₁ hx => wpAny_mono hx (fun itv s₂ hy => ?_) fun _ _ e => e) fun _ _ e => e) (folded_of ki fm.env)
  obtain ⟨ita, P, ob, s₃, H₁, items, st, rfl, S₁, k₁, rfl, hf, I, hP, hk⟩ := hy
  exact for_loop W hi ib X (S.step S₁ k₁) k₁ I hf hP hk
theorem s_forRJ (C : cx.OK) (TO : T.OK cx) (hA : AOK A n) (W : fm.OK cx A) {i : Nat} {a c : ME} {b : MSs} {x : Str} {px np ip p : Pos} {as : List Expr} {bd : List Stmt} (hi : fm.names[i]? = some (some x)) (hg : isGlob fm.env.scope "range" = true) (ha : RngArgs cx A n fm a c as) (ib : JSs cx A n b fm bd) :
    JS cx A n (.forR i a c b) fm (.For (.Name x px) (.Call (.Name "range" np) as [] ip) bd [] p) := by
  intro E H μ s N R S X h
  refine wpAny_For (wpAny_mono (it_rng (K := fun items st H₁ => ForP items st μ H₁ (fun x μ H K => mwpSs cx n b (setL μ i x) H K R) N) C TO hA W S hg ha h) (fun xv s₁ hx => wpAny_mono hx (fun itv s₂ hy => ?_) fun _ _ e => e) fun _ _ e => e) (folded_of rfl fm.env)
  obtain ⟨ita, P, ob, s₃, H₁, items, st, rfl, S₁, k₁, rfl, hf, I, hP, hk⟩ := hy
  exact for_loop W hi ib X (S.step S₁ k₁) k₁ I hf hP hk

theorem s_raiseJ (C : cx.OK) (TO : T.OK cx) (hA : AOK A n) (W : fm.OK cx A) {D : Addr} {m : ME} {x : Str} {np cp p : Pos} {a : Expr} (hx : isGlob fm.env.scope x = true) (ht : T.exs.lookup x = some D) (ka : kindOK a = true) (ia : JE cx A n m fm a) :
    JS cx A n (.raiseS D m) fm (.Raise (some (.Call (.Name x np) [a] [] cp)) none p) := by
  intro E H μ s N R S X h
  obtain ⟨hg, hC⟩ := TO.ex x D ht
  obtain ⟨bm, N', nm, q, bs, hdct, sn, sub, ab, col, dd, k0, k1, k2, k3, k5, mN, hD, hN, hq, Tl⟩ := hC.obj
  refine wpAny_Raise_call_subT (C := D) (nm := nm) (q := q) (N := N') (bs := bs) (bm := bm) (hdct := hdct) (sn := sn) (sub := sub) (ab := ab) (col := col) (dd := dd) (k0 := k0) (k1 := k1) (k2 := k2) (k3 := k3) (k5 := k5)
    PySem.F.excBase_ValueError (mN := mN) (Tl.tail.hasType rfl) hA.handled (by rw [starEach_of ka]; rfl) (hq _ (.head _)) (glob_name C W S.toHS hx hg ⟨rfl, ?_⟩)
  rw [starEach_of ka]
  refine Calls.evalArgs_plain (Calls.spliced_cons (ep_then (ia E H μ s _ S h) fun v s₁ H₁ S₁ k₁ h₁ => Calls.spliced_nil ⟨rfl, by simp [sizeLine_eq], S₁.ext _ _ hD, hN.keeps S₁.ext, Tl.tail.keeps S₁.ext, fun h' e hm => ?_⟩))
  have kg := k₁.trans (KE.grow hm.keeps s₁.toks)
  have S' := S.step (S₁.grow hm.keeps s₁.toks) kg
  obtain ⟨t, h1, _, _⟩ := hm.there
  have ne : ∀ o, s.heap.get? e = some o → H e = none → False := fun o q q2 => by
    obtain ⟨o', q3, _⟩ := k₁.keep e o q q2 id
    rw [hm.new] at q3; cases q3
  have no : ¬ fm.own e := fun q => by
    obtain ⟨o, q2⟩ := (S.step S₁ k₁).fr.live e q
    rw [hm.new] at q2; cases q2
  exact X.x e D e H₁ μ _ S' (KE.any kg _) ⟨ne, ne, S₁.none_of hm.new, S₁.none_of hm.new, S₁.base_none hm.new, S₁.base_none hm.new, _, _, _, h1, rfl, rfl, rfl, .inl ⟨rfl, rfl⟩⟩ no no h₁
theorem SR.notown {H H' : HP} {μ : List V} {s : Shared} (S : SR cx fm H μ s) {a : Addr} (h : ∀ o, s.heap.get? a = some o → H a = none → False) : ¬ fm.own a := fun q => by
  obtain ⟨o, e⟩ := S.fr.live a q
  cases e2 : H a with
  | none => exact h o e e2
  | some oo => exact S.own a oo e2 q
theorem XM.xe {R Q : V → HP → Prop} {H : HP} {μ : List V} {s : Shared} (X : XM cx A fm R E s H) (S : SR cx fm H μ s) (h : ∀ C H', Q (.exc C) H' → R (.exc C) H') : XE cx E s H Q := fun e C T H' s' S' k x _ r =>
  X.x e C T H' μ s' (S.step S' k) (KE.any k _) x (S.notown (H' := H') x.e0) (S.notown (H' := H') x.t0) (h C H' r)
theorem x_val (C : cx.OK) (TO : T.OK cx) (hA : AOK0 A n) (hh : T.q = false → A.handled = none) (W : fm.OK cx A) {k : XK} {ms : MEs} {v : Expr} (hc : chkX T k ms fm.env.scope fm.names v = true) {H : HP} {μ : List V} {s : Shared} {Q : V → HP → Prop} (S : SR cx fm H μ s) (h0 : xpre k μ H)
    (h : mwpEs cx n ms μ H fun vs H => xdoP cx n k μ vs H Q) (hE : XE cx E s H Q) : kindOK v = true ∧ isComp v = false ∧ wpAny (model cx.prog cx.w) A (eval v fm.env) (EP cx s H Q) E s := by
  cases k with
  | fn f =>
    obtain ⟨hms, hc⟩ := and2 hc
    obtain ⟨hq, hc⟩ := and2 (show (!T.q && _) = true from hc)
    obtain ⟨x, np, as, p, rfl, h1⟩ := nameCall_inv hc
    obtain ⟨h2, h3⟩ := and2 h1
    obtain ⟨h4, h5⟩ := and2 h3
    obtain ⟨h6, h7⟩ := and2 h5
    cases as with
    | nil => cases ms with
      | nil => cases hms
      | cons => cases h7
    | cons a r =>
      have i := sEs C TO hA hh ms fm (a :: r) W h7
      exact ⟨rfl, rfl, callf_any C TO hA (fun _ => hh (notB hq)) W h2 (eq_of_beq h4) (i.ks a List.mem_cons_self) i.l S h hE⟩
  | mt D x f j =>
    obtain ⟨hq, hc⟩ := and2 (show (!T.q && _) = true from hc)
    obtain ⟨g, as, ks, p, rfl, h1⟩ := vCall_inv hc
    obtain ⟨h2, h3⟩ := and2 h1
    obtain ⟨o, y, ap, rfl, h4⟩ := vAttr_inv h3
    obtain ⟨a4, a5⟩ := and2 h4
    obtain ⟨a6, a7⟩ := and2 a4
    obtain ⟨b5, b8⟩ := and2 a5
    obtain ⟨c8, c9⟩ := and2 b8
    obtain ⟨z, np, rfl, d1⟩ := vName_inv c8
    obtain ⟨d2, d3⟩ := and2 d1
    obtain ⟨e1, e2⟩ := and2 c9
    rw [nil_of h2, eq_of_beq a7]
    have i := sEs C TO hA hh ms fm as W e2
    exact ⟨rfl, rfl, callm_any TO W a6 b5 d2 (eq_of_beq d3) (of_decide_eq_true e1) i.ks e2 i.l S h0 h fun v vs s₁ H₁ hv S₁ k₁ h₁ => ep_from k₁ (call_ok (q := false) hA.toACall0 (fun _ => hh (notB hq)) S₁ ((S.step S₁ k₁).frs W) (by show CallX cx n f (abs v :: vs.map abs) H₁ Q; rw [hv]; exact h₁) (hE.from k₁))⟩
  | mk D f =>
    obtain ⟨hq, hc⟩ := and2 (show (!T.q && _) = true from hc)
    obtain ⟨x, np, as, p, rfl, h1⟩ := nameCall_inv hc
    obtain ⟨h2, h3⟩ := and2 h1
    obtain ⟨h4, h5⟩ := and2 h3
    obtain ⟨h6, h7⟩ := and2 h5
    cases as with
    | nil => cases h6
    | cons a r =>
      have i := sEs C TO hA hh ms fm (a :: r) W h7
      exact ⟨rfl, rfl, mk_any C TO ⟨hA, hh (notB hq)⟩ W h2 h4 i.ks i.l S h hE⟩
theorem onX_abs {v : Value} {k : V → Prop} {x : Addr → Prop} (h : onX (abs v) k x) : k (abs v) := by cases v <;> exact h
theorem xdo_any (C : cx.OK) (TO : T.OK cx) (hA : AOK0 A n) (hh : T.q = false → A.handled = none) (W : fm.OK cx A) {d : Option Nat} {k : XK} {ms : MEs} {st : Stmt} (hc : chkA T d k ms fm.env.scope fm.names st = true) {H : HP} {μ : List V} {s : Shared} {N : List V → HP → Prop} {R : V → HP → Prop} {X : Addr → HP → Prop}
    (S : SR cx fm H μ s) (hE : XE cx E s H fun v H => onX v (fun v => N (setO μ d v) H) fun D => X D H) (h : xpre k μ H ∧ mwpEs cx n ms μ H fun vs H => xdoP cx n k μ vs H fun v H => onX v (fun v => N (setO μ d v) H) fun D => X D H) : wpAny (model cx.prog cx.w) A (exec st fm.env) (SP cx fm s H N R) E s := by
  cases d with
  | some i =>
    obtain ⟨ts, v, p, rfl, h1⟩ := wAsg_inv hc
    obtain ⟨t, rfl, h2⟩ := l1_inv h1
    obtain ⟨x, px, rfl, h3⟩ := vName_inv h2
    obtain ⟨h4, h5⟩ := and2 h3
    obtain ⟨kv, ic, hv⟩ := x_val C TO hA hh W h5 S h.1 h.2 hE
    refine wpAny_Assign_Name (ep_then hv fun y s₁ H₁ S₁ k₁ h₁ => store_loc W (S.step S₁ k₁) (eq_of_beq h4) fun s₂ S₂ k₂ => ?_) (swaps_of ic kv _ _ _)
    exact ⟨H₁, _, S₂, (k₁.any _).trans k₂, onX_abs h₁⟩
  | none =>
    obtain ⟨v, p, rfl, h1⟩ := wExpr_inv hc
    obtain ⟨kv, ic, hv⟩ := x_val C TO hA hh W h1 S h.1 h.2 hE
    refine wpAny_Expr_any (ep_then hv fun y s₁ H₁ S₁ k₁ h₁ => ?_) (by unfold interactive; rw [W.kind]; rfl) (swaps_of ic kv _ _ _)
    exact ⟨H₁, μ, S.step S₁ k₁, k₁.any _, onX_abs h₁⟩
theorem s_xdoJ (C : cx.OK) (TO : T.OK cx) (hA : AOK0 A n) (hh : T.q = false → A.handled = none) (W : fm.OK cx A) {d : Option Nat} {k : XK} {ms : MEs} {st : Stmt} (hc : chkA T d k ms fm.env.scope fm.names st = true) : JS cx A n (.xdo d k ms) fm st :=
  fun _ _ _ _ _ R S X h => xdo_any (X := fun D H => R (.exc D) H) C TO hA hh W hc S (X.xe S fun _ _ r => r) h
theorem t_ok (C : cx.OK) (TO : T.OK cx) (hA : AOK0 A n) (hh : T.q = false → A.handled = none) (W : fm.OK cx A) {N : List V → HP → Prop} {R : V → HP → Prop} {X : Addr → HP → Prop} {μ : List V} : ∀ (b : TB) (ss : List Stmt), chkT T b fm.env.scope fm.names ss = true → ∀ (H : HP) (s : Shared), SR cx fm H μ s →
    XE cx E s H (fun v H => onX v (fun _ => False) fun D => X D H) → twp cx n N X b μ H → wpAny (model cx.prog cx.w) A (execs ss fm.env) (SP cx fm s H N R) E s
  | .act d k ms, ss, hc, H, s, S, hE, h => by
    obtain ⟨st, rfl, hc⟩ := l1_inv hc
    refine wpAny_execs_cons (wpAny_mono (xdo_any (R := R) C TO hA hh W hc S hE h) (fun f s₁ q => ?_) fun _ _ e => e)
    obtain ⟨H₁, μ₁, S₁, k₁, h₁⟩ := q
    cases f with
    | next => exact wpAny_execs_nil ⟨H₁, μ₁, S₁, k₁, h₁⟩
    | ret v => exact ⟨H₁, μ₁, S₁, k₁, h₁⟩
    | brk => exact h₁.elim
    | cont => exact h₁.elim
  | .ite c t e, ss, hc, H, s, S, hE, h => by
    obtain ⟨st, rfl, hc⟩ := l1_inv hc
    obtain ⟨d, a, b, p, rfl, hc⟩ := wIf_inv hc
    obtain ⟨h1, h2⟩ := and2 hc
    obtain ⟨h2, h3⟩ := and2 h2
    have key : wpAny (model cx.prog cx.w) A (exec (.If d a b p) fm.env) (SP cx fm s H N R) E s := by
      refine wpAny_If (wpAny_mono ((sE C TO hA hh c fm d W h1).t E H μ s (fun b' H => ifB b' (twp cx n N X t μ H) (twp cx n N X e μ H)) S h) (fun v s₁ q => ?_) fun _ _ e => e)
      obtain ⟨H₁, S₁, k₁, h₁⟩ := q
      cases v with
      | true => exact sp_from (k₁.any _) (t_ok C TO hA hh W t a h2 H₁ s₁ (S.step S₁ k₁) (hE.from k₁) h₁)
      | false => exact sp_from (k₁.any _) (t_ok C TO hA hh W e b h3 H₁ s₁ (S.step S₁ k₁) (hE.from k₁) h₁)
    refine wpAny_execs_cons (wpAny_mono key (fun f s₁ q => ?_) fun _ _ e => e)
    obtain ⟨H₁, μ₁, S₁, k₁, h₁⟩ := q
    cases f with
    | next => exact wpAny_execs_nil ⟨H₁, μ₁, S₁, k₁, h₁⟩
    | ret v => exact ⟨H₁, μ₁, S₁, k₁, h₁⟩
    | brk => exact h₁.elim
    | cont => exact h₁.elim
theorem getL_unb {args : List V} (k : Nat) : ∀ {i : Nat}, args.length ≤ i → getL (args ++ List.replicate k .unb) i = .unb := by
  induction args with
  | nil =>
    intro i _
    simp only [List.nil_append]
    induction k generalizing i with
    | zero => cases i <;> rfl
    | succ k ih => cases i with
      | zero => rfl
      | succ i => exact ih (Nat.zero_le _)
  | cons x l ih =>
    intro i h
    cases i with
    | zero => simp at h
    | succ i => exact ih (by simpa using h)

theorem Tbl.OK.qt {T : Tbl} (h : T.OK cx) : Tbl.OK cx { T with q := true } := ⟨h.fn, h.bf, h.ty, h.isi, h.rng, h.kin, h.at_, h.mt, h.mkc, h.gi, h.ex⟩
theorem s_tryJ (C : cx.OK) (TO : T.OK cx) (hA : AOK A n) (hh : T.q = false → A.handled = none) (W : fm.OK cx A) (htop : ∃ o, fm.l = fm.env :: o) {b : TB} {K : Addr} {hm : ME} {bd : List Stmt} {x : ExceptHandler} {tp : Pos} (hb : chkT T b fm.env.scope fm.names bd = true) (hc : chkH T K hm fm.env.scope fm.names x = true) :
    JS cx A n (.try_ b K hm) fm (.Try bd [x] [] [] tp) := by
  intro E H μ s N R S X h
  obtain ⟨t, y, bb, hp, rfl, c1⟩ := wHan_inv hc
  obtain ⟨c1, c2⟩ := and2 c1
  obtain ⟨c3, c4⟩ := and2 c1
  obtain ⟨t, rfl, c4⟩ := so_inv c4
  obtain ⟨c, cp, rfl, c4⟩ := vName_inv c4
  obtain ⟨hx, hK⟩ := and2 c4
  obtain ⟨st, rfl, c2⟩ := l1_inv c2
  obtain ⟨v, rp, rfl, c2⟩ := wRet_inv c2
  obtain ⟨e, rfl, c2⟩ := so_inv c2
  cases y with
  | some _ => cases c3
  | none =>
  obtain ⟨hg, hC⟩ := TO.ex c K (eq_of_beq hK)
  obtain ⟨outer, ho⟩ := htop
  refine wpAny_Try_except (wpAny_mono (t_ok (R := fun _ _ => False) C TO hA.toAOK0 hh W b bd hb H s S (fun ex Ce T' H₂ s₂ S₂ k x₂ hT r => ?_) h) (fun f s₁ q => ?_) fun _ _ e => e)
  · obtain ⟨rfl, h₂⟩ := r
    have S₂' := S.step S₂ k
    obtain ⟨_, L, _, _, _, hf, _⟩ := S.ff fm.env (by rw [ho]; exact List.mem_cons_self)
    have ff := S₂'.ff
    rw [ho] at ff
    have hfr := W.frames
    rw [ho] at hfr
    have A0 : AOK0 (A.mark (some (.ref ex))) n := ⟨⟨hA.depth, hA.units, hA.frames, hA.guards⟩, hA.top⟩
    have W' : fm.OK cx (A.mark (some (.ref ex))) := ⟨W.frames, W.kind, W.globals, W.builtins, W.cellsNe, W.cellsInj, W.inj, W.above, W.cellAt⟩
    refine catch_ok hfr hf k S₂ ff x₂ hT hC (fun E' s' Q' S' q => glob_name C W' S' hx hg q) fun E' h₅ S₅ k₅ => ?_
    refine wpAny_execs_cons (wpAny_Return_some (ep_then ((sE C (Tbl.OK.qt TO) A0 (fun q => (Bool.false_ne_true q.symm).elim) hm fm e W' c2).v E' H₂ μ _ _ (S.step S₅ k₅) h₂) fun vv s₆ H₆ S₆ k₆ h₆ => ?_))
    have k' := k₅.trans k₆
    exact ⟨H₆, μ, S.step S₆ k', KE.any k' _, h₆⟩
  · obtain ⟨H₁, μ₁, S₁, k₁, h₁⟩ := q
    cases f with
    | next => exact wpAny_execs_nil ⟨H₁, μ₁, S₁, k₁, h₁⟩
    | ret v => exact h₁.elim
    | brk => exact h₁.elim
    | cont => exact h₁.elim
mutual
theorem sS (C : cx.OK) (TO : T.OK cx) (hA : AOK0 A n) (hh : T.q = false → A.handled = none) (W : fm.OK cx A) (htop : ∃ o, fm.l = fm.env :: o) : ∀ (m : MS) (st : Stmt), chkS T m fm.env.scope fm.names st = true → JS cx A n m fm st
  | .assign i m, st, h => by
    replace h := wAsg_inv h
    obtain ⟨ts, v, p, rfl, h1⟩ := h
    replace h1 := l1_inv h1
    obtain ⟨t, rfl, h2⟩ := h1
    replace h2 := vName_inv h2
    obtain ⟨x, px, rfl, h3⟩ := h2
    replace h3 := and2 h3
    obtain ⟨h4, h5⟩ := h3
    exact s_asg W (eq_of_beq h4) (sE C TO hA hh m fm v W h5).k (sE C TO hA hh m fm v W h5)
  | .setSub o i m, st, h => by
    replace h := wAsg_inv h
    obtain ⟨ts, v, p, rfl, h1⟩ := h
    replace h1 := l1_inv h1
    obtain ⟨t, rfl, h2⟩ := h1
    replace h2 := vSub_inv h2
    obtain ⟨a, b, sp, rfl, h3⟩ := h2
    replace h3 := and2 h3
    obtain ⟨h4, h5⟩ := h3
    replace h5 := and2 h5
    obtain ⟨h6, h7⟩ := h5
    replace h7 := and2 h7
    obtain ⟨h8, h9⟩ := h7
    exact s_sub (notB h4) (sE C TO hA hh m fm v W h6).k (sE C TO hA hh m fm v W h6).v (sE C TO hA hh o fm a W h8).v (sE C TO hA hh i fm b W h9).v
  | .expr m, st, h => by
    replace h := wExpr_inv h
    obtain ⟨v, p, rfl, h1⟩ := h
    replace h1 := and2 h1
    obtain ⟨h2, h3⟩ := h1
    exact s_exp W (notB h2) (sE C TO hA hh m fm v W h3).k (sE C TO hA hh m fm v W h3).v
  | .ite c t e, st, h => by
    replace h := wIf_inv h
    obtain ⟨d, a, b, p, rfl, h1⟩ := h
    replace h1 := and2 h1
    obtain ⟨h2, h3⟩ := h1
    replace h3 := and2 h3
    obtain ⟨h4, h5⟩ := h3
    exact s_if (sE C TO hA hh c fm d W h2).t (sSs C TO hA hh W htop t a h4) (sSs C TO hA hh W htop e b h5)
  | .for_ i m b, st, h => by
    replace h := and2 h
    obtain ⟨h0, h⟩ := h
    have hA' : AOK A n := ⟨hA, hh (notB h0)⟩
    replace h := wFor_inv h
    obtain ⟨tg, it, bd, o, p, rfl, h1⟩ := h
    replace h1 := and2 h1
    obtain ⟨h2, h3⟩ := h1
    replace h3 := and2 h3
    obtain ⟨h4, h5⟩ := h3
    replace h5 := and2 h5
    obtain ⟨h6, h7⟩ := h5
    replace h7 := vName_inv h7
    obtain ⟨x, px, rfl, h8⟩ := h7
    rw [nil_of h2]
    exact s_forJ C hA' W (eq_of_beq h8) (sE C TO hA hh m fm it W h6).k (sE C TO hA hh m fm it W h6).v (sSs C TO hA hh W htop b bd h4)
  | .forR i a c b, st, h => by
    replace h := and2 h
    obtain ⟨h0, h⟩ := h
    have hA' : AOK A n := ⟨hA, hh (notB h0)⟩
    replace h := wFor_inv h
    obtain ⟨tg, it, bd, o, p, rfl, h1⟩ := h
    replace h1 := and2 h1
    obtain ⟨h2, h3⟩ := h1
    replace h3 := and2 h3
    obtain ⟨h4, h5⟩ := h3
    replace h5 := and2 h5
    obtain ⟨h6, h7⟩ := h5
    replace h6 := vName_inv h6
    obtain ⟨x, px, rfl, h8⟩ := h6
    replace h7 := nameCall_inv h7
    obtain ⟨y, np, as, ip, rfl, h9⟩ := h7
    replace h9 := and2 h9
    obtain ⟨h10, h11⟩ := h9
    replace h11 := and2 h11
    obtain ⟨h12, h13⟩ := h11
    rw [eq_of_beq h12] at h10 ⊢
    rw [nil_of h2]
    exact s_forRJ C TO hA' W (eq_of_beq h8) h10 (rng_of h13 (fun e he => sE C TO hA hh a fm e W he) fun e he => sE C TO hA hh c fm e W he) (sSs C TO hA hh W htop b bd h4)
  | .while_ c b, st, h => by
    replace h := and2 h
    obtain ⟨h0, h⟩ := h
    replace h := wWhile_inv h
    obtain ⟨d, bd, o, p, rfl, h1⟩ := h
    replace h1 := and2 h1
    obtain ⟨h2, h3⟩ := h1
    replace h3 := and2 h3
    obtain ⟨h4, h5⟩ := h3
    rw [nil_of h2]
    exact s_whileJ (sE C TO hA hh c fm d W h4).t (sSs C TO hA hh W htop b bd h5)
  | .ret m, st, h => by
    replace h := wRet_inv h
    obtain ⟨v, p, rfl, h1⟩ := h
    cases v with
    | none => cases h1
    | some v => exact s_retE (sE C TO hA hh m fm v W h1).v
  | .setAttr Cc i x m, st, h => by
    replace h := wAsg_inv h
    obtain ⟨ts, v, p, rfl, h1⟩ := h
    replace h1 := l1_inv h1
    obtain ⟨t, rfl, h2⟩ := h1
    replace h2 := vAttr_inv h2
    obtain ⟨o, y, ap, rfl, h3⟩ := h2
    replace h3 := and2 h3
    obtain ⟨h4, h5⟩ := h3
    replace h4 := and2 h4
    obtain ⟨h6, h7⟩ := h4
    replace h5 := and2 h5
    obtain ⟨h8, h9⟩ := h5
    replace h9 := and2 h9
    obtain ⟨h10, h11⟩ := h9
    replace h11 := vName_inv h11
    obtain ⟨z, np, rfl, h12⟩ := h11
    replace h12 := and2 h12
    obtain ⟨a1, a2⟩ := h12
    rw [eq_of_beq h6]
    exact s_attrJ TO W h7 a1 (eq_of_beq a2) (notB h8) (sE C TO hA hh m fm v W h10).k (sE C TO hA hh m fm v W h10).v
  | .raiseS D m, st, h => by
    replace h := and2 h
    obtain ⟨h0, h⟩ := h
    have hA' : AOK A n := ⟨hA, hh (notB h0)⟩
    replace h := wRaise_inv h
    obtain ⟨x, np, a, cp, p, rfl, h1⟩ := h
    replace h1 := and2 h1
    obtain ⟨h2, h3⟩ := h1
    replace h3 := and2 h3
    obtain ⟨h3, h4⟩ := h3
    exact s_raiseJ C TO hA' W h2 (eq_of_beq h3) (sE C TO hA hh m fm a W h4).k (sE C TO hA hh m fm a W h4).v
  | .xdo d k ms, st, h => s_xdoJ C TO hA hh W h
  | .setD o i m, st, h => by
    replace h := wAsg_inv h
    obtain ⟨ts, v, p, rfl, h1⟩ := h
    replace h1 := l1_inv h1
    obtain ⟨t, rfl, h2⟩ := h1
    replace h2 := vSub_inv h2
    obtain ⟨a, b, sp, rfl, h3⟩ := h2
    replace h3 := and2 h3
    obtain ⟨h4, h5⟩ := h3
    replace h5 := and2 h5
    obtain ⟨h6, h7⟩ := h5
    replace h7 := and2 h7
    obtain ⟨h8, h9⟩ := h7
    exact s_setDJ (notB h4) (sE C TO hA hh m fm v W h6).k (sE C TO hA hh m fm v W h6).v (sE C TO hA hh o fm a W h8).v (sE C TO hA hh i fm b W h9).v
  | .try_ b K hm, st, h => by
    replace h := and2 h
    obtain ⟨h0, h⟩ := h
    replace h := wTry0_inv h
    obtain ⟨bd, hd, o, f, p, rfl, h1⟩ := h
    replace h1 := and2 h1
    obtain ⟨h2, h3⟩ := h1
    replace h2 := and2 h2
    obtain ⟨h4, h5⟩ := h2
    replace h3 := and2 h3
    obtain ⟨h6, h7⟩ := h3
    replace h7 := l1_inv h7
    obtain ⟨x, rfl, h7⟩ := h7
    rw [nil_of h4, nil_of h5]
    exact s_tryJ C TO ⟨hA, hh (notB h0)⟩ hh W htop h6 h7
theorem sSs (C : cx.OK) (TO : T.OK cx) (hA : AOK0 A n) (hh : T.q = false → A.handled = none) (W : fm.OK cx A) (htop : ∃ o, fm.l = fm.env :: o) : ∀ (ms : MSs) (ss : List Stmt), chkSs T ms fm.env.scope fm.names ss = true → JSs cx A n ms fm ss
  | .nil, ss, h => by
    have := nil_of h; subst this; exact ss_nilJ
  | .cons m ms, [], h => (Bool.false_ne_true h).elim
  | .cons m ms, st :: r, h => by
    replace h := and2 h
    obtain ⟨h1, h2⟩ := h
    exact ss_consJ (sS C TO hA hh W htop m st h1) (sSs C TO hA hh W htop ms r h2)
end
end
end Mine
end

section
namespace Mine
open PySem PyProof.Rows PySem.SeqAt

section
variable {cx : Cx} {T : Tbl} {A : Around} {E : Value → Shared → Prop} {n : Nat}

theorem cells_mem {x : Str} : ∀ (names : List (Str × NameKind)) (k : Nat) (acc : List (Str × Addr)), ((x, NameKind.cell) ∈ names ∨ ∃ c, (x, c) ∈ acc) → ∃ c, (x, c) ∈ cellsFrom k names acc
  | [], _, _, h => h.elim (fun q => nomatch q) id
  | (y, kd) :: r, k, acc, h => by
    unfold cellsFrom
    split
    · rename_i hk
      refine cells_mem r _ _ ?_
      rcases h with h | ⟨c, h⟩
      · rcases List.mem_cons.mp h with q | h
        · cases q; exact .inr ⟨k, List.mem_cons_self⟩
        · exact .inl h
      · exact .inr ⟨c, List.mem_cons_of_mem _ h⟩
    · rename_i hk
      refine cells_mem r _ _ ?_
      rcases h with h | h
      · rcases List.mem_cons.mp h with q | h
        · cases q; simp at hk
        · exact .inl h
      · exact .inr h

theorem pairwise_inj {l : List (Str × Addr)} (h : l.Pairwise fun x y => x.2 ≠ y.2) {x y : Str} {c : Addr} (hx : (x, c) ∈ l) (hy : (y, c) ∈ l) : x = y := by
  induction l with
  | nil => cases hx
  | cons p l ih =>
    rw [List.pairwise_cons] at h
    rcases List.mem_cons.mp hx with e | hx'
    · rcases List.mem_cons.mp hy with e' | hy'
      · rw [← e] at e'; cases e'; rfl
      · exact absurd (show p.2 = c from by rw [← e]) (h.1 (y, c) hy')
    · rcases List.mem_cons.mp hy with e' | hy'
      · exact absurd (show p.2 = c from by rw [← e']) (h.1 (x, c) hx')
      · exact ih h.2 hx' hy'

theorem bindL_other (kd : Str → Option NameKind) {x : Str} : ∀ (b : List (Str × Value)) (m : Str → Option Value), (∀ p ∈ b, p.1 ≠ x) → bindL kd b m x = m x
  | [], _, _ => rfl
  | (y, v) :: r, m, h => by
    unfold bindL
    rw [bindL_other kd r _ (fun p hp => h p (List.mem_cons_of_mem _ hp))]
    have hy : x ≠ y := fun e => h (y, v) List.mem_cons_self e.symm
    split
    · simp [hy]
    · rfl
theorem bindC_other (kd : Str → Option NameKind) {x : Str} : ∀ (b : List (Str × Value)) (m : Str → Option Value), (∀ p ∈ b, p.1 ≠ x) → bindC kd b m x = m x
  | [], _, _ => rfl
  | (y, v) :: r, m, h => by
    unfold bindC
    rw [bindC_other kd r _ (fun p hp => h p (List.mem_cons_of_mem _ hp))]
    have hy : x ≠ y := fun e => h (y, v) List.mem_cons_self e.symm
    split
    · rfl
    · simp [hy]

theorem bind_at (kd : Str → Option NameKind) : ∀ (ps : List Str) (vs : List Value) (m : Str → Option Value) (i : Nat) (x : Str) (v : Value), ps.Nodup → ps[i]? = some x → vs[i]? = some v →
    (kd x = some .local → bindL kd (ps.zip vs) m x = some v) ∧ (kd x ≠ some .local → bindC kd (ps.zip vs) m x = some v)
  | [], _, _, i, x, v, _, h, _ => by simp at h
  | _ :: _, [], _, i, x, v, _, _, h => by simp at h
  | p :: ps, w :: vs, m, 0, x, v, hn, h1, h2 => by
    simp at h1 h2
    subst h1; subst h2
    rw [List.nodup_cons] at hn
    have ho : ∀ q ∈ ps.zip vs, q.1 ≠ p := fun q hq e => hn.1 (e ▸ (List.of_mem_zip hq).1)
    refine ⟨fun hk => ?_, fun hk => ?_⟩
    · show bindL kd ((p, w) :: ps.zip vs) m p = some w
      unfold bindL; rw [if_pos hk, bindL_other kd _ _ ho]; simp
    · show bindC kd ((p, w) :: ps.zip vs) m p = some w
      unfold bindC; rw [if_neg hk, bindC_other kd _ _ ho]; simp
  | p :: ps, w :: vs, m, i + 1, x, v, hn, h1, h2 => by
    rw [List.nodup_cons] at hn
    rw [List.getElem?_cons_succ] at h1 h2
    have hL := fun m => (bind_at kd ps vs m i x v hn.2 h1 h2).1
    have hC := fun m => (bind_at kd ps vs m i x v hn.2 h1 h2).2
    refine ⟨fun hk => ?_, fun hk => ?_⟩
    · show bindL kd ((p, w) :: ps.zip vs) m x = some v
      unfold bindL; exact hL _ hk
    · show bindC kd ((p, w) :: ps.zip vs) m x = some v
      unfold bindC; exact hC _ hk

theorem getL_args {args : List V} : ∀ {i : Nat} {a : V} (r : List V), args[i]? = some a → getL (args ++ r) i = a := by
  induction args with
  | nil => intro i a r h; simp at h
  | cons x l ih =>
    intro i a r h
    cases i with
    | zero => simpa [getL] using h
    | succ i => exact ih r (by simpa using h)
structure Def (cx : Cx) (f : Addr) (ps : List Str) (body : List Stmt) (scope : Scope) : Prop where
  fd : ∃ o fd, cx.base.get? f = some o ∧ o.data = .func fd ∧ fd.body = .stmts body ∧ fd.scope = scope ∧ fd.globals = mainGlobals ∧ fd.builtins = builtinsNs ∧ fd.closure = [] ∧ cx.base.CodeRec fd.code fd.qualname ∧
    ∀ vs : List Value, vs.length = ps.length → bindArgs fd ⟨vs, []⟩ = pure (ps.zip vs)
  kind : scope.kind = .function
  co : scope.isCoroutine = false
  gen : scope.isGenerator = false

noncomputable def namesFit (scope : Scope) (nm : List Str) : Bool := nm.all fun x => scope.names.lookup x == some .local || scope.names.lookup x == some .cell

theorem none_le {H H' : HP} (le : LE H H') {a : Addr} (h : H' a = none) : H a = none := by
  cases q : H a with
  | none => rfl
  | some o => rw [le a o q] at h; cases h
theorem call_introX (C : cx.OK) (TO : T.OK cx) {f : Addr} {ps rest : List Str} {body : List Stmt} {scope : Scope} (D : Def cx f ps body scope) {ms : MSs} (hnd : (ps ++ rest).Nodup) (hfit : namesFit scope (ps ++ rest) = true)
    (hcomp : chkSs T ms scope ((ps ++ rest).map some) body = true) {args : List V} (hlen : args.length = ps.length) {H : HP} {Q : V → HP → Prop}
    (h : mwpSs cx n ms (args ++ List.replicate rest.length .unb) H (fun _ H' => ∃ H₂, LE H₂ H' ∧ Q .none H₂) (fun v H' => ∃ H₂, LE H₂ H' ∧ Q v H₂)) : CallY T.q cx (n + 1) f args H Q := by
  intro A s vs hA hq S hfl hvs
  obtain ⟨o, fd, ho, hd, hb, hsc, hgl, hbi, hcl, hcode, hbind⟩ := D.fd
  have hlv : vs.length = ps.length := by rw [← hlen, ← hvs]; simp
  have hd1 := hA.depth
  have hu1 := hA.units
  refine codeAny_call_function (by unfold recursionLimit; first | lia | omega) (S.ext _ _ ho) hd (by rw [hsc]; exact D.co) (by rw [hsc]; exact D.gen) hb (hcode.keeps S.ext) ?_
  rw [hbind vs hlv]
  refine wpAny_pure ?_
  rw [hcl, hsc]
  have hkinds : ∀ x ∈ ps ++ rest, scope.names.lookup x = some .local ∨ scope.names.lookup x = some .cell := fun x hx => by
    have := List.all_eq_true.mp hfit x hx
    simpa using this
  have hcells : ∀ x, scope.names.lookup x = some .cell → ∃ c, (cellsFrom (s.heap.objs.size + 1) scope.names []).lookup x = some c := fun x hx => by
    obtain ⟨c, hc⟩ := cells_mem scope.names (s.heap.objs.size + 1) [] (.inl (lookup_mem hx))
    exact lookup_of_mem hc
  refine wpAny_newFunctionEnv_cells D.kind (fun p hp => ?_) fun env he s' B => ?_
  · have hx := hkinds p.1 (List.mem_append_left _ (List.of_mem_zip hp).1)
    rcases hx with hx | hx
    · exact .inl hx
    · obtain ⟨c, hc⟩ := hcells p.1 hx
      exact .inr ⟨hx, by rw [hc]; rfl⟩
  · obtain ⟨hh, tk, hs'⟩ := B.toInCall.same
    have keep := B.toInCall.keep
    refine ⟨(C.nolimit.keeps S.ext).keeps keep, codeAny_func ?_⟩
    subst he
    generalize henv : newEnv scope s.heap.objs.size fd.globals (cellsFrom (s.heap.objs.size + 1) scope.names []) (fd.qualname ++ ".<locals>.") (some f) fd.code none fd.builtins = env at B ⊢
    have e1 : env.scope = scope := by rw [← henv]; rfl
    have e2 : env.locals = s.heap.objs.size := by rw [← henv]; rfl
    have e3 : env.cells = cellsFrom (s.heap.objs.size + 1) scope.names [] := by rw [← henv]; rfl
    have e4 : env.globals = mainGlobals := by rw [← henv]; exact hgl
    have e5 : env.builtins = builtinsNs := by rw [← henv]; exact hbi
    obtain ⟨l, hl⟩ := hA.frames
    have e6 : env.frame = some s.heap.objs.size := by rw [← henv]; rfl
    have hnew : ∀ a : Nat, s.heap.objs.size ≤ a → s.heap.get? a = none := fun a ha => by
      cases e : s.heap.get? a with
      | none => rfl
      | some o => exact absurd (Heap.lt_size e) (Nat.not_lt.mpr ha)
    have hownnew : ∀ a, (⟨env, (ps ++ rest).map some, env :: l⟩ : Fm).own a → s.heap.get? a = none := fun a q => by
      rcases q with q | ⟨x, q⟩
      · rw [q]; show s.heap.get? env.locals = none; rw [e2]; exact hnew _ (Nat.le_refl _)
      · have := B.above x a (lookup_mem q)
        rw [e2] at this
        exact hnew a (Nat.le_of_lt this)
    have W : Fm.OK cx (A.deeper env) ⟨env, (ps ++ rest).map some, env :: l⟩ := by
      refine ⟨by show A.frames.map (env :: ·) = _; rw [hl]; rfl, by rw [e1]; exact D.kind, e4, e5, fun x c hm e => ?_, fun x y c h1 h2 => ?_, fun i j x h1 h2 => ?_, fun a q => S.base_none (hownnew a q), fun x hx => ?_⟩
      · exact absurd (B.above x c (lookup_mem hm)) (by rw [e]; exact Nat.lt_irrefl _)
      · exact pairwise_inj B.apart (lookup_mem h1) (lookup_mem h2)
      · rw [List.getElem?_map, Option.map_eq_some_iff] at h1 h2
        obtain ⟨y, a1, a2⟩ := h1
        obtain ⟨z, b1, b2⟩ := h2
        cases a2; cases b2
        exact (List.getElem?_inj (List.getElem?_eq_some_iff.mp a1).1 hnd).mp (a1.trans b1.symm)
      · show ∃ c, env.cells.lookup x = some c
        rw [e3]; refine hcells x ?_
        have hx' : env.scope.names.lookup x = some .cell := hx
        rw [e1] at hx'; exact hx'
    have S' : SR cx ⟨env, (ps ++ rest).map some, env :: l⟩ H (args ++ List.replicate rest.length .unb) s' := by
      have hs0 : HS cx H s' := ⟨fun a o e => (S.hr a o e).keep (keep a), fun b o e => keep b o (S.ext b o e), S.low⟩
      refine ⟨hs0, ⟨by simp [hlen], fun a q => ?_, ⟨_, B.toInCall.ns⟩, fun i x hi => ?_⟩, fun a o e q => ?_, fun e he => ?_⟩
      · rcases q with q | ⟨x, q⟩
        · obtain ⟨o, _, _, e, _⟩ := B.toInCall.ns
          exact ⟨o, by rw [q]; exact e⟩
        · obtain ⟨o, e, _⟩ := B.cell x a q
          exact ⟨o, e⟩
      · rw [List.getElem?_map, Option.map_eq_some_iff] at hi
        obtain ⟨y, a1, a2⟩ := hi
        cases a2
        have hx := hkinds x (List.mem_of_getElem? a1)
        have hk : env.kindOf x = scope.names.lookup x := by show env.scope.names.lookup x = _; rw [e1]
        by_cases hip : i < ps.length
        · rw [List.getElem?_append_left hip] at a1
          have hiv : i < vs.length := by rw [hlv]; exact hip
          have hv : vs[i]? = some vs[i] := List.getElem?_eq_getElem hiv
          have hg : getL (args ++ List.replicate rest.length .unb) i = abs vs[i] := getL_args _ (by rw [← hvs, List.getElem?_map, hv]; rfl)
          obtain ⟨b1, b2⟩ := bind_at env.kindOf ps vs (fun _ => none) i x vs[i] (List.nodup_append.mp hnd).1 a1 hv
          rcases hx with hx | hx
          · exact ⟨some vs[i], .inl ⟨by rw [hk]; exact hx, _, B.toInCall.ns, b1 (by rw [hk]; exact hx)⟩, .inr ⟨_, rfl, hg.symm⟩⟩
          · obtain ⟨c, hc⟩ := hcells x hx
            have hc' : env.cells.lookup x = some c := by rw [e3]; exact hc
            exact ⟨some vs[i], .inr ⟨by rw [hk]; exact hx, c, hc', b2 (by rw [hk, hx]; simp) ▸ B.cell x c hc'⟩, .inr ⟨_, rfl, hg.symm⟩⟩
        · have hg : getL (args ++ List.replicate rest.length .unb) i = .unb := getL_unb _ (by rw [hlen]; exact Nat.le_of_not_lt hip)
          rcases hx with hx | hx
          · exact ⟨_, .inl ⟨by rw [hk]; exact hx, _, B.toInCall.ns, rfl⟩, .inl hg⟩
          · obtain ⟨c, hc⟩ := hcells x hx
            have hc' : env.cells.lookup x = some c := by rw [e3]; exact hc
            exact ⟨_, .inr ⟨by rw [hk]; exact hx, c, hc', B.cell x c hc'⟩, .inl hg⟩
      · obtain ⟨ob, e'⟩ := (S.hr a o e).get
        rw [hownnew a q] at e'; cases e'
      · rcases List.mem_cons.mp he with rfl | he
        · obtain ⟨o, es, ep, q1, q2, _⟩ := B.toInCall.ns
          refine ⟨by rw [e1, D.kind]; decide, _, o, es, ep, e6, S.base_none (get_size _), S.none_of (get_size _), by rw [← e2]; exact q1, q2⟩
        · obtain ⟨kd, L, o, es, ep, q1, q2, q3, q4, q5⟩ := hfl l hl e he
          exact ⟨kd, L, o, es, ep, q1, q2, q3, keep L o q4, q5⟩
    have hA' : AOK0 (A.deeper env) n := by
      refine ⟨⟨by show A.depth + 1 + n < 850; first | lia | omega, by show A.units + 3 + 16 * n < 9000; first | lia | omega, ⟨env :: l, by show A.frames.map (env :: ·) = _; rw [hl]; rfl⟩, hA.guards⟩, env, l, by show A.frames.map (env :: ·) = _; rw [hl]; rfl, by rw [e1]; exact D.gen, by rw [e1]; exact D.co, e5, e4⟩
    have hno : ∀ b o, s.heap.get? b = some o → ¬ (⟨env, (ps ++ rest).map some, env :: l⟩ : Fm).own b := fun b o e q => by rw [hownnew b q] at e; cases e
    have kk : ∀ s₁ H₁, Kept (⟨env, (ps ++ rest).map some, env :: l⟩ : Fm).own s' H s₁ H₁ → KE s H s₁ H₁ := fun s₁ H₁ k2 =>
      ⟨fun b o e hn _ => k2.keep b o (keep b o e) hn (hno b o e), fun a o e hn _ => k2.dom a o (keep a o e) hn (hno a o e), by rw [k2.os, hs'], by rw [k2.gens, hs']⟩
    refine wpAny_mono (sSs (fm := ⟨env, (ps ++ rest).map some, env :: l⟩) C TO hA' hq W ⟨l, rfl⟩ ms body (by show chkSs T ms env.scope _ body = _; rw [e1]; exact hcomp) _ H _ s' _ _ S' ?_ h) (fun fl s₁ q => ?_) fun _ _ e => e
    · refine ⟨?_, PassesOwn.leaving⟩
      intro e C' T' H₁ μ₁ s₁ S₁ k₁ x n1 n2 r
      obtain ⟨H₂, le, hq⟩ := r
      have x' : ExcIn cx.base s H H₁ s₁.heap e C' T' := ⟨fun o q => x.e0 o (keep e o q), fun o q => x.t0 o (keep T' o q), x.e1, x.t1, x.e2, x.t2, x.at_⟩
      refine leave_ok (outer := l) W.frames e6 (kk s₁ H₁ k₁) S₁.toHS S₁.ff x' fun h'' T'' S3 k3 x3 nT => .inr ⟨e, C', T'', H₂, rfl, S3.le le, k3.le le, ?_, nT, hq⟩
      exact ⟨x3.e0, x3.t0, none_le le x3.e1, none_le le x3.t1, x3.e2, x3.t2, x3.at_⟩
    obtain ⟨H₁, μ₁, S₁, k₁, h₁⟩ := q
    cases fl with
    | next =>
      obtain ⟨H₂, le, hq⟩ := h₁
      exact .inl ⟨.none, H₂, rfl, S₁.toHS.le le, (kk s₁ H₁ k₁).le le, hq⟩
    | ret v =>
      obtain ⟨H₂, le, hq⟩ := h₁
      exact .inl ⟨v, H₂, rfl, S₁.toHS.le le, (kk s₁ H₁ k₁).le le, hq⟩
    | brk => exact h₁.elim
    | cont => exact h₁.elim
theorem call_intro (C : cx.OK) (TO : T.OK cx) {f : Addr} {ps rest : List Str} {body : List Stmt} {scope : Scope} (D : Def cx f ps body scope) {ms : MSs} (hnd : (ps ++ rest).Nodup) (hfit : namesFit scope (ps ++ rest) = true)
    (hcomp : chkSs T ms scope ((ps ++ rest).map some) body = true) {args : List V} (hlen : args.length = ps.length) {H : HP} {Q : V → HP → Prop}
    (h : mwpSs cx n ms (args ++ List.replicate rest.length .unb) H (fun _ H' => ∃ H₂, LE H₂ H' ∧ nx Q .none H₂) (fun v H' => ∃ H₂, LE H₂ H' ∧ nx Q v H₂)) : CallY T.q cx (n + 1) f args H (nx Q) :=
  call_introX C TO D hnd hfit hcomp hlen h
end
end Mine
end

section
namespace Mine
open PySem PyProof.Rows

section
variable {cx : Cx} {n : Nat} {H H' : HP} {a r x y : Addr} {o : O} {Q : V → HP → Prop} {vs ws : List V} {i j : Int} {v w : V}

theorem CallY.mono {q : Bool} {f : Addr} {args : List V} {Q' : V → HP → Prop} (h : CallY q cx n f args H Q) (m : ∀ v H, Q v H → Q' v H) : CallY q cx n f args H Q' :=
  fun A s vs hA hq S hf e => codeAny_mono (h A s vs hA hq S hf e) fun _ _ x => x.imp (fun ⟨v, H', a, b, c, d⟩ => ⟨v, H', a, b, c, m _ _ d⟩) fun ⟨e, C, T, H', a, b, c, d, t, f⟩ => ⟨e, C, T, H', a, b, c, d, t, m _ _ f⟩
theorem S_cons {s : MS} {r : MSs} {μ : List V} {N : List V → HP → Prop} {R : V → HP → Prop} (h : mwpS cx n s μ H (fun μ H => mwpSs cx n r μ H N R) R) : mwpSs cx n (.cons s r) μ H N R := h
theorem S_nil {μ : List V} {N : List V → HP → Prop} {R : V → HP → Prop} (h : N μ H) : mwpSs cx n .nil μ H N R := h

theorem lk_same : lk cx (upd H r o) r = some o := by simp [lk, upd_same]
theorem lk_ne (h : a ≠ r) : lk cx (upd H r o) a = lk cx H a := by simp [lk, upd_ne _ h]
theorem Fresh.lk_none (hr : Fresh cx H r) : lk cx H r = none := by simp [lk, hr.1, hr.2.2]
theorem Fresh.ne (hr : Fresh cx H r) {o : O} (h : lk cx H a = some o) : a ≠ r := fun e => by subst e; rw [hr.lk_none] at h; cases h
theorem Fresh.ne' (hr : Fresh cx H r) {o : O} (h : H a = some o) : a ≠ r := fun e => by subst e; rw [hr.1] at h; cases h
theorem lk_fresh (hr : Fresh cx H r) {o' : O} (h : lk cx H a = some o') : lk cx (upd H r o) a = some o' := by rw [lk_ne (hr.ne h)]; exact h
theorem lk_of (h : H a = some o) : lk cx H a = some o := by simp [lk, h]

noncomputable def RQ (Q : V → HP → Prop) : V → HP → Prop := fun v H' => ∃ H₂, LE H₂ H' ∧ Q v H₂
noncomputable def NQ (Q : V → HP → Prop) : List V → HP → Prop := fun _ H' => ∃ H₂, LE H₂ H' ∧ Q .none H₂
theorem RQ.here {v : V} (h : Q v H) : RQ Q v H := ⟨H, LE.refl H, h⟩
theorem NQ.here {μ : List V} (h : Q .none H) : NQ Q μ H := ⟨H, LE.refl H, h⟩

theorem onO_of {α : Type} {o : Option α} {x : α} {k : α → Prop} (h : o = some x) (q : k x) : onO o k := by subst h; exact q
theorem onHL_of {o : Option O} {k : List V → Prop} (h : o = some (.list vs)) (q : k vs) : onHL o k := by subst h; exact q
theorem onIn_of {C dx : Addr} {o : Option O} {k : Addr → Prop} (h : o = some (.inst C dx)) (q : k dx) : onIn C o k := by subst h; exact ⟨rfl, q⟩
theorem onFl_of {fs : List (Str × V)} {o : Option O} {k : List (Str × V) → Prop} (h : o = some (.flds fs)) (q : k fs) : onFl o k := by subst h; exact q
theorem sq_l (h : lk cx H a = some (.list vs)) : sq cx H a = some vs := by unfold sq; rw [h]
theorem sq_t (h : lk cx H a = some (.tup vs)) : sq cx H a = some vs := by unfold sq; rw [h]
theorem lst_l (h : lk cx H a = some (.list vs)) : lst cx H a = some vs := by unfold lst; rw [h]
theorem W_sub (h : sq cx H a = some vs) (h1 : 0 ≤ i) (h2 : vs.length ≤ 16777216) (h3 : vs[i.toNat]? = some v) (q : Q v H) : subP cx (.ref a) (.int i) H Q := onO_of h ⟨h1, h2, onO_of h3 q⟩
theorem W_len (h : sq cx H a = some vs) (h2 : vs.length ≤ 16777216) (q : Q (.int vs.length) H) : callbP cx .len [.ref a] H Q := onO_of h ⟨h2, q⟩
theorem W_list (h : sq cx H a = some vs) (h2 : vs.length ≤ 16777216) (q : new cx H (.list vs) Q) : callbP cx .list [.ref a] H Q := onO_of h ⟨h2, q⟩
theorem W_attr {C dx : Addr} {x : Str} {fs : List (Str × V)} (h1 : H a = some (.inst C dx)) (h2 : H dx = some (.flds fs)) (h3 : fs.lookup x = some v) (h4 : v ≠ .other) (q : Q v H) : attrP C (.ref a) x H Q := onIn_of (k := fun dx => onFl (H dx) fun fs => onO (fs.lookup x) fun v => v ≠ .other ∧ Q v H) h1 (onFl_of h2 (onO_of h3 ⟨h4, q⟩))
theorem W_inst {C dx : Addr} {x : Str} {fs : List (Str × V)} (h1 : H a = some (.inst C dx)) (h2 : H dx = some (.flds fs)) (h3 : fs.lookup x = none) : instP C (.ref a) x H := onIn_of (k := fun dx => onFl (H dx) fun fs => fs.lookup x = none) h1 (onFl_of h2 h3)
theorem W_setAttr {C dx : Addr} {x : Str} {fs : List (Str × V)} {P : HP → Prop} (h1 : H a = some (.inst C dx)) (h2 : H dx = some (.flds fs)) (h3 : fs.length < 100) (q : P (upd H dx (.flds (putF x v fs)))) : setAttrP C (.ref a) x v H P := onIn_of (k := fun dx => onFl (H dx) fun fs => fs.length < 100 ∧ P (upd H dx (.flds (putF x v fs)))) h1 (onFl_of h2 ⟨h3, q⟩)
theorem W_la (h : H a = some (.list vs)) : listAt (.ref a) H := onHL_of h trivial
theorem W_app (h : H a = some (.list vs)) (h2 : vs.length ≤ 16777216) (q : Q .none (upd H a (.list (vs ++ [v])))) : appP cx false (.ref a) v H Q := onHL_of (k := fun vs => vs.length ≤ 16777216 ∧ Q .none (upd H a (.list (vs ++ [v])))) h ⟨h2, q⟩
theorem W_cat (h1 : lst cx H x = some vs) (h2 : lst cx H y = some ws) (h3 : vs.length + ws.length ≤ 16777216) (q : new cx H (.list (vs ++ ws)) Q) : binP cx .Add (.ref x) (.ref y) H Q := onO_of h1 (onO_of h2 ⟨h3, q⟩)
theorem W_rep (h1 : lst cx H x = some vs) (h2 : -16777216 < i) (h3 : i < 16777216) (h4 : vs.length * i.toNat ≤ 16777216) (q : new cx H (.list (List.replicate i.toNat vs).flatten) Q) : binP cx .Mult (.ref x) (.int i) H Q := onO_of h1 ⟨h2, h3, h4, q⟩
theorem W_slice {l h : Nat} (h1 : lk cx H a = some (.list vs)) (h2 : cutLo vs.length v = some l) (h3 : cutHi vs.length w = some h) (h4 : vs.length ≤ 16777216) (q : new cx H (.list (cut vs l h)) Q) : sliceP cx (.ref a) v w H Q := onHL_of h1 (onO_of h2 (onO_of h3 ⟨h4, q⟩))
theorem W_ext (h : H a = some (.list vs)) (h1 : lk cx H x = some (.list ws)) (h2 : vs.length + ws.length ≤ 16777216) (q : Q .none (upd H a (.list (vs ++ ws)))) : appP cx true (.ref a) (.ref x) H Q := onHL_of (k := fun vs => onHL (lk cx H x) fun ws => vs.length + ws.length ≤ 16777216 ∧ Q .none (upd H a (.list (vs ++ ws)))) h (onHL_of h1 ⟨h2, q⟩)
theorem W_pop (h : H a = some (.list vs)) (h1 : vs.getLast? = some v) (h2 : vs.length ≤ 16777216) (q : Q v (upd H a (.list vs.dropLast))) : popP false (.ref a) H Q := onHL_of (k := fun vs => onO vs.getLast? fun v => vs.length ≤ 16777216 ∧ Q v (upd H a (.list vs.dropLast))) h (onO_of h1 ⟨h2, q⟩)
theorem W_clr (h : H a = some (.list vs)) (h2 : vs.length ≤ 16777216) (q : Q .none (upd H a (.list []))) : popP true (.ref a) H Q := onHL_of (k := fun vs => vs.length ≤ 16777216 ∧ Q .none (upd H a (.list []))) h ⟨h2, q⟩
theorem onD_of {kvs : List (Int × V)} {o : Option O} {k : List (Int × V) → Prop} (h : o = some (.dct kvs)) (q : k kvs) : onD o k := by subst h; exact q
theorem W_dsub {kvs : List (Int × V)} (h : H a = some (.dct kvs)) (h1 : getK kvs i = some v) (q : Q v H) : dsubP (.ref a) (.int i) H Q := onD_of h (onO_of h1 q)
theorem W_setD {kvs : List (Int × V)} {P : HP → Prop} (h : H a = some (.dct kvs)) (h2 : kvs.length ≤ 16777216) (q : P (upd H a (.dct (putK kvs i v)))) : setDP (.ref a) (.int i) v H P := onD_of h ⟨h2, q⟩
theorem W_setSub {P : HP → Prop} (h : H a = some (.list vs)) (h1 : 0 ≤ i) (h2 : vs.length ≤ 16777216) (h3 : i.toNat < vs.length) (q : P (upd H a (.list (vs.set i.toNat v)))) : setSubP (.ref a) (.int i) v H P := onHL_of h ⟨h1, h2, h3, q⟩
theorem W_iter {P : List V → (HP → Prop) → HP → Prop} (h : lk cx H a = some (.list vs)) (h2 : vs.length ≤ 16777216) (q : P vs (fun H' => lk cx H' a = some (.list vs)) H) : IterP cx (.ref a) H P := onHL_of h ⟨h2, q⟩

theorem l_n {k : V → Prop} : onL .none k = k .none := rfl
theorem l_b {b : Bool} {k : V → Prop} : onL (.bool b) k = k (.bool b) := rfl
theorem l_i {k : V → Prop} : onL (.int i) k = k (.int i) := rfl
theorem l_s {x : Str} {k : V → Prop} : onL (.str x) k = k (.str x) := rfl
theorem l_r {k : V → Prop} : onL (.ref a) k = k (.ref a) := rfl
theorem o_b {b : Bool} {k : Bool → Prop} : onB (.bool b) k = k b := rfl
theorem o_i {k : Int → Prop} : onI (.int i) k = k i := rfl
theorem o_r {k : Addr → Prop} : onR (.ref a) k = k a := rfl
theorem o_s {α : Type} {x : α} {k : α → Prop} : onO (some x) k = k x := rfl
theorem if_t {P P' : Prop} : ifB true P P' = P := rfl
theorem if_f {P P' : Prop} : ifB false P P' = P' := rfl
theorem bin_add : binP cx .Add (.int i) (.int j) H Q = Q (.int (i + j)) H := rfl
theorem bin_sub : binP cx .Sub (.int i) (.int j) H Q = Q (.int (i - j)) H := rfl
theorem bin_mul : binP cx .Mult (.int i) (.int j) H Q = (IntMulOk i j ∧ Q (.int (i * j)) H) := rfl
theorem bin_div : binP cx .FloorDiv (.int i) (.int j) H Q = (j ≠ 0 ∧ Q (.int (i.fdiv j)) H) := rfl
theorem bin_mod : binP cx .Mod (.int i) (.int j) H Q = (j ≠ 0 ∧ Q (.int (i.fmod j)) H) := rfl
theorem bin_pow : binP cx .Pow (.int i) (.int j) H Q = (0 ≤ j ∧ (Builtin.Int.intBits i : Int) * j ≤ 2 ^ 27 ∧ Q (.int (i ^ j.toNat)) H) := rfl
theorem cm_lt : cmpP cx .Lt (.int i) (.int j) H = some (decide (i < j)) := rfl
theorem cm_le : cmpP cx .LtE (.int i) (.int j) H = some (decide (i ≤ j)) := rfl
theorem cm_gt : cmpP cx .Gt (.int i) (.int j) H = some (decide (j < i)) := rfl
theorem cm_eq : cmpP cx .Eq (.int i) (.int j) H = some (PyData.eqv (.int i) (.int j)) := rfl
theorem cm_ne : cmpP cx .NotEq (.int i) (.int j) H = some (!PyData.eqv (.int i) (.int j)) := rfl
theorem cm_isn : cmpP cx .Is v w H = isP v w := rfl
theorem cm_isnn : cmpP cx .IsNot v w H = (isP v w).map fun c => !c := rfl
theorem eqv_int (i j : Int) : PyData.eqv (.int i) (.int j) = (i == j) := by unfold PyData.eqv; rfl
theorem rn_i (P : List V → Prop) : RngP (.int i) (.int j) P = ((-1152921504606846976 < i ∧ i < 1152921504606846976) ∧ (-1152921504606846976 < j ∧ j < 1152921504606846976) ∧ P (intsV (rangeL i j))) := rfl
theorem cb_min : callbP cx .min [.int i, .int j] H Q = Q (.int (if j < i then j else i)) H := rfl
theorem x_fn {f : Addr} {μ : List V} : xdoP cx n (.fn f) μ vs H Q = CallX cx n f vs H Q := rfl
theorem x_mt {C f : Addr} {x : Str} {j : Nat} {μ : List V} : xdoP cx n (.mt C x f j) μ vs H Q = CallX cx n f (getL μ j :: vs) H Q := rfl
theorem x_mk {C f : Addr} {μ : List V} : xdoP cx n (.mk C f) μ vs H Q = mkX cx n C f vs H Q := rfl
theorem p_fn {f : Addr} {μ : List V} : xpre (.fn f) μ H = True := rfl
theorem p_mt {C f : Addr} {x : Str} {j : Nat} {μ : List V} : xpre (.mt C x f j) μ H = instP C (getL μ j) x H := rfl
theorem p_mk {C f : Addr} {μ : List V} : xpre (.mk C f) μ H = True := rfl
theorem s_so {μ : List V} {k : Nat} : setO μ (some k) v = setL μ k v := rfl
theorem s_no {μ : List V} : setO μ none v = μ := rfl
theorem ox_e {C : Addr} {k : V → Prop} {z : Addr → Prop} : onX (.exc C) k z = z C := rfl
theorem ox_n {k : V → Prop} {z : Addr → Prop} : onX .none k z = k .none := rfl
theorem ox_r {k : V → Prop} {z : Addr → Prop} : onX (.ref a) k z = k (.ref a) := rfl
theorem ox_i {k : V → Prop} {z : Addr → Prop} : onX (.int i) k z = k (.int i) := rfl
theorem ox_b {b : Bool} {k : V → Prop} {z : Addr → Prop} : onX (.bool b) k z = k (.bool b) := rfl
theorem ox_s {x : Str} {k : V → Prop} {z : Addr → Prop} : onX (.str x) k z = k (.str x) := rfl
theorem n_t : (!true) = false := rfl
theorem n_f : (!false) = true := rfl
theorem is_nn : isP .none .none = some true := rfl
theorem is_in : isP (.int i) .none = some false := rfl
theorem is_rn : isP (.ref a) .none = some false := rfl
theorem is_ib {b : Bool} : isP (.int i) (.bool b) = some false := rfl
theorem is_bb {b c : Bool} : isP (.bool b) (.bool c) = some (b == c) := rfl
end
end Mine
end

section
namespace Mine

noncomputable abbrev Th := Bool × Int
noncomputable abbrev Bx := List (List Th)

noncomputable def pl (B : Bx) (k : Nat) : Nat := ((B.take k).map (fun f => 1 + f.length)).sum
theorem pl_zero (B : Bx) : pl B 0 = 0 := by simp [pl]
theorem pl_nil (k : Nat) : pl [] k = 0 := by simp [pl]
theorem pl_cons (f : List Th) (B : Bx) (k : Nat) : pl (f :: B) (k + 1) = 1 + f.length + pl B k := by simp [pl]
theorem pl_succ : ∀ {B : Bx} {k : Nat} {f : List Th}, B[k]? = some f → pl B (k + 1) = pl B k + 1 + f.length
  | [], _, _, h => by simp at h
  | g :: B, 0, f, h => by
    simp at h; subst h
    rw [pl_cons, pl_zero, pl_zero]; first | lia | omega
  | g :: B, k + 1, f, h => by
    simp at h
    rw [pl_cons, pl_cons, pl_succ h]; first | lia | omega
theorem pl_step (B : Bx) (k : Nat) : pl B k ≤ pl B (k + 1) := by
  cases h : B[k]? with
  | some f => rw [pl_succ h]; first | lia | omega
  | none =>
    have : B.length ≤ k := List.getElem?_eq_none_iff.mp h
    simp [pl, List.take_of_length_le this, List.take_of_length_le (show B.length ≤ k + 1 by first | lia | omega)]
theorem pl_mono {B : Bx} {i j : Nat} (h : i ≤ j) : pl B i ≤ pl B j := by
  induction h with
  | refl => exact Nat.le_refl _
  | step _ ih => exact Nat.le_trans ih (pl_step B _)
theorem pl_lt {B : Bx} {i j : Nat} (hi : i < B.length) (h : i < j) : pl B i < pl B j := by
  have e := pl_succ (List.getElem?_eq_getElem hi)
  have := pl_mono (B := B) (show i + 1 ≤ j from h)
  first | lia | omega
theorem pl_inj {B : Bx} {i j : Nat} (hi : i < B.length) (hj : j < B.length) (h : pl B i = pl B j) : i = j := by
  rcases Nat.lt_trichotomy i j with q | q | q
  · have := pl_lt hi q; first | lia | omega
  · exact q
  · have := pl_lt hj q; first | lia | omega
theorem pl_ne {B : Bx} {k j i : Nat} {f : List Th} (h : B[k]? = some f) (hj : j < f.length) : pl B k + 1 + j ≠ pl B i := by
  intro e
  have e2 := pl_succ h
  rcases Nat.lt_or_ge k i with q | q
  · have := pl_mono (B := B) (show k + 1 ≤ i from q); first | lia | omega
  · have := pl_mono (B := B) q; first | lia | omega

noncomputable def word (g : Nat → Nat) (t : Th) : Int := if t.1 = true then 2 * (g t.2.toNat : Int) + 1 else 2 * t.2
noncomputable def cellsOf (g : Nat → Nat) (f : List Th) : List Int := (4 * (f.length : Int)) :: f.map (word g)
noncomputable def rowOf (g : Nat → Nat) (B : Bx) : List Int := (B.map (cellsOf g)).flatten
theorem rowOf_cons (g : Nat → Nat) (f : List Th) (B : Bx) : rowOf g (f :: B) = cellsOf g f ++ rowOf g B := by simp [rowOf]
theorem cellsOf_length (g : Nat → Nat) (f : List Th) : (cellsOf g f).length = 1 + f.length := by simp [cellsOf]; first | lia | omega
theorem rowOf_length (g : Nat → Nat) : ∀ B : Bx, (rowOf g B).length = pl B B.length
  | [] => by simp [rowOf, pl]
  | f :: B => by rw [rowOf_cons, List.length_append, cellsOf_length, rowOf_length g B, List.length_cons, pl_cons]
theorem rowOf_append (g : Nat → Nat) (B C : Bx) : rowOf g (B ++ C) = rowOf g B ++ rowOf g C := by simp [rowOf]
theorem rowOf_at (g : Nat → Nat) (zs : List Int) : ∀ {B : Bx} {k : Nat} {f : List Th} (j : Nat), B[k]? = some f → j < 1 + f.length → (rowOf g B ++ zs)[pl B k + j]? = (cellsOf g f)[j]?
  | [], _, _, _, h, _ => by simp at h
  | e :: B, 0, f, j, h, hj => by
    simp at h; subst h
    rw [pl_zero, rowOf_cons, List.append_assoc, Nat.zero_add, List.getElem?_append_left (by rw [cellsOf_length]; exact hj)]
  | e :: B, k + 1, f, j, h, hj => by
    simp at h
    rw [pl_cons, rowOf_cons, List.append_assoc, List.getElem?_append_right (by rw [cellsOf_length]; first | lia | omega), cellsOf_length]
    rw [show 1 + e.length + pl B k + j - (1 + e.length) = pl B k + j from by first | lia | omega]
    exact rowOf_at g zs j h hj
theorem rowOf_head (g : Nat → Nat) (zs : List Int) {B : Bx} {k : Nat} {f : List Th} (h : B[k]? = some f) : (rowOf g B ++ zs)[pl B k]? = some (4 * (f.length : Int)) := by
  have := rowOf_at g zs 0 h (by first | lia | omega)
  simpa [cellsOf] using this
theorem rowOf_field (g : Nat → Nat) (zs : List Int) {B : Bx} {k j : Nat} {f : List Th} {t : Th} (h : B[k]? = some f) (hj : f[j]? = some t) : (rowOf g B ++ zs)[pl B k + 1 + j]? = some (word g t) := by
  have hl : j < f.length := (List.getElem?_eq_some_iff.mp hj).1
  have := rowOf_at g zs (1 + j) h (by first | lia | omega)
  rw [show pl B k + 1 + j = pl B k + (1 + j) from by first | lia | omega, this, Nat.add_comm 1 j]
  simp [cellsOf, hj]

structure Shp (B : Bx) (xs : List Int) : Prop where
  len : xs.length ≤ 1000
  hd : ∀ {k : Nat} {f : List Th}, B[k]? = some f → xs[pl B k]? = some (4 * (f.length : Int))
  fld : ∀ {k j : Nat} {f : List Th} {t : Th}, B[k]? = some f → f[j]? = some t → xs[pl B k + 1 + j]? = some (word (pl B) t)
structure WFB (B : Bx) : Prop where
  pos : 0 < B.length
  tgt : ∀ f ∈ B, ∀ t ∈ f, t.1 = true → ∃ j : Nat, t.2 = (j : Int) ∧ j < B.length
theorem shp_rowOf {B : Bx} {zs : List Int} (h : (rowOf (pl B) B ++ zs).length ≤ 1000) : Shp B (rowOf (pl B) B ++ zs) :=
  ⟨h, fun h => rowOf_head _ _ h, fun h hj => rowOf_field _ _ h hj⟩

inductive Reach (B : Bx) : Nat → Prop
  | zero : Reach B 0
  | step {k j : Nat} {f : List Th} : Reach B k → B[k]? = some f → (true, (j : Int)) ∈ f → Reach B j
theorem Reach.lt {B : Bx} (w : WFB B) {k : Nat} (h : Reach B k) : k < B.length := by
  cases h with
  | zero => exact w.pos
  | step _ hf ht =>
    obtain ⟨j, e, hj⟩ := w.tgt _ (List.mem_of_getElem? hf) _ ht rfl
    have : _ = j := Int.ofNat.inj e
    first | lia | omega

theorem nodup_bound : ∀ (n : Nat) {l : List Nat}, l.Nodup → (∀ k ∈ l, k < n) → l.length ≤ n
  | 0, l, _, h => by
    cases l with
    | nil => simp
    | cons a l => exact absurd (h a List.mem_cons_self) (by first | lia | omega)
  | n + 1, l, hn, h => by
    by_cases q : n ∈ l
    · have h1 := nodup_bound n (l := l.erase n) (hn.erase n) (fun k hk => by
        have h2 := h k (List.mem_of_mem_erase hk)
        have h3 : k ≠ n := fun e => by subst e; exact (List.Nodup.not_mem_erase hn) hk
        omega)
      rw [List.length_erase_of_mem q] at h1
      first | lia | omega
    · have := nodup_bound n hn (fun k hk => by
        have h2 := h k hk
        have h3 : k ≠ n := fun e => by subst e; exact q hk
        omega)
      first | lia | omega

noncomputable def bump (xs : List Int) (cs : List Nat) : List Int := xs.mapIdx fun i x => if i ∈ cs then x + 2 else x
theorem bump_length (xs : List Int) (cs : List Nat) : (bump xs cs).length = xs.length := by simp [bump]
theorem bump_get (xs : List Int) (cs : List Nat) (i : Nat) : (bump xs cs)[i]? = xs[i]?.map fun x => if i ∈ cs then x + 2 else x := by simp [bump]
theorem bump_nil (xs : List Int) : bump xs [] = xs := by
  apply List.ext_getElem?; intro i; rw [bump_get]; simp
theorem bump_congr (xs : List Int) {cs ds : List Nat} (h : ∀ i, i ∈ cs ↔ i ∈ ds) : bump xs cs = bump xs ds := by
  apply List.ext_getElem?; intro i; rw [bump_get, bump_get]; simp [h]
theorem bump_set {xs : List Int} {cs : List Nat} {c : Nat} {x : Int} (hx : xs[c]? = some x) : (bump xs cs).set c (x + 2) = bump xs (c :: cs) := by
  apply List.ext_getElem?; intro i
  rw [List.getElem?_set, bump_get, bump_get, bump_length]
  by_cases h : c = i
  · subst h
    have : c < xs.length := (List.getElem?_eq_some_iff.mp hx).1
    simp [this, (List.getElem?_eq_some_iff.mp hx).2]
  · have : ¬ i = c := fun e => h e.symm
    simp [h, this]

theorem getD_of {B : Bx} {k : Nat} {fl : List Th} (h : B[k]? = some fl) : B.getD k [] = fl := by simp [List.getD, h]
theorem tgt_of {B : Bx} (w : WFB B) {i f : Nat} {fi : List Th} {v : Int} (h : B[i]? = some fi) (hf : fi[f]? = some (true, v)) : ∃ j : Nat, v = (j : Int) ∧ j < B.length :=
  w.tgt _ (List.mem_of_getElem? h) _ (List.mem_of_getElem? hf) rfl
end Mine
end

section
namespace Mine

noncomputable def kl (p : Nat → Bool) (n : Nat) : List Nat := (List.range n).filter p
theorem kl_succ (p : Nat → Bool) (n : Nat) : kl p (n + 1) = kl p n ++ if p n then [n] else [] := by
  simp [kl, List.range_succ, List.filter_append, List.filter_cons]
theorem kl_mem {p : Nat → Bool} {n x : Nat} : x ∈ kl p n ↔ x < n ∧ p x = true := by simp [kl]
theorem kl_sorted (p : Nat → Bool) (n : Nat) : (kl p n).Pairwise (· < ·) := List.Pairwise.filter _ List.pairwise_lt_range

end Mine
end

section
namespace Mine
noncomputable def rowN (N : Nat) (B : Bx) : List Int := rowOf (pl B) B ++ List.replicate (N - pl B B.length) 0
theorem rowN_length {N : Nat} {B : Bx} (h : pl B B.length ≤ N) : (rowN N B).length = N := by
  rw [rowN, List.length_append, rowOf_length, List.length_replicate]; first | lia | omega
theorem shp_N {N : Nat} {B : Bx} (h : pl B B.length ≤ N) (h4 : N ≤ 400) : Shp B (rowN N B) := shp_rowOf (by
  have := rowN_length h
  unfold rowN at this
  rw [this]; first | lia | omega)
noncomputable def plt (B : Bx) (t : Th) : Th := if t.1 = true then (true, (pl B t.2.toNat : Int)) else t
noncomputable def wordP (t : Th) : Int := if t.1 = true then 2 * t.2 + 1 else 2 * t.2
theorem word_plt (B : Bx) (t : Th) : wordP (plt B t) = word (pl B) t := by
  unfold wordP plt word
  by_cases h : t.1 = true
  · simp [h]
  · simp [h]
theorem plt_1 (B : Bx) (t : Th) : (plt B t).1 = t.1 := by
  unfold plt; split <;> simp_all
noncomputable def OkT (B : Bx) (t : Th) : Prop := t.1 = true → ∃ j : Nat, t.2 = (j : Int) ∧ j < B.length
theorem rowOf_congr {g g' : Nat → Nat} {B : Bx} (h : ∀ f ∈ B, ∀ t ∈ f, word g t = word g' t) : rowOf g B = rowOf g' B := by
  unfold rowOf
  congr 1
  apply List.map_congr_left
  intro f hf
  unfold cellsOf
  congr 1
  exact List.map_congr_left fun t ht => h f hf t ht
theorem pl_app (B : Bx) (f : List Th) {k : Nat} (h : k ≤ B.length) : pl (B ++ [f]) k = pl B k := by
  unfold pl
  rw [List.take_append_of_le_length h]
theorem pl_app_len (B : Bx) (f : List Th) : pl (B ++ [f]) (B ++ [f]).length = pl B B.length + 1 + f.length := by
  have : (B ++ [f])[B.length]? = some f := by simp
  rw [List.length_append, List.length_singleton, pl_succ this, pl_app B f (Nat.le_refl _)]
theorem word_app {B : Bx} {f : List Th} {t : Th} (h : OkT B t) : word (pl (B ++ [f])) t = word (pl B) t := by
  unfold word
  by_cases q : t.1 = true
  · obtain ⟨j, e, hj⟩ := h q
    rw [if_pos q, if_pos q, e, Int.toNat_natCast, pl_app B f (by first | lia | omega)]
  · rw [if_neg q, if_neg q]
theorem wfb_app {B : Bx} {f : List Th} (w : WFB B) (h : ∀ t ∈ f, OkT B t) : WFB (B ++ [f]) := by
  refine ⟨by simp, fun g hg t ht e => ?_⟩
  rw [List.length_append, List.length_singleton]
  rcases List.mem_append.mp hg with q | q
  · obtain ⟨j, a, b⟩ := w.tgt g q t ht e
    exact ⟨j, a, by first | lia | omega⟩
  · rw [List.mem_singleton] at q; subst q
    obtain ⟨j, a, b⟩ := h t ht e
    exact ⟨j, a, by first | lia | omega⟩
theorem rowN_app {N : Nat} {B : Bx} {f : List Th} (w : WFB B) (hle : pl B B.length + 1 + f.length ≤ N) (h : ∀ t ∈ f, OkT B t) :
    (rowN N B).take (pl B B.length) ++ ((4 * (f.length : Int)) :: f.map (word (pl B))) ++ (rowN N B).drop (pl B B.length + 1 + f.length) = rowN N (B ++ [f]) := by
  have hr : (rowOf (pl B) B).length = pl B B.length := rowOf_length _ _
  have h1 : rowOf (pl (B ++ [f])) (B ++ [f]) = rowOf (pl B) B ++ ((4 * (f.length : Int)) :: f.map (word (pl B))) := by
    rw [rowOf_append, rowOf_congr (g' := pl B) (B := B) fun g hg t ht => word_app (w.tgt g hg t ht), rowOf_congr (g' := pl B) (B := [f]) fun g hg t ht => by
      rw [List.mem_singleton] at hg; subst hg; exact word_app (h t ht)]
    simp [rowOf, cellsOf]
  rw [rowN, rowN, pl_app_len, h1, List.take_append_of_le_length (by rw [hr]; exact Nat.le_refl _), List.take_of_length_le (by rw [hr]; exact Nat.le_refl _), List.drop_append, hr, List.drop_of_length_le (by rw [hr]; first | lia | omega), List.nil_append, List.drop_replicate]
  congr 2
  first | lia | omega
theorem pl_set {B : Bx} {k : Nat} {g f : List Th} (h : B[k]? = some f) (hl : g.length = f.length) (i : Nat) : pl (B.set k g) i = pl B i := by
  unfold pl
  rw [List.take_set, List.map_set, show 1 + g.length = 1 + f.length by rw [hl]]
  congr 1
  apply List.ext_getElem?
  intro m
  rw [List.getElem?_set]
  by_cases q : k = m
  · subst q
    simp only [if_pos, List.length_map, List.length_take, List.getElem?_map]
    by_cases q2 : k < min i B.length
    · rw [if_pos q2, List.getElem?_take_of_lt (by first | lia | omega), h]; rfl
    · rw [if_neg q2]
      have : (B.take i)[k]? = none := by rw [List.getElem?_eq_none_iff, List.length_take]; first | lia | omega
      rw [this]; rfl
  · rw [if_neg q]
theorem pl_set_len {B : Bx} {k : Nat} {g f : List Th} (h : B[k]? = some f) (hl : g.length = f.length) : pl (B.set k g) (B.set k g).length = pl B B.length := by
  rw [pl_set h hl, List.length_set]
theorem wfb_set {B : Bx} {k j : Nat} {f : List Th} {t : Th} (w : WFB B) (hk : B[k]? = some f) (h : OkT B t) : WFB (B.set k (f.set j t)) := by
  refine ⟨by rw [List.length_set]; exact w.pos, fun g hg u hu e => ?_⟩
  rw [List.length_set]
  rcases List.mem_or_eq_of_mem_set hg with q | q
  · exact w.tgt g q u hu e
  · subst q
    rcases List.mem_or_eq_of_mem_set hu with q | q
    · exact w.tgt f (List.mem_of_getElem? hk) u q e
    · subst q; exact h e
theorem rowOf_set (g : Nat → Nat) (t : Th) : ∀ {B : Bx} {k j : Nat} {f : List Th}, B[k]? = some f → j < f.length → rowOf g (B.set k (f.set j t)) = (rowOf g B).set (pl B k + 1 + j) (word g t)
  | [], _, _, _, h, _ => by simp at h
  | e :: B, 0, j, f, h, hj => by
    simp at h; subst h
    rw [List.set_cons_zero, rowOf_cons, rowOf_cons, pl_zero, show 0 + 1 + j = j + 1 from by first | lia | omega, List.set_append_left _ _ (by rw [cellsOf_length]; first | lia | omega)]
    congr 1
    simp [cellsOf, List.map_set]
  | e :: B, k + 1, j, f, h, hj => by
    simp at h
    rw [List.set_cons_succ, rowOf_cons, rowOf_cons, pl_cons, rowOf_set g t h hj, List.set_append_right _ _ (by rw [cellsOf_length]; first | lia | omega), cellsOf_length]
    congr 2
    first | lia | omega
theorem rowN_set {N : Nat} {B : Bx} {k j : Nat} {f : List Th} {t : Th} (hk : B[k]? = some f) (hj : j < f.length) : (rowN N B).set (pl B k + 1 + j) (word (pl B) t) = rowN N (B.set k (f.set j t)) := by
  have hp : pl (B.set k (f.set j t)) = pl B := by funext i; exact pl_set hk (by simp) i
  have h1 := pl_succ hk
  have h2 := pl_mono (B := B) (show k + 1 ≤ B.length from (List.getElem?_eq_some_iff.mp hk).1)
  rw [rowN, rowN, hp, rowOf_set _ _ hk hj, List.length_set, List.set_append_left _ _ (by rw [rowOf_length]; first | lia | omega)]
theorem pl_room (d : Nat) : pl [List.replicate d (false, 0)] 1 = d + 1 := by simp [pl]; first | lia | omega
theorem wfb_room (d : Nat) : WFB [List.replicate d (false, 0)] := by
  refine ⟨by simp, fun f hf t ht e => ?_⟩
  rw [List.mem_singleton] at hf; subst hf
  have := List.eq_of_mem_replicate ht
  subst this; cases e
theorem rowN_room {N d : Nat} (h : d + 1 ≤ N) : (4 * (d : Int)) :: List.replicate (N - 1) 0 = rowN N [List.replicate d (false, 0)] := by
  rw [rowN, List.length_singleton, pl_room]
  simp only [rowOf, List.map_cons, List.map_nil, List.flatten_cons, List.flatten_nil, List.append_nil, cellsOf, List.length_replicate, List.map_replicate, List.cons_append]
  rw [show word (pl [List.replicate d (false, 0)]) (false, 0) = 0 from by simp [word], List.replicate_append_replicate]
  congr 2
  first | lia | omega
end Mine
end

namespace Mine
open PySem PyProof.Rows
structure Ext (cx : Cx) (H H' : HP) : Prop where
  le : LE H H'
  z : ∀ a l, cx.Z a = some l → H a = none → H' a = none
section
variable {cx : Cx} {H H' H'' : HP} {n : Nat} {a r : Addr} {o : O} {Q : V → HP → Prop}
theorem Ext.refl (cx : Cx) (H : HP) : Ext cx H H := ⟨LE.refl H, fun _ _ _ h => h⟩
theorem Ext.trans (x : Ext cx H H') (y : Ext cx H' H'') : Ext cx H H'' := ⟨x.le.trans y.le, fun a l h1 h2 => y.z a l h1 (x.z a l h1 h2)⟩
theorem Ext.lk (x : Ext cx H H') (h : lk cx H a = some o) : Mine.lk cx H' a = some o := by
  unfold Mine.lk at h ⊢
  cases e : H a with
  | some o' => rw [e] at h; rw [x.le a o' e]; exact h
  | none =>
    rw [e] at h
    cases e2 : cx.Z a with
    | none => rw [e2] at h; cases h
    | some l => rw [e2] at h; rw [x.z a l e2 e]; exact h
theorem Ext.upd (x : Ext cx H H') (h1 : H r = none) (h2 : cx.Z r = none) (o : O) : Ext cx H (upd H' r o) := by
  refine ⟨fun b o' e => ?_, fun b l e1 e2 => ?_⟩
  · have : b ≠ r := fun q => by subst q; rw [h1] at e; cases e
    rw [upd_ne _ this]; exact x.le b o' e
  · have : b ≠ r := fun q => by subst q; rw [h2] at e1; cases e1
    rw [upd_ne _ this]; exact x.z b l e1 e2
theorem Ext.new (hr : Fresh cx H r) (o : O) : Ext cx H (Mine.upd H r o) := (Ext.refl cx H).upd hr.1 hr.2.2 o
theorem Ext.new' (x : Ext cx H H') (hr : Fresh cx H' r) (o : O) : Ext cx H (Mine.upd H' r o) := x.trans (Ext.new hr o)
theorem Ext.fresh (x : Ext cx H H') (hr : Fresh cx H' r) : Fresh cx H r := by
  refine ⟨?_, hr.2⟩
  cases e : H r with
  | none => rfl
  | some o => have := x.le r o e; rw [hr.1] at this; cases this

noncomputable def All2 {α β : Type} (R : α → β → Prop) (xs : List α) (ys : List β) : Prop := xs.length = ys.length ∧ ∀ (i : Nat) (x : α) (y : β), xs[i]? = some x → ys[i]? = some y → R x y
theorem All2.nil {α β : Type} {R : α → β → Prop} : All2 R [] [] := ⟨rfl, fun i x y h => by simp at h⟩
theorem All2.snoc {α β : Type} {R : α → β → Prop} {xs : List α} {ys : List β} (h : All2 R xs ys) {x : α} {y : β} (hr : R x y) : All2 R (xs ++ [x]) (ys ++ [y]) := by
  refine ⟨by simp [h.1], fun i u v hu hv => ?_⟩
  by_cases q : i < xs.length
  · rw [List.getElem?_append_left q] at hu
    rw [List.getElem?_append_left (by rw [← h.1]; exact q)] at hv
    exact h.2 i u v hu hv
  · rw [List.getElem?_append_right (by first | with_reducible exact Int.natCast_nonneg _ | with_reducible assumption | lia | omega)] at hu
    rw [List.getElem?_append_right (by rw [← h.1]; first | with_reducible exact Int.natCast_nonneg _ | with_reducible assumption | lia | omega), ← h.1] at hv
    cases e : i - xs.length with
    | zero => rw [e] at hu hv; simp at hu hv; subst hu; subst hv; exact hr
    | succ m => rw [e] at hu; simp at hu
theorem All2.imp {α β : Type} {R S : α → β → Prop} {xs : List α} {ys : List β} (h : All2 R xs ys) (f : ∀ x y, R x y → S x y) : All2 S xs ys := ⟨h.1, fun i x y a b => f x y (h.2 i x y a b)⟩
theorem All2.get {α β : Type} {R : α → β → Prop} {xs : List α} {ys : List β} (h : All2 R xs ys) {i : Nat} {x : α} (hx : xs[i]? = some x) : ∃ y, ys[i]? = some y ∧ R x y := by
  have hl := (List.getElem?_eq_some_iff.mp hx).1
  have hl' : i < ys.length := by rw [← h.1]; exact hl
  have hy : ys[i]? = some ys[i] := List.getElem?_eq_getElem hl'
  exact ⟨_, hy, h.2 i x _ hx hy⟩
theorem All2.get' {α β : Type} {R : α → β → Prop} {xs : List α} {ys : List β} (h : All2 R xs ys) {i : Nat} {y : β} (hy : ys[i]? = some y) : ∃ x, xs[i]? = some x ∧ R x y := by
  have hl := (List.getElem?_eq_some_iff.mp hy).1
  have hl' : i < xs.length := by rw [h.1]; exact hl
  have hx : xs[i]? = some xs[i] := List.getElem?_eq_getElem hl'
  exact ⟨_, hx, h.2 i _ y hx hy⟩

noncomputable def natsV (l : List Nat) : List V := intsV (l.map fun k : Nat => (k : Int))
theorem natsV_length (l : List Nat) : (natsV l).length = l.length := by simp [natsV, intsV]
theorem natsV_get? (l : List Nat) (i : Nat) : (natsV l)[i]? = l[i]?.map fun k : Nat => V.int (k : Int) := by simp [natsV, intsV]; rfl
theorem natsV_snoc (l : List Nat) (k : Nat) : natsV l ++ [.int (k : Int)] = natsV (l ++ [k]) := by simp [natsV, intsV]

noncomputable def thV (t : Th) : List V := [.str (Str.ofString (if t.1 = true then "box" else "number")), .int t.2]
noncomputable def ThAt (cx : Cx) (H : HP) (v : V) (t : Th) : Prop := ∃ b, v = .ref b ∧ lk cx H b = some (.tup (thV t))
theorem ThAt.ext (x : Ext cx H H') {v : V} {t : Th} : ThAt cx H v t → ThAt cx H' v t := fun ⟨b, h1, h2⟩ => ⟨b, h1, x.lk h2⟩
end
theorem len_le_pl (B : Bx) : ∀ {k}, k ≤ B.length → k ≤ pl B k
  | 0, _ => Nat.zero_le _
  | k + 1, h => by
    have := len_le_pl B (show k ≤ B.length by first | with_reducible exact Int.natCast_nonneg _ | with_reducible assumption | lia | omega)
    have := pl_lt (B := B) (i := k) (j := k + 1) (by first | with_reducible exact Int.natCast_nonneg _ | with_reducible assumption | lia | omega) (by first | with_reducible exact Int.natCast_nonneg _ | with_reducible assumption | lia | omega)
    first | lia | omega
theorem fld_le_pl {B : Bx} {k : Nat} {f : List Th} (h : B[k]? = some f) : f.length < pl B B.length := by
  have hk := (List.getElem?_eq_some_iff.mp h).1
  have h1 := pl_succ h
  have := pl_mono (B := B) (show k + 1 ≤ B.length from hk)
  first | lia | omega


section
variable {cx : Cx} {H H' : HP} {n : Nat} {a r : Addr} {o : O} {Q : V → HP → Prop}

theorem mulOk_l {a b : Int} (h : Builtin.Int.intBits a ≤ 64) : IntMulOk a b := by
  unfold IntMulOk
  have : decide (Builtin.Int.intBits a > shortFactorBits) = false := decide_eq_false (by unfold shortFactorBits; first | with_reducible exact Int.natCast_nonneg _ | with_reducible assumption | lia | omega)
  rw [this]; simp
theorem ints_length (xs : List Int) : (intsV xs).length = xs.length := by simp [intsV]
theorem imil {xs : List Int} (h : xs.length ≤ 1000) : (intsV xs).length ≤ 16777216 := by rw [ints_length]; exact Nat.le_trans h (by decide)
theorem nmil {l : List Nat} (h : l.length ≤ 1000) : (natsV l).length ≤ 16777216 := by rw [natsV_length]; exact Nat.le_trans h (by decide)
theorem ints_get? (xs : List Int) (i : Nat) : (intsV xs)[i]? = xs[i]?.map V.int := by simp [intsV]
theorem ints_set (xs : List Int) (i : Nat) (v : Int) : (intsV xs).set i (.int v) = intsV (xs.set i v) := by simp [intsV, List.map_set]
theorem cutLo_nn {m : Nat} {i : Int} (h : 0 ≤ i) : cutLo m (.int i) = some (min i.toNat m) := by
  show some (cutN m i) = _
  unfold cutN; rw [if_pos h]
theorem cutHi_nn {m : Nat} {i : Int} (h : 0 ≤ i) : cutHi m (.int i) = some (min i.toNat m) := if_pos h
theorem cut_length_le (vs : List V) (l h : Nat) : (cut vs l h).length ≤ vs.length := by simp [cut]; first | with_reducible exact Int.natCast_nonneg _ | with_reducible assumption | lia | omega
theorem cut_ints (xs : List Int) (l h : Nat) : cut (intsV xs) l h = intsV ((xs.take h).drop l) := by simp [cut, intsV]
theorem ints_append (xs ys : List Int) : intsV xs ++ intsV ys = intsV (xs ++ ys) := by simp [intsV]
theorem fmod_pos_bounds (a : Int) {b : Int} (hb : 0 < b) : 0 ≤ a.fmod b ∧ a.fmod b < b := ⟨Int.fmod_nonneg_of_pos a hb, Int.fmod_lt_of_pos a hb⟩
theorem fdiv2 (a : Int) : a.fdiv 2 = a / 2 := Int.fdiv_eq_ediv_of_nonneg _ (by decide)
theorem fdiv4 (a : Int) : a.fdiv 4 = a / 4 := Int.fdiv_eq_ediv_of_nonneg _ (by decide)
theorem fmod2 (a : Int) : a.fmod 2 = a % 2 := Int.fmod_eq_emod_of_nonneg _ (by decide)
theorem rangeL_len (x y : Int) : (intsV (rangeL x y)).length = (y - x).toNat := by simp [intsV, rangeL]

end
end Mine
local macro_rules | `(tactic| walk_at "st") => `(tactic| (try dsimp only [Mine.e_cint, Mine.e_cbool, Mine.e_cnone, Mine.e_cstr, Mine.e_loc, Mine.e_bin, Mine.e_not, Mine.e_cmp, Mine.e_bop, Mine.e_callf, Mine.e_callb, Mine.e_isi, Mine.e_app, Mine.e_pop, Mine.e_sub, Mine.e_slice, Mine.e_list, Mine.e_tup, Mine.e_comp, Mine.e_compR, Mine.e_neg, Mine.e_cmp2, Mine.e_gint, Mine.e_attr, Mine.e_callm, Mine.e_mk, Mine.e_dnil, Mine.e_done, Mine.e_dsub, Mine.es_nil, Mine.es_cons, Mine.b_one, Mine.b_and, Mine.b_or, Mine.s_assign, Mine.s_setSub, Mine.s_expr, Mine.s_ite, Mine.s_for, Mine.s_forR, Mine.s_ret, Mine.s_setAttr, Mine.s_raiseS, Mine.s_xdo, Mine.s_setD, Mine.s_try, Mine.t_act, Mine.t_ite, Mine.getL, Mine.setL, Mine.l_n, Mine.l_b, Mine.l_i, Mine.l_s, Mine.l_r, Mine.o_b, Mine.o_i, Mine.o_r, Mine.o_s, Mine.if_t, Mine.if_f, Mine.bin_add, Mine.bin_sub, Mine.bin_mul, Mine.bin_div, Mine.bin_mod, Mine.bin_pow, Mine.cm_lt, Mine.cm_le, Mine.cm_gt, Mine.cm_eq, Mine.cm_ne, Mine.cm_isn, Mine.cm_isnn, Mine.rn_i, Mine.cb_min, Mine.x_fn, Mine.x_mt, Mine.x_mk, Mine.p_fn, Mine.p_mt, Mine.p_mk, Mine.s_so, Mine.s_no, Mine.ox_e, Mine.ox_n, Mine.ox_r, Mine.ox_i, Mine.ox_b, Mine.ox_s, Mine.is_nn, Mine.is_in, Mine.is_rn, Mine.is_ib, Mine.is_bb, List.cons_append, List.nil_append, Mine.n_t, Mine.n_f]))
namespace Mine
open PySem PyProof.Rows
section
variable {cx : Cx} {H H' : HP} {n : Nat} {a r : Addr} {o : O} {Q : V → HP → Prop}
noncomputable def m_number_word : MSs :=
  (.cons (.ret (.bin .Mult (.cint (2)) (.loc 0)))
  .nil)
noncomputable def m_link_word : MSs :=
  (.cons (.ret (.bin .Add (.bin .Mult (.cint (2)) (.loc 0)) (.cint (1))))
  .nil)
noncomputable def m_head_word : MSs :=
  (.cons (.ite (.loc 1) (.cons (.ret (.bin .Add (.bin .Mult (.cint (4)) (.loc 0)) (.cint (2))))
    .nil) .nil)
  (.cons (.ret (.bin .Mult (.cint (4)) (.loc 0)))
  .nil))
noncomputable def m_is_link : MSs :=
  (.cons (.ret (.cmp (.bin .Mod (.loc 0) (.cint (2))) .Eq (.cint (1))))
  .nil)
noncomputable def m_told_by : MSs :=
  (.cons (.ret (.bin .FloorDiv (.loc 0) (.cint (2))))
  .nil)
noncomputable def m_fields_of : MSs :=
  (.cons (.ret (.bin .FloorDiv (.loc 0) (.cint (4))))
  .nil)
noncomputable def m_heads : MSs :=
  (.cons (.assign 2 (.list .nil))
  (.cons (.assign 3 (.cint (0)))
  (.cons (.while_ (.cmp (.loc 3) .Lt (.loc 1)) (.cons (.expr (.app false (.loc 2) (.loc 3)))
    (.cons (.assign 3 (.bin .Add (.bin .Add (.loc 3) (.cint (1))) (.callf 129 (.cons (.sub (.loc 0) (.loc 3)) .nil))))
    .nil)))
  (.cons (.ret (.loc 2))
  .nil))))
noncomputable def m_law_at : MSs :=
  (.cons (.ret (.sub (.bin .Add (.slice (.loc 0) (.loc 1) (.bin .Add (.loc 1) (.cint (1)))) (.list (.cons (.cint (0)) .nil))) (.cint (0))))
  .nil)
noncomputable def m_law_is_int : MSs :=
  (.cons (.ret (.bop .And (.cons (.isi (.loc 0) "int") (.cons (.cmp (.loc 0) .IsNot (.cbool true)) (.cons (.cmp (.loc 0) .IsNot (.cbool false)) .nil)))))
  .nil)
noncomputable def m_law_words_are : MSs :=
  (.cons (.ite (.bop .Or (.cons (.not (.isi (.loc 0) "list")) (.cons (.cmp (.callb .len (.cons (.loc 0) .nil)) .NotEq (.callb .len (.cons (.loc 1) .nil))) .nil))) (.cons (.ret (.cbool false))
    .nil) .nil)
  (.cons (.ret (.cmp (.callb .len (.cons (.compR (.loc 2) (.cint (0)) (.callb .len (.cons (.loc 1) .nil)) (.bop .Or (.cons (.not (.callf 314 (.cons (.sub (.loc 0) (.loc 2)) .nil))) (.cons (.cmp (.sub (.loc 0) (.loc 2)) .NotEq (.sub (.loc 1) (.loc 2))) .nil)))) .nil)) .Eq (.cint (0))))
  .nil))
theorem numw_ms {p : Int} (h : Q (.int (2 * p)) H) : mwpSs cx n m_number_word [.int p] H (NQ Q) (RQ Q) := by
  refine S_cons ?_
  walk_at "st"
  exact ⟨mulOk_l (by decide), RQ.here h⟩
theorem linkw_ms {p : Int} (h : Q (.int (2 * p + 1)) H) : mwpSs cx n m_link_word [.int p] H (NQ Q) (RQ Q) := by
  refine S_cons ?_
  walk_at "st"
  exact ⟨mulOk_l (by decide), RQ.here h⟩
theorem headw_ms {p : Int} (h : Q (.int (4 * p)) H) : mwpSs cx n m_head_word [.int p, .bool false] H (NQ Q) (RQ Q) := by
  refine S_cons ?_
  walk_at "st"
  refine S_nil (S_cons ?_)
  walk_at "st"
  exact ⟨mulOk_l (by decide), RQ.here h⟩
theorem islink_ms {w : Int} (h : Q (.bool (w.fmod 2 == 1)) H) : mwpSs cx n m_is_link [.int w] H (NQ Q) (RQ Q) := by
  refine S_cons ?_
  walk_at "st"
  rw [eqv_int]
  exact ⟨by decide, RQ.here h⟩
theorem told_ms {w : Int} (h : Q (.int (w.fdiv 2)) H) : mwpSs cx n m_told_by [.int w] H (NQ Q) (RQ Q) := by
  refine S_cons ?_
  walk_at "st"
  exact ⟨by decide, RQ.here h⟩
theorem fields_ms {w : Int} (h : Q (.int (w.fdiv 4)) H) : mwpSs cx n m_fields_of [.int w] H (NQ Q) (RQ Q) := by
  refine S_cons ?_
  walk_at "st"
  exact ⟨by decide, RQ.here h⟩
noncomputable def Fn1 (cx : Cx) (n : Nat) (f : Addr) (g : Int → V) : Prop := ∀ (w : Int) (H : HP) (Q : V → HP → Prop), Q (g w) H → CallP cx n f [.int w] H Q
noncomputable def HeadSp (cx : Cx) (n : Nat) : Prop := ∀ (p : Int) (H : HP) (Q : V → HP → Prop), Q (.int (4 * p)) H → CallP cx n 108 [.int p, .bool false] H Q

theorem heads_ms {row : Addr} {xs : List Int} {B : Bx} (h2 : Fn1 cx n 129 fun w => .int (w.fdiv 4))
    (hrow : lk cx H row = some (.list (intsV xs))) (s : Shp B xs) (hB : pl B B.length ≤ 1000)
    (hQ : ∀ r H', Ext cx H H' → Fresh cx H r → H' r = some (.list (natsV ((List.range B.length).map (pl B)))) → Q (.ref r) H') :
    mwpSs cx n m_heads [.ref row, .int (pl B B.length), .unb, .unb] H (NQ Q) (RQ Q) := by
  refine S_cons ?_
  walk_at "st"
  refine ⟨by simp, fun r hr => S_cons ?_⟩
  walk_at "st"
  refine S_cons ?_
  rw [s_while]
  refine ⟨fun m μ H' => ∃ k, k + m = B.length ∧ μ = [.ref row, .int (pl B B.length), .ref r, .int (pl B k)] ∧ Ext cx H H' ∧ H' r = some (.list (natsV ((List.range k).map (pl B)))), ⟨B.length, 0, by first | with_reducible exact Int.natCast_nonneg _ | with_reducible assumption | lia | omega, by rw [pl_zero]; rfl, Ext.new hr _, upd_same _ _ _⟩, ?_⟩
  rintro m μ H' ⟨k, hm, rfl, hE, hr'⟩
  walk_at "st"
  have hkl := len_le_pl B (Nat.le_refl B.length)
  have hl := s.len
  refine ifB_of (fun q => S_cons ?_) fun q => S_cons ?_
  · rw [decide_eq_true_iff] at q
    have hkB : k < B.length := by
      rcases Nat.lt_or_ge k B.length with h | h
      · exact h
      · have : k = B.length := by first | with_reducible exact Int.natCast_nonneg _ | with_reducible assumption | lia | omega
        subst this; first | with_reducible exact Int.natCast_nonneg _ | with_reducible assumption | lia | omega
    have hk : B[k]? = some B[k] := List.getElem?_eq_getElem hkB
    walk_at "st"
    refine ⟨W_la hr', W_app hr' (by rw [natsV_length, List.length_map, List.length_range]; first | with_reducible exact Int.natCast_nonneg _ | with_reducible assumption | lia | omega) (S_cons ?_)⟩
    have hE2 := hE.upd hr.1 hr.2.2 (.list (natsV ((List.range k).map (pl B)) ++ [.int (pl B k)]))
    walk_at "st"
    refine W_sub (sq_l (hE2.lk hrow)) (by first | with_reducible exact Int.natCast_nonneg _ | with_reducible assumption | lia | omega) (by first | exact imil (by with_reducible assumption) | (rw [ints_length]; first | lia | omega)) (by rw [ints_get?, Int.toNat_natCast, s.hd hk]; rfl) (h2 _ _ _ ?_)
    walk_at "st"
    refine S_nil ⟨_, LE.refl _, m - 1, by first | with_reducible exact Int.natCast_nonneg _ | with_reducible assumption | lia | omega, k + 1, by first | with_reducible exact Int.natCast_nonneg _ | with_reducible assumption | lia | omega, ?_, hE2, ?_⟩
    · rw [pl_succ hk, fdiv4, show ((pl B k : Int) + 1 + 4 * (B[k].length : Int) / 4) = ((pl B k + 1 + B[k].length : Nat) : Int) from by first | with_reducible exact Int.natCast_nonneg _ | with_reducible assumption | lia | omega]
    · rw [upd_same, natsV_snoc, List.range_succ, List.map_append]; rfl
  · rw [decide_eq_false_iff_not] at q
    have hkB : k = B.length := by
      rcases Nat.lt_or_ge k B.length with h | h
      · have := pl_lt (B := B) (i := k) (j := B.length) h h
        first | lia | omega
      · exact Nat.le_antisymm (by first | with_reducible exact Int.natCast_nonneg _ | with_reducible assumption | lia | omega) h
    subst hkB
    walk_at "st"
    exact RQ.here (hQ r H' hE hr hr')
noncomputable def HeadsSpec (cx : Cx) (n : Nat) : Prop := ∀ (row : Addr) (xs : List Int) (B : Bx) (H : HP) (Q : V → HP → Prop), lk cx H row = some (.list (intsV xs)) → Shp B xs → pl B B.length ≤ 1000 →
  (∀ r H', Ext cx H H' → Fresh cx H r → H' r = some (.list (natsV ((List.range B.length).map (pl B)))) → Q (.ref r) H') → CallP cx n 157 [.ref row, .int (pl B B.length)] H Q

theorem at_ms {sa : Addr} {ns : List Int} {p : Int} (hs : lk cx H sa = some (.list (intsV ns))) (hlen : ns.length ≤ 1000) (hp : 0 ≤ p)
    (hQ : ∀ v, Q (.int v) H) : mwpSs cx n m_law_at [.ref sa, .int p] H (NQ Q) (RQ Q) := by
  refine S_cons ?_
  walk_at "st"
  have hcl := cut_length_le (intsV ns) (min p.toNat ns.length) (min (p + 1).toNat ns.length)
  rw [ints_length] at hcl
  refine W_slice hs (by rw [ints_length]; exact cutLo_nn hp) (by rw [ints_length]; exact cutHi_nn (by first | with_reducible exact Int.natCast_nonneg _ | with_reducible assumption | lia | omega)) (by first | exact imil (by with_reducible assumption) | (rw [ints_length]; first | lia | omega)) fun r hr => ⟨by simp, fun r2 hr2 => ?_⟩
  have hne : r ≠ r2 := hr2.ne lk_same
  refine W_cat (lst_l (lk_fresh hr2 lk_same)) (lst_l lk_same) (by simp; first | with_reducible exact Int.natCast_nonneg _ | with_reducible assumption | lia | omega) fun r3 hr3 => ?_
  have key : ∃ v, (cut (intsV ns) (min p.toNat ns.length) (min (p + 1).toNat ns.length) ++ [V.int 0])[(0 : Int).toNat]? = some (.int v) := by
    rw [cut_ints, show [V.int 0] = intsV [0] from rfl, ints_append]
    generalize ((ns.take (min (p + 1).toNat ns.length)).drop (min p.toNat ns.length)) = l
    cases l with
    | nil => exact ⟨0, rfl⟩
    | cons v l => exact ⟨v, rfl⟩
  obtain ⟨v, e⟩ := key
  exact W_sub (sq_l lk_same) (by decide) (by simp; first | with_reducible exact Int.natCast_nonneg _ | with_reducible assumption | lia | omega) e ⟨H, (LE.fresh hr.1 _).trans ((LE.fresh hr2.1 _).trans (LE.fresh hr3.1 _)), hQ v⟩
noncomputable def AtSpec (cx : Cx) (n : Nat) (sa : Addr) (ns : List Int) : Prop := ∀ (p : Int) (H : HP) (Q : V → HP → Prop), lk cx H sa = some (.list (intsV ns)) → 0 ≤ p → (∀ v, Q (.int v) H) → CallP cx n 307 [.ref sa, .int p] H Q
theorem isint_ms {v : Int} (h : Q (.bool true) H) : mwpSs cx n m_law_is_int [.int v] H (NQ Q) (RQ Q) := by
  refine S_cons ?_
  walk_at "st"
  exact RQ.here h
noncomputable def IntSp (cx : Cx) (n : Nat) : Prop := ∀ (v : Int) (H : HP) (Q : V → HP → Prop), Q (.bool true) H → CallP cx n 314 [.int v] H Q
end
end Mine

section
namespace Mine
open PySem PyProof.Rows
section
variable {cx : Cx} {H H' : HP} {n : Nat} {a b r : Addr} {o : O} {Q : V → HP → Prop} {v u w : V} {vs : List V}
theorem ifB_t' {b : Bool} {P P' : Prop} (h : b = true) (p : P) : ifB b P P' := by subst h; exact p
theorem ifB_f' {b : Bool} {P P' : Prop} (h : b = false) (p : P') : ifB b P P' := by subst h; exact p
noncomputable def Kn (H : HP) (v : V) : Prop := match v with
  | .none => True
  | .bool _ => True
  | .int _ => True
  | .str _ => True
  | .ref a => (∃ vs, H a = some (.list vs)) ∨ ∃ vs, H a = some (.tup vs)
  | _ => False
noncomputable def isI (v : V) : Bool := match v with
  | .int _ => true
  | _ => false
theorem Kn.ext (x : LE H H') (h : Kn H v) : Kn H' v := by
  cases v with
  | ref a => exact h.imp (fun ⟨vs, q⟩ => ⟨vs, x _ _ q⟩) fun ⟨vs, q⟩ => ⟨vs, x _ _ q⟩
  | _ => exact h
theorem lk_tup (h : lk cx H a = some (.tup vs)) : H a = some (.tup vs) := by
  unfold lk at h
  split at h
  · rename_i e; rw [e]; exact h
  · cases e : cx.Z a <;> rw [e] at h <;> cases h
theorem isi_tt (h : H a = some (.tup vs)) : isiP H (.ref a) "tuple" = some true := by unfold isiP; simp only [h]; rfl
theorem isi_ti (h : H a = some (.tup vs)) : isiP H (.ref a) "int" = some false := by unfold isiP; simp only [h]; rfl
theorem isi_ll (h : H a = some (.list vs)) : isiP H (.ref a) "list" = some true := by unfold isiP; simp only [h]; rfl
theorem isi_li (h : H a = some (.list vs)) : isiP H (.ref a) "int" = some false := by unfold isiP; simp only [h]; rfl
theorem isi_lt (h : H a = some (.list vs)) : isiP H (.ref a) "tuple" = some false := by unfold isiP; simp only [h]; rfl
theorem eqv_str (x y : Str) : PyData.eqv (.str x) (.str y) = (x == y) := by unfold PyData.eqv; rfl
theorem rd_str {x : Str} (h : PyData.strOk x = true) (m : Nat) : rdV cx H (m + 1) (.str x) = some (.str x) := by
  show rdS x = _
  unfold rdS; rw [if_pos h]
theorem rd_A {d : PyData} (h : rdA u = some d) (m : Nat) : rdV cx H (m + 1) u = some d := by
  cases u <;> first | exact h | cases h
theorem eqs' {d : PyData} {x : Str} (hu : rdV cx H 3 u = some d) (hx : PyData.strOk x = true) : eqP cx u (.str x) H = some (PyData.eqv d (.str x)) := by
  have g : eqG cx u (.str x) H = some (PyData.eqv d (.str x)) := by
    unfold eqG
    rw [hu, rd_str hx]; rfl
  cases u with
  | str y =>
    have hu : rdS y = some d := hu
    unfold rdS at hu
    split at hu
    · cases hu
      show some (y == x) = _
      rw [eqv_str]
    · cases hu
  | _ => exact g
theorem eqs {d : PyData} {x : Str} (hu : rdV cx H 3 u = some d) (hx : PyData.strOk x = true) : cmpP cx .Eq u (.str x) H = some (PyData.eqv d (.str x)) := eqs' hu hx
theorem nes {d : PyData} {x : Str} (hu : rdV cx H 3 u = some d) (hx : PyData.strOk x = true) : cmpP cx .NotEq u (.str x) H = some (!PyData.eqv d (.str x)) := by
  show (eqP cx u (.str x) H).map _ = _
  rw [eqs' hu hx]; rfl
theorem ok_number : PyData.strOk (Str.ofString "number") = true := by decide +kernel
theorem ok_box : PyData.strOk (Str.ofString "box") = true := by decide +kernel
noncomputable def ths (t : Th) : Str := Str.ofString (if t.1 = true then "box" else "number")
theorem thV_0 (t : Th) : (thV t)[Int.toNat 0]? = some (.str (ths t)) := rfl
theorem thV_1 (t : Th) : (thV t)[Int.toNat 1]? = some (.int t.2) := rfl
theorem W_t0 {t : Th} (hb : lk cx H b = some (.tup (thV t))) (q : Q (.str (ths t)) H) : subP cx (.ref b) (.int 0) H Q := W_sub (sq_t hb) (by decide) (show 2 ≤ 16777216 by decide) (thV_0 t) q
theorem W_t1 {t : Th} (hb : lk cx H b = some (.tup (thV t))) (q : Q (.int t.2) H) : subP cx (.ref b) (.int 1) H Q := W_sub (sq_t hb) (by decide) (show 2 ≤ 16777216 by decide) (thV_1 t) q
theorem ths_ok (t : Th) : PyData.strOk (ths t) = true := by
  obtain ⟨b, v⟩ := t
  cases b
  · exact ok_number
  · exact ok_box
theorem ths_b (t : Th) : (ths t == Str.ofString "box") = t.1 := by
  obtain ⟨b, v⟩ := t
  cases b <;> rfl
theorem ths_n (t : Th) : (ths t == Str.ofString "number") = !t.1 := by
  obtain ⟨b, v⟩ := t
  cases b <;> rfl
noncomputable def m_is_whole : MSs :=
  (.cons (.ret (.bop .And (.cons (.isi (.loc 0) "int") (.cons (.not (.isi (.loc 0) "bool")) .nil))))
  .nil)
noncomputable def m_need_things : MSs :=
  (.cons (.for_ 1 (.loc 0) (.cons (.ite (.bop .Or (.cons (.not (.isi (.loc 1) "tuple")) (.cons (.cmp (.callb .len (.cons (.loc 1) .nil)) .NotEq (.cint (2))) .nil))) (.cons (.raiseS 49 (.cstr (Str.ofString "a word and a number are wanted")))
      .nil) .nil)
    (.cons (.ite (.bop .Or (.cons (.bop .And (.cons (.cmp (.sub (.loc 1) (.cint (0))) .NotEq (.cstr (Str.ofString "number"))) (.cons (.cmp (.sub (.loc 1) (.cint (0))) .NotEq (.cstr (Str.ofString "box"))) .nil))) (.cons (.not (.callf 199 (.cons (.sub (.loc 1) (.cint (1))) .nil))) .nil))) (.cons (.raiseS 49 (.cstr (Str.ofString "a word and a number are wanted")))
      .nil) .nil)
    .nil)))
  .nil)
noncomputable def m_word_of : MSs :=
  (.cons (.ite (.cmp (.sub (.loc 0) (.cint (0))) .Eq (.cstr (Str.ofString "number"))) (.cons (.ret (.callf 94 (.cons (.sub (.loc 0) (.cint (1))) .nil)))
    .nil) .nil)
  (.cons (.ret (.callf 101 (.cons (.sub (.loc 0) (.cint (1))) .nil)))
  .nil))
theorem words_ms {fa da : Addr} {xs : List Int} (hi : IntSp cx n) (hf : H fa = some (.list (intsV xs))) (hd : lk cx H da = some (.list (intsV xs))) (hlen : xs.length ≤ 1000)
    (hQ : Q (.bool true) H) : mwpSs cx n m_law_words_are [.ref fa, .ref da] H (NQ Q) (RQ Q) := by
  have hf' : lk cx H fa = some (.list (intsV xs)) := lk_of hf
  have hl := ints_length xs
  refine S_cons ?_
  walk_at "st"
  refine onO_of (isi_ll hf) ?_
  walk_at "st"
  refine W_len (sq_l hf') (by first | with_reducible exact Int.natCast_nonneg _ | with_reducible assumption | lia | omega) ?_
  walk_at "st"
  refine W_len (sq_l hd) (by first | with_reducible exact Int.natCast_nonneg _ | with_reducible assumption | lia | omega) ?_
  walk_at "st"
  refine ifB_f' (by rw [eqv_int]; simp) (S_nil (S_cons ?_))
  walk_at "st"
  refine W_len (sq_l hd) (by first | with_reducible exact Int.natCast_nonneg _ | with_reducible assumption | lia | omega) ?_
  walk_at "st"
  refine ⟨by first | with_reducible exact Int.natCast_nonneg _ | with_reducible assumption | lia | omega, by first | with_reducible exact Int.natCast_nonneg _ | with_reducible assumption | lia | omega, by rw [rangeL_len]; first | with_reducible exact Int.natCast_nonneg _ | with_reducible assumption | lia | omega, fun _ acc H₁ => acc = [] ∧ H₁ = H, ⟨rfl, rfl⟩, fun _ _ _ _ => trivial, ?_, ?_⟩
  · rintro done x rest acc H₁ hitems ⟨rfl, rfl⟩
    obtain ⟨i, rfl, hi2⟩ : ∃ i : Nat, x = .int i ∧ i < xs.length := by
      have hx : (intsV (rangeL 0 (intsV xs).length))[done.length]? = some x := by rw [hitems]; simp
      obtain ⟨rfl, h⟩ := rangeL_get hx
      exact ⟨done.length, by simp, by first | with_reducible exact Int.natCast_nonneg _ | with_reducible assumption | lia | omega⟩
    have g : (intsV xs)[(i : Int).toNat]? = some (.int xs[i]) := by rw [ints_get?, Int.toNat_natCast, List.getElem?_eq_getElem hi2]; rfl
    walk_at "st"
    refine W_sub (sq_l hf') (by first | with_reducible exact Int.natCast_nonneg _ | with_reducible assumption | lia | omega) (by first | with_reducible exact Int.natCast_nonneg _ | with_reducible assumption | lia | omega) g (hi _ _ _ ?_)
    walk_at "st"
    refine W_sub (sq_l hf') (by first | with_reducible exact Int.natCast_nonneg _ | with_reducible assumption | lia | omega) (by first | with_reducible exact Int.natCast_nonneg _ | with_reducible assumption | lia | omega) g (W_sub (sq_l hd) (by first | with_reducible exact Int.natCast_nonneg _ | with_reducible assumption | lia | omega) (by first | with_reducible exact Int.natCast_nonneg _ | with_reducible assumption | lia | omega) g ?_)
    walk_at "st"
    exact ifB_f' (by rw [eqv_int]; simp) ⟨H₁, LE.refl _, by simp, rfl⟩
  · rintro acc H₁ ⟨rfl, rfl⟩ r hr
    walk_at "st"
    refine W_len (sq_l lk_same) (by simp) ?_
    walk_at "st"
    rw [eqv_int]
    exact ⟨H₁, LE.fresh hr.1 _, hQ⟩
noncomputable def WordsSpec (cx : Cx) (n : Nat) : Prop := ∀ (fa da : Addr) (xs : List Int) (H : HP) (Q : V → HP → Prop), H fa = some (.list (intsV xs)) → lk cx H da = some (.list (intsV xs)) → xs.length ≤ 1000 → Q (.bool true) H → CallP cx n 319 [.ref fa, .ref da] H Q

theorem whole_ms (hk : Kn H v) (h : Q (.bool (isI v)) H) : mwpSs cx n m_is_whole [v] H (NQ Q) (RQ Q) := by
  refine S_cons ?_
  cases v with
  | none =>
    walk_at "st"
    exact onO_of (show isiP H .none "int" = some false from rfl) (RQ.here h)
  | bool b =>
    walk_at "st"
    refine onO_of (show isiP H (.bool b) "int" = some true from rfl) ?_
    walk_at "st"
    exact onO_of (show isiP H (.bool b) "bool" = some true from rfl) (RQ.here h)
  | int i =>
    walk_at "st"
    refine onO_of (show isiP H (.int i) "int" = some true from rfl) ?_
    walk_at "st"
    exact onO_of (show isiP H (.int i) "bool" = some false from rfl) (RQ.here h)
  | str x =>
    walk_at "st"
    exact onO_of (show isiP H (.str x) "int" = some false from rfl) (RQ.here h)
  | ref a =>
    walk_at "st"
    rcases hk with ⟨vs, q⟩ | ⟨vs, q⟩
    · exact onO_of (isi_li q) (RQ.here h)
    · exact onO_of (isi_ti q) (RQ.here h)
  | _ => exact hk.elim
noncomputable def WholeSp (cx : Cx) (n : Nat) : Prop := ∀ (v : V) (H : HP) (Q : V → HP → Prop), Kn H v → Q (.bool (isI v)) H → CallP cx n 199 [v] H Q

theorem wordof_ms {t : Th} (h1 : Fn1 cx n 94 fun p => .int (2 * p)) (h2 : Fn1 cx n 101 fun p => .int (2 * p + 1)) (hb : lk cx H b = some (.tup (thV t))) (h : Q (.int (wordP t)) H) :
    mwpSs cx n m_word_of [.ref b] H (NQ Q) (RQ Q) := by
  refine S_cons ?_
  walk_at "st"
  refine W_t0 hb (onO_of (eqs (rd_str (ths_ok t) _) ok_number) ?_)
  rw [eqv_str, ths_n]
  unfold wordP at h
  refine ifB_of (fun q => S_cons ?_) fun q => S_nil (S_cons ?_)
  · walk_at "st"
    refine W_t1 hb (h1 _ _ _ (RQ.here ?_))
    rw [if_neg (by simpa using q)] at h
    exact h
  · walk_at "st"
    refine W_t1 hb (h2 _ _ _ (RQ.here ?_))
    rw [if_pos (by simpa using q)] at h
    exact h
noncomputable def WordOfSpec (cx : Cx) (n : Nat) : Prop := ∀ (b : Addr) (t : Th) (H : HP) (Q : V → HP → Prop), lk cx H b = some (.tup (thV t)) → Q (.int (wordP t)) H → CallP cx n 213 [.ref b] H Q

inductive BadT (cx : Cx) (H : HP) : V → Prop
  | none : BadT cx H .none
  | str (x : Str) : BadT cx H (.str x)
  | list (a : Addr) (vs : List V) : H a = some (.list vs) → BadT cx H (.ref a)
  | tup (a : Addr) (vs : List V) : H a = some (.tup vs) → vs.length ≤ 1000 → vs.length ≠ 2 → BadT cx H (.ref a)
  | two (a : Addr) (u w : V) (d : PyData) : H a = some (.tup [u, w]) → rdA u = some d → Kn H w → ((!PyData.eqv d (.str (Str.ofString "number")) && !PyData.eqv d (.str (Str.ofString "box"))) || !isI w) = true → BadT cx H (.ref a)
theorem BadT.ext (x : LE H H') (h : BadT cx H v) : BadT cx H' v := by
  cases h with
  | none => exact .none
  | str y => exact .str y
  | list a ws q => exact .list a ws (x _ _ q)
  | tup a ws q h1 h2 => exact .tup a ws (x _ _ q) h1 h2
  | two a u w d q hu hw hc => exact .two a u w d (x _ _ q) hu (hw.ext x) hc
theorem BadT.notTh {t : Th} (h : BadT cx H v) (q : ThAt cx H v t) : False := by
  obtain ⟨b, rfl, hb⟩ := q
  have hb := lk_tup hb
  cases h with
  | list a ws q => rw [hb] at q; cases q
  | tup a ws q h1 h2 => rw [hb] at q; cases q; exact h2 rfl
  | two a u w d q hu hw hc =>
    rw [hb] at q
    cases q
    cases hu' : (rdS (ths t)) with
    | none => rw [show rdA (.str (Str.ofString (if t.1 = true then "box" else "number"))) = rdS (ths t) from rfl, hu'] at hu; cases hu
    | some d' =>
      rw [show rdA (.str (Str.ofString (if t.1 = true then "box" else "number"))) = rdS (ths t) from rfl] at hu
      unfold rdS at hu
      rw [if_pos (ths_ok t)] at hu
      cases hu
      rw [eqv_str, eqv_str, ths_n, ths_b] at hc
      cases q : t.1 <;> simp [q, isI] at hc
theorem needT_ms {la : Addr} (hw : WholeSp cx n) (hl : lk cx H la = some (.list vs)) (hle : vs.length ≤ 1000) (hts : ∀ v ∈ vs, (∃ t, ThAt cx H v t) ∨ BadT cx H v)
    (h1 : (∀ v ∈ vs, ∃ t, ThAt cx H v t) → Q .none H) (h2 : (∃ v ∈ vs, BadT cx H v) → Q (.exc 49) H) : mwpSs cx n m_need_things [.ref la, .unb] H (NQ Q) (RQ Q) := by
  refine S_cons ?_
  walk_at "st"
  refine W_iter hl (by first | with_reducible exact Int.natCast_nonneg _ | with_reducible assumption | lia | omega) ⟨fun done μ H' => (∃ z, μ = [.ref la, z]) ∧ H' = H ∧ ∀ v ∈ done, ∃ t, ThAt cx H v t, ⟨⟨_, rfl⟩, rfl, fun _ q => nomatch q⟩, ?_, ?_, ?_⟩
  · rintro _ _ _ ⟨_, rfl, _⟩; exact hl
  · rintro done x rest μ H' e ⟨⟨z, rfl⟩, rfl, hd⟩
    have hx : x ∈ vs := by rw [e]; simp
    have bad : BadT cx H' x → RQ Q (.exc 49) H' := fun q => RQ.here (h2 ⟨x, hx, q⟩)
    rcases hts x hx with ⟨t, ht⟩ | hb
    · have ht0 := ht
      obtain ⟨b, rfl, hb⟩ := ht
      refine S_cons ?_
      walk_at "st"
      refine onO_of (isi_tt (lk_tup hb)) ?_
      walk_at "st"
      refine W_len (sq_t hb) (show 2 ≤ 16777216 by decide) ?_
      walk_at "st"
      refine ifB_f' (by rw [eqv_int]; rfl) (S_nil (S_cons ?_))
      walk_at "st"
      have fin : mwpSs cx n .nil [.ref la, .ref b] H' (fun μ' H'' => ∃ H₃, LE H₃ H'' ∧ (∃ z, μ' = [.ref la, z]) ∧ H₃ = H' ∧ ∀ v ∈ done ++ [V.ref b], ∃ t, ThAt cx H' v t) (RQ Q) :=
        S_nil ⟨H', LE.refl _, ⟨_, rfl⟩, rfl, fun v hv => (List.mem_append.mp hv).elim (hd v) fun q => by rw [List.mem_singleton.mp q]; exact ⟨t, ht0⟩⟩
      refine W_t0 hb (onO_of (nes (rd_str (ths_ok t) _) ok_number) ?_)
      rw [eqv_str, ths_n]
      cases e1 : t.1 with
      | false =>
        walk_at "st"
        refine W_t1 hb (hw _ _ _ trivial ?_)
        dsimp only [isI]
        walk_at "st"
        exact S_nil fin
      | true =>
        walk_at "st"
        refine W_t0 hb (onO_of (nes (rd_str (ths_ok t) _) ok_box) ?_)
        rw [eqv_str, ths_b, e1]
        walk_at "st"
        refine W_t1 hb (hw _ _ _ trivial ?_)
        dsimp only [isI]
        walk_at "st"
        exact S_nil fin
    · have bd := bad hb
      refine S_cons ?_
      cases hb with
      | none =>
        walk_at "st"
        refine onO_of (show isiP H' .none "tuple" = some false from rfl) ?_
        walk_at "st"
        refine S_cons ?_
        walk_at "st"
        exact bd
      | str y =>
        walk_at "st"
        refine onO_of (show isiP H' (.str y) "tuple" = some false from rfl) ?_
        walk_at "st"
        refine S_cons ?_
        walk_at "st"
        exact bd
      | list a ws q =>
        walk_at "st"
        refine onO_of (isi_lt q) ?_
        walk_at "st"
        refine S_cons ?_
        walk_at "st"
        exact bd
      | tup a ws q h1 h2 =>
        walk_at "st"
        refine onO_of (isi_tt q) ?_
        walk_at "st"
        refine W_len (sq_t (lk_of q)) (by first | with_reducible exact Int.natCast_nonneg _ | with_reducible assumption | lia | omega) ?_
        walk_at "st"
        refine ifB_t' (by rw [eqv_int]; simp; first | with_reducible exact Int.natCast_nonneg _ | with_reducible assumption | lia | omega) (S_cons ?_)
        walk_at "st"
        exact bd
      | two a u w d q hu hw' hc =>
        walk_at "st"
        refine onO_of (isi_tt q) ?_
        walk_at "st"
        refine W_len (sq_t (lk_of q)) (show 2 ≤ 16777216 by decide) ?_
        walk_at "st"
        refine ifB_f' (by rw [eqv_int]; rfl) (S_nil (S_cons ?_))
        walk_at "st"
        have sq := sq_t (lk_of (cx := cx) q)
        refine W_sub sq (by decide) (show 2 ≤ 16777216 by decide) (v := u) rfl (onO_of (nes (rd_A hu _) ok_number) ?_)
        walk_at "st"
        have fin : mwpS cx n (.raiseS 49 (.cstr (Str.ofString "a word and a number are wanted"))) [.ref la, .ref a] H' (fun μ H => mwpSs cx n .nil μ H (fun μ H => mwpSs cx n .nil μ H (fun μ' H'' => ∃ H₃, LE H₃ H'' ∧ (∃ z, μ' = [.ref la, z]) ∧ H₃ = H' ∧ ∀ v ∈ done ++ [V.ref a], ∃ t, ThAt cx H' v t) (RQ Q)) (RQ Q)) (RQ Q) := by
          walk_at "st"
          exact bd
        cases hn : PyData.eqv d (.str (Str.ofString "number")) with
        | true =>
          rw [hn] at hc
          walk_at "st"
          refine W_sub sq (by decide) (show 2 ≤ 16777216 by decide) (v := w) rfl (hw _ _ _ hw' ?_)
          rw [show isI w = false by simpa using hc]
          exact S_cons fin
        | false =>
          rw [hn] at hc
          walk_at "st"
          refine W_sub sq (by decide) (show 2 ≤ 16777216 by decide) (v := u) rfl (onO_of (nes (rd_A hu _) ok_box) ?_)
          cases hx2 : PyData.eqv d (.str (Str.ofString "box")) with
          | true =>
            rw [hx2] at hc
            walk_at "st"
            refine W_sub sq (by decide) (show 2 ≤ 16777216 by decide) (v := w) rfl (hw _ _ _ hw' ?_)
            rw [show isI w = false by simpa using hc]
            exact S_cons fin
          | false => exact S_cons fin
  · rintro μ H' ⟨_, rfl, hd⟩
    exact S_nil (NQ.here (h1 hd))
noncomputable def NeedTSpec (cx : Cx) (n : Nat) : Prop := ∀ (la : Addr) (vs : List V) (H : HP) (Q : V → HP → Prop), lk cx H la = some (.list vs) → vs.length ≤ 1000 → (∀ v ∈ vs, (∃ t, ThAt cx H v t) ∨ BadT cx H v) →
  ((∀ v ∈ vs, ∃ t, ThAt cx H v t) → Q .none H) → ((∃ v ∈ vs, BadT cx H v) → Q (.exc 49) H) → CallX cx n 206 [.ref la] H Q
end
end Mine
end

section
namespace Mine
open PySem PyProof.Rows
noncomputable def roomF (ra : Addr) (u : Nat) : List (Str × V) := [(Str.ofString "row", .ref ra), (Str.ofString "filled", .int u)]
structure RoomAt (N : Nat) (rm dx ra : Addr) (B : Bx) (H : HP) : Prop where
  i : H rm = some (.inst 296 dx)
  d : H dx = some (.flds (roomF ra (pl B B.length)))
  r : H ra = some (.list (intsV (rowN N B)))
  n4 : N ≤ 400
  le : pl B B.length ≤ N
  w : WFB B
noncomputable def plI (B : Bx) : List Int := ((List.range B.length).map (pl B)).map fun k : Nat => (k : Int)
theorem mem_plI {B : Bx} {i : Int} : i ∈ plI B ↔ ∃ k, k < B.length ∧ i = (pl B k : Int) := by
  unfold plI
  rw [List.mem_map]
  constructor
  · rintro ⟨m, hm, rfl⟩
    obtain ⟨k, hk, rfl⟩ := List.mem_map.mp hm
    exact ⟨k, List.mem_range.mp hk, rfl⟩
  · rintro ⟨k, hk, rfl⟩
    exact ⟨_, List.mem_map.mpr ⟨k, List.mem_range.mpr hk, rfl⟩, rfl⟩
theorem unplt {B : Bx} {t : Th} (h : t.1 = true → t.2 ∈ plI B) : ∃ t', OkT B t' ∧ plt B t' = t := by
  obtain ⟨b, v⟩ := t
  cases b with
  | false => exact ⟨(false, v), (fun q => by cases q), rfl⟩
  | true =>
    obtain ⟨k, hk, e⟩ := mem_plI.mp (h rfl)
    dsimp only at e
    exact ⟨(true, (k : Int)), fun _ => ⟨k, rfl, hk⟩, by simp [plt, e]⟩
section
variable {cx : Cx} {rm dx ra : Addr} {N : Nat} {B : Bx} {H H' H1 : HP} {n : Nat} {a b r : Addr} {o : O} {Q : V → HP → Prop} {v : V} {vs : List V}
theorem RoomAt.ext (R : RoomAt N rm dx ra B H) (x : LE H H') : RoomAt N rm dx ra B H' := ⟨x _ _ R.i, x _ _ R.d, x _ _ R.r, R.n4, R.le, R.w⟩
theorem RoomAt.row (R : RoomAt N rm dx ra B H) (q : Q (.ref ra) H) : attrP 296 (.ref rm) (Str.ofString "row") H Q := W_attr R.i R.d rfl nofun q
theorem RoomAt.fil (R : RoomAt N rm dx ra B H) (q : Q (.int (pl B B.length)) H) : attrP 296 (.ref rm) (Str.ofString "filled") H Q := W_attr R.i R.d rfl nofun q
theorem RoomAt.no (R : RoomAt N rm dx ra B H) {x : Str} (hx : ∀ ra u, (roomF ra u).lookup x = none) : instP 296 (.ref rm) x H := W_inst R.i R.d (hx _ _)
theorem rd_ints {xs : List Int} (h : lk cx H a = some (.list (intsV xs))) (m : Nat) : rdV cx H (m + 1) (.ref a) = some (.list (xs.map .int)) := by
  show (match lk cx H a with | some (.list vs) => (vs.mapM (rdV cx H m)).map PyData.list | some (.tup vs) => (vs.mapM (rdV cx H m)).map PyData.tuple | _ => none) = _
  rw [h]
  have : (intsV xs).mapM (rdV cx H m) = some (xs.map .int) := by
    clear h
    induction xs with
    | nil => rfl
    | cons i xs ih =>
      rw [show intsV (i :: xs) = .int i :: intsV xs from rfl, List.mapM_cons, ih, show rdV cx H m (.int i) = some (.int i) by cases m <;> rfl]; rfl
  dsimp only
  rw [this]; rfl
theorem any_ints (xs : List Int) (i : Int) : (xs.map PyData.int).any (fun y => PyData.eqv y (.int i)) = decide (i ∈ xs) := by
  induction xs with
  | nil => rfl
  | cons j xs ih =>
    rw [List.map_cons, List.any_cons, ih, eqv_int, Bool.eq_iff_iff]
    simp only [Bool.or_eq_true, beq_iff_eq, decide_eq_true_iff, List.mem_cons]
    exact or_congr ⟨Eq.symm, Eq.symm⟩ Iff.rfl
theorem in_ints {xs : List Int} {i : Int} (h : lk cx H a = some (.list (intsV xs))) : inP cx (.int i) (.ref a) H = some (decide (i ∈ xs)) := by
  unfold inP
  rw [show rdV cx H 1 (.int i) = some (.int i) from rfl, rd_ints h, Option.bind_some, Option.bind_some]
  dsimp only
  rw [any_ints]
theorem ni_ints {xs : List Int} {i : Int} (h : lk cx H a = some (.list (intsV xs))) : cmpP cx .NotIn (.int i) (.ref a) H = some (!decide (i ∈ xs)) := by
  show (inP cx (.int i) (.ref a) H).map _ = _
  rw [in_ints h]; rfl
noncomputable def m_Room_places : MSs :=
  (.cons (.ret (.callf 157 (.cons (.attr 296 0 (Str.ofString "row")) (.cons (.attr 296 0 (Str.ofString "filled")) .nil))))
  .nil)
noncomputable def m_Room_need_boxes : MSs :=
  (.cons (.assign 2 (.callm 296 (Str.ofString "places") 267 0 .nil))
  (.cons (.for_ 3 (.loc 1) (.cons (.ite (.bop .And (.cons (.cmp (.sub (.loc 3) (.cint (0))) .Eq (.cstr (Str.ofString "box"))) (.cons (.cmp (.sub (.loc 3) (.cint (1))) .NotIn (.loc 2)) .nil))) (.cons (.raiseS 61 (.cstr (Str.ofString "no box stands there")))
      .nil) .nil)
    .nil))
  .nil))
noncomputable def m_Room_need_box : MSs :=
  (.cons (.ite (.bop .Or (.cons (.not (.callf 199 (.cons (.loc 1) .nil))) (.cons (.cmp (.loc 1) .NotIn (.callm 296 (Str.ofString "places") 267 0 .nil)) .nil))) (.cons (.raiseS 61 (.cstr (Str.ofString "no box stands there")))
    .nil) .nil)
  .nil)
noncomputable def m_Room_used : MSs :=
  (.cons (.ret (.attr 296 0 (Str.ofString "filled")))
  .nil)
noncomputable def m_Room_cells : MSs :=
  (.cons (.ret (.callb .list (.cons (.attr 296 0 (Str.ofString "row")) .nil)))
  .nil)
theorem places_ms (hh : HeadsSpec cx n) (R : RoomAt N rm dx ra B H)
    (hQ : ∀ r H', Ext cx H H' → Fresh cx H r → H' r = some (.list (intsV (plI B))) → Q (.ref r) H') : mwpSs cx n m_Room_places [.ref rm] H (NQ Q) (RQ Q) := by
  have hle := R.le
  have hn4 := R.n4
  refine S_cons ?_
  walk_at "st"
  refine R.row (R.fil ?_)
  exact hh _ (rowN N B) B _ _ (lk_of R.r) (shp_N R.le R.n4) (by first | with_reducible exact Int.natCast_nonneg _ | with_reducible assumption | lia | omega) fun r H' x1 x2 x3 => RQ.here (hQ r H' x1 x2 x3)
noncomputable def PlSpec (cx : Cx) (n : Nat) : Prop := ∀ (N : Nat) (rm dx ra : Addr) (B : Bx) (H : HP) (Q : V → HP → Prop), RoomAt N rm dx ra B H →
  (∀ r H', Ext cx H H' → Fresh cx H r → H' r = some (.list (intsV (plI B))) → Q (.ref r) H') → CallP cx n 267 [.ref rm] H Q
theorem needB_ms {la : Addr} {ts : List Th} (hp : PlSpec cx n) (R : RoomAt N rm dx ra B H) (hl : lk cx H la = some (.list vs)) (hts : All2 (ThAt cx H) vs ts) (hle : vs.length ≤ 1000)
    (h1 : (∀ t ∈ ts, t.1 = true → t.2 ∈ plI B) → Q .none H) (h2 : (∃ t ∈ ts, t.1 = true ∧ t.2 ∉ plI B) → Q (.exc 61) H) :
    mwpSs cx n m_Room_need_boxes [.ref rm, .ref la, .unb, .unb] H (NQ Q) (RQ Q) := by
  refine S_cons ?_
  walk_at "st"
  refine ⟨R.no fun _ _ => rfl, hp _ _ _ _ _ _ _ R fun r H1 x1 _ hr => S_cons ?_⟩
  walk_at "st"
  refine W_iter (x1.lk hl) (by first | with_reducible exact Int.natCast_nonneg _ | with_reducible assumption | lia | omega) ⟨fun done μ H' => (∃ z, μ = [.ref rm, .ref la, .ref r, z]) ∧ H' = H1 ∧ ∀ t ∈ ts.take done.length, t.1 = true → t.2 ∈ plI B, ⟨⟨_, rfl⟩, rfl, fun _ q => nomatch q⟩, ?_, ?_, ?_⟩
  · rintro _ _ _ ⟨_, rfl, _⟩; exact x1.lk hl
  · rintro done x rest μ H' e ⟨⟨z, rfl⟩, rfl, hd⟩
    obtain ⟨t, ht, b, rfl, hb⟩ := hts.get (i := done.length) (x := x) (by rw [e]; simp)
    have hb1 := x1.lk hb
    have fin : (t.1 = true → t.2 ∈ plI B) → mwpSs cx n .nil [.ref rm, .ref la, .ref r, .ref b] H' (fun μ H => mwpSs cx n .nil μ H (fun μ' H'' => ∃ H₃, LE H₃ H'' ∧ (∃ z, μ' = [.ref rm, .ref la, .ref r, z]) ∧ H₃ = H' ∧ ∀ t ∈ ts.take (done ++ [V.ref b]).length, t.1 = true → t.2 ∈ plI B) (RQ Q)) (RQ Q) := fun hq =>
      S_nil (S_nil ⟨H', LE.refl _, ⟨_, rfl⟩, rfl, fun u hu => by
        rw [List.length_append, List.length_singleton, List.take_succ, ht] at hu
        rcases List.mem_append.mp hu with q | q
        · exact hd u q
        · rw [show u = t by simpa using q]; exact hq⟩)
    refine S_cons ?_
    walk_at "st"
    refine W_t0 hb1 (onO_of (eqs (rd_str (ths_ok t) _) ok_box) ?_)
    rw [eqv_str, ths_b]
    refine ifB_of (fun q => ?_) fun q => fin fun q2 => (by rw [q] at q2; cases q2)
    refine W_t1 hb1 (onO_of (ni_ints (lk_of hr)) (ifB_of (fun q2 => S_cons ?_) fun q2 => fin fun _ => by simpa using q2))
    walk_at "st"
    exact ⟨H, x1.le, h2 ⟨t, List.mem_of_getElem? ht, q, by simpa using q2⟩⟩
  · rintro μ H' ⟨_, rfl, hd⟩
    rw [hts.1, List.take_length] at hd
    exact S_nil ⟨_, x1.le, h1 hd⟩
noncomputable def NeedBSpec (cx : Cx) (n : Nat) : Prop := ∀ (N : Nat) (rm dx ra la : Addr) (B : Bx) (vs : List V) (ts : List Th) (H : HP) (Q : V → HP → Prop), RoomAt N rm dx ra B H → lk cx H la = some (.list vs) → All2 (ThAt cx H) vs ts → vs.length ≤ 1000 →
  ((∀ t ∈ ts, t.1 = true → t.2 ∈ plI B) → Q .none H) → ((∃ t ∈ ts, t.1 = true ∧ t.2 ∉ plI B) → Q (.exc 61) H) → CallX cx n 234 [.ref rm, .ref la] H Q
noncomputable def InPl (B : Bx) (v : V) : Prop := ∃ i, v = .int i ∧ i ∈ plI B
theorem needX_ms (hw : WholeSp cx n) (hp : PlSpec cx n) (R : RoomAt N rm dx ra B H) (hk : Kn H v) (h1 : InPl B v → Q .none H) (h2 : ¬ InPl B v → Q (.exc 61) H) :
    mwpSs cx n m_Room_need_box [.ref rm, v] H (NQ Q) (RQ Q) := by
  have hu : v ≠ .unb := by rintro rfl; exact hk
  refine S_cons ?_
  walk_at "st"
  refine onL_of hu (hw _ _ _ hk ?_)
  cases e : isI v with
  | false =>
    walk_at "st"
    refine S_cons ?_
    walk_at "st"
    exact RQ.here (h2 (by rintro ⟨i, rfl, _⟩; cases e))
  | true =>
    cases v with
    | int i =>
      walk_at "st"
      refine ⟨R.no fun _ _ => rfl, hp _ _ _ _ _ _ _ R fun r H1 x1 _ hr => ?_⟩
      refine onO_of (ni_ints (lk_of hr)) (ifB_of (fun q => S_cons ?_) fun q => S_nil (S_nil ⟨_, x1.le, h1 ⟨i, rfl, by simpa using q⟩⟩))
      walk_at "st"
      exact ⟨_, x1.le, h2 (by rintro ⟨j, e, hj⟩; cases e; simp [hj] at q)⟩
    | _ => cases e
noncomputable def NeedXSpec (cx : Cx) (n : Nat) : Prop := ∀ (N : Nat) (rm dx ra : Addr) (B : Bx) (v : V) (H : HP) (Q : V → HP → Prop), RoomAt N rm dx ra B H → Kn H v → (InPl B v → Q .none H) → (¬ InPl B v → Q (.exc 61) H) → CallX cx n 241 [.ref rm, v] H Q
theorem used_ms (R : RoomAt N rm dx ra B H) (h : Q (.int (pl B B.length)) H) : mwpSs cx n m_Room_used [.ref rm] H (NQ Q) (RQ Q) := by
  refine S_cons ?_
  walk_at "st"
  exact R.fil (RQ.here h)
noncomputable def UsedSpec (cx : Cx) (n : Nat) : Prop := ∀ (N : Nat) (rm dx ra : Addr) (B : Bx) (H : HP) (Q : V → HP → Prop), RoomAt N rm dx ra B H → Q (.int (pl B B.length)) H → CallP cx n 286 [.ref rm] H Q
theorem cells_ms (R : RoomAt N rm dx ra B H) (hQ : ∀ r H', Ext cx H H' → Fresh cx H r → H' r = some (.list (intsV (rowN N B))) → Q (.ref r) H') : mwpSs cx n m_Room_cells [.ref rm] H (NQ Q) (RQ Q) := by
  have hlen := rowN_length R.le
  have hn4 := R.n4
  refine S_cons ?_
  walk_at "st"
  refine R.row (W_list (sq_l (lk_of R.r)) (by first | exact imil (by with_reducible assumption) | (rw [ints_length]; first | lia | omega)) fun r hr => RQ.here (hQ r _ (Ext.new hr _) hr (upd_same _ _ _)))
noncomputable def CellsSpec (cx : Cx) (n : Nat) : Prop := ∀ (N : Nat) (rm dx ra : Addr) (B : Bx) (H : HP) (Q : V → HP → Prop), RoomAt N rm dx ra B H → (∀ r H', Ext cx H H' → Fresh cx H r → H' r = some (.list (intsV (rowN N B))) → Q (.ref r) H') → CallP cx n 293 [.ref rm] H Q
end
end Mine
end

section
namespace Mine
open PySem PyProof.Rows
section
variable {cx : Cx} {rm dx ra : Addr} {N : Nat} {B : Bx} {xs : List Int} {H H' H1 : HP} {n : Nat} {a b r : Addr} {o o' : O} {Q : V → HP → Prop} {v : V} {vs : List V}
theorem ThAt.set {vs ws : List V} {v : V} {t : Th} (hr : H r = some (.list vs)) : ThAt cx H v t → ThAt cx (upd H r (.list ws)) v t := fun ⟨b, e, hb⟩ => ⟨b, e, by
  rw [lk_ne (fun q => by subst q; rw [lk_of hr] at hb; cases hb)]; exact hb⟩
theorem word_link (g : Nat → Nat) (t : Th) : ((word g t).fmod 2 == 1) = t.1 := by
  obtain ⟨b, v⟩ := t
  rw [fmod2]
  cases b
  · simp [word]
  · simp only [word, if_pos, beq_iff_eq]; first | with_reducible exact Int.natCast_nonneg _ | with_reducible assumption | lia | omega
theorem word_told (B : Bx) (t : Th) : (word (pl B) t).fdiv 2 = (plt B t).2 := by
  obtain ⟨b, v⟩ := t
  rw [fdiv2]
  cases b
  · simp [word, plt]
  · simp only [word, plt, if_pos]; first | with_reducible exact Int.natCast_nonneg _ | with_reducible assumption | lia | omega
theorem slice_eq {ys l : List Int} {a : Nat} (h : ∀ j, j < l.length → ys[a + j]? = l[j]?) (hl : l.length = 0 ∨ a + l.length ≤ ys.length) : (ys.take (min (a + l.length) ys.length)).drop (min a ys.length) = l := by
  apply List.ext_getElem?; intro i
  rw [List.getElem?_drop, List.getElem?_take]
  by_cases q : i < l.length
  · rw [if_pos (by first | with_reducible exact Int.natCast_nonneg _ | with_reducible assumption | lia | omega), show min a ys.length = a from by first | with_reducible exact Int.natCast_nonneg _ | with_reducible assumption | lia | omega]; exact h i q
  · rw [List.getElem?_eq_none (show l.length ≤ i by first | with_reducible exact Int.natCast_nonneg _ | with_reducible assumption | lia | omega)]
    rcases hl with hl | hl
    · rw [if_neg (by first | with_reducible exact Int.natCast_nonneg _ | with_reducible assumption | lia | omega)]
    · rw [if_neg (by first | with_reducible exact Int.natCast_nonneg _ | with_reducible assumption | lia | omega)]
theorem shp_slice {k : Nat} {f : List Th} (s : Shp B xs) (hk : B[k]? = some f) : (xs.take (min (pl B k + 1 + f.length) xs.length)).drop (min (pl B k + 1) xs.length) = f.map (word (pl B)) := by
  have := slice_eq (ys := xs) (l := f.map (word (pl B))) (a := pl B k + 1) ?_ ?_
  · rw [List.length_map] at this; exact this
  · intro j hj
    rw [List.length_map] at hj
    have ht : f[j]? = some f[j] := List.getElem?_eq_getElem hj
    rw [s.fld hk ht, List.getElem?_map, ht]; rfl
  · rw [List.length_map]
    cases hz : f.length with
    | zero => exact .inl rfl
    | succ m =>
      have ht : f[m]? = some f[m] := List.getElem?_eq_getElem (by first | with_reducible exact Int.natCast_nonneg _ | with_reducible assumption | lia | omega)
      have := (List.getElem?_eq_some_iff.mp (s.fld hk ht)).1
      exact .inr (by first | with_reducible exact Int.natCast_nonneg _ | with_reducible assumption | lia | omega)
noncomputable def m_Room_told : MSs :=
  (.cons (.xdo none (.mt 296 (Str.ofString "need_box") 241 0) (.cons (.loc 1) .nil))
  (.cons (.assign 2 (.list .nil))
  (.cons (.for_ 3 (.slice (.attr 296 0 (Str.ofString "row")) (.bin .Add (.loc 1) (.cint (1))) (.bin .Add (.bin .Add (.loc 1) (.cint (1))) (.callf 129 (.cons (.sub (.attr 296 0 (Str.ofString "row")) (.loc 1)) .nil)))) (.cons (.ite (.callf 115 (.cons (.loc 3) .nil)) (.cons (.expr (.app false (.loc 2) (.tup (.cons (.cstr (Str.ofString "box")) (.cons (.callf 122 (.cons (.loc 3) .nil)) .nil)))))
      .nil) (.cons (.expr (.app false (.loc 2) (.tup (.cons (.cstr (Str.ofString "number")) (.cons (.callf 122 (.cons (.loc 3) .nil)) .nil)))))
      .nil))
    .nil))
  (.cons (.ret (.loc 2))
  .nil))))
theorem told_ms' (hx : NeedXSpec cx n) (h2 : Fn1 cx n 129 fun w => .int (w.fdiv 4)) (h3 : Fn1 cx n 115 fun w => .bool (w.fmod 2 == 1)) (h5 : Fn1 cx n 122 fun w => .int (w.fdiv 2))
    (R : RoomAt N rm dx ra B H) (hkn : Kn H v) (hX : ¬ InPl B v → Q (.exc 61) H)
    (hQ : ∀ k f, v = .int (pl B k) → B[k]? = some f → ∀ r vs H', Ext cx H H' → Fresh cx H r → H' r = some (.list vs) → All2 (ThAt cx H') vs (f.map (plt B)) → Q (.ref r) H') :
    mwpSs cx n m_Room_told [.ref rm, v, .unb, .unb] H (NQ Q) (RQ Q) := by
  have hu : v ≠ .unb := by rintro rfl; exact hkn
  refine S_cons ?_
  walk_at "st"
  refine ⟨R.no fun _ _ => rfl, onL_of hu (hx _ _ _ _ _ _ _ _ R hkn (fun hin => S_cons ?_) fun q => RQ.here (hX q))⟩
  obtain ⟨i, rfl, hi⟩ := hin
  obtain ⟨k, hkl, rfl⟩ := mem_plI.mp hi
  have hk : B[k]? = some B[k] := List.getElem?_eq_getElem hkl
  have hQ' := hQ k _ rfl hk
  clear hQ hX hi hu hkn
  generalize B[k] = f at hk hQ'
  have hlen := rowN_length R.le
  have hn4 := R.n4
  have hsh := shp_N R.le R.n4
  have hfl := fld_le_pl hk
  have hle := R.le
  have hrl : (intsV (rowN N B)).length ≤ 16777216 := by rw [ints_length]; first | with_reducible exact Int.natCast_nonneg _ | with_reducible assumption | lia | omega
  walk_at "st"
  refine ⟨by simp, fun r hr => S_cons ?_⟩
  have R1 := R.ext (Ext.new hr (.list [])).le
  walk_at "st"
  refine R1.row (R1.row (W_sub (sq_l (lk_of R1.r)) (by first | with_reducible exact Int.natCast_nonneg _ | with_reducible assumption | lia | omega) hrl (by rw [ints_get?, Int.toNat_natCast, hsh.hd hk]; rfl) (h2 _ _ _ ?_)))
  dsimp only
  rw [fdiv4, show 4 * (f.length : Int) / 4 = (f.length : Int) from by first | with_reducible exact Int.natCast_nonneg _ | with_reducible assumption | lia | omega]
  walk_at "st"
  rw [show ((pl B k : Int) + 1 + (f.length : Int)) = ((pl B k + 1 + f.length : Nat) : Int) from by first | with_reducible exact Int.natCast_nonneg _ | with_reducible assumption | lia | omega, show ((pl B k : Int) + 1) = ((pl B k + 1 : Nat) : Int) from by first | with_reducible exact Int.natCast_nonneg _ | with_reducible assumption | lia | omega]
  refine W_slice (lk_of R1.r) (cutLo_nn (by first | with_reducible exact Int.natCast_nonneg _ | with_reducible assumption | lia | omega)) (cutHi_nn (by first | with_reducible exact Int.natCast_nonneg _ | with_reducible assumption | lia | omega)) hrl fun sl hsl => ?_
  rw [cut_ints, ints_length, Int.toNat_natCast, Int.toNat_natCast, shp_slice hsh hk]
  have hsr : r ≠ sl := hsl.ne lk_same
  refine W_iter lk_same (by rw [ints_length, List.length_map]; first | with_reducible exact Int.natCast_nonneg _ | with_reducible assumption | lia | omega) ⟨fun done μ H' => ∃ z vs, μ = [.ref rm, .int (pl B k), .ref r, z] ∧ Ext cx H H' ∧ H' r = some (.list vs) ∧ H' sl = some (.list (intsV (f.map (word (pl B))))) ∧ All2 (ThAt cx H') vs ((f.take done.length).map (plt B)), ?_, ?_, ?_, ?_⟩
  · exact ⟨_, [], rfl, (Ext.new hr _).new' hsl _, by rw [upd_ne _ hsr, upd_same], upd_same _ _ _, All2.nil⟩
  · rintro done μ H' ⟨_, _, _, _, _, h, _⟩; exact lk_of h
  · rintro done x rest μ H3 hitems ⟨z, vs, rfl, x3, hr3, hsl3, ha⟩
    have hx : (intsV (f.map (word (pl B))))[done.length]? = some x := by rw [hitems]; simp
    rw [ints_get?, List.getElem?_map] at hx
    cases ht : f[done.length]? with
    | none => rw [ht] at hx; cases hx
    | some t =>
    rw [ht] at hx
    simp only [Option.map_some, Option.some.injEq] at hx
    subst hx
    have htl := (List.getElem?_eq_some_iff.mp ht).1
    have hvl := ha.1
    rw [List.length_map, List.length_take] at hvl
    have fin : ∀ tb, Fresh cx H3 tb → ∀ c : String, c = (if t.1 = true then "box" else "number") → ∃ H₃, LE H₃ (upd (upd H3 tb (.tup [.str (Str.ofString c), .int (plt B t).2])) r (.list (vs ++ [.ref tb]))) ∧
        ∃ z vs, ([.ref rm, .int (pl B k), .ref r, .int (word (pl B) t)] : List V) = [.ref rm, .int (pl B k), .ref r, z] ∧ Ext cx H H₃ ∧ H₃ r = some (.list vs) ∧ H₃ sl = some (.list (intsV (f.map (word (pl B))))) ∧ All2 (ThAt cx H₃) vs ((f.take (done ++ [V.int (word (pl B) t)]).length).map (plt B)) := by
      intro tb htb c hc
      have n1 : r ≠ tb := htb.ne' hr3
      have n2 : sl ≠ tb := htb.ne' hsl3
      refine ⟨_, LE.refl _, _, _, rfl, (x3.new' htb _).upd hr.1 hr.2.2 _, upd_same _ _ _, ?_, ?_⟩
      · rw [upd_ne _ (Ne.symm hsr), upd_ne _ n2]; exact hsl3
      · rw [List.length_append, List.length_singleton, List.take_add_one, ht, List.map_append]
        have hu : (upd H3 tb (.tup [.str (Str.ofString c), .int (plt B t).2])) r = some (.list vs) := by rw [upd_ne _ n1]; exact hr3
        refine All2.snoc (ha.imp fun _ _ q => ThAt.set hu (q.ext (Ext.new htb _))) (ThAt.set hu ⟨tb, rfl, ?_⟩)
        rw [lk_same, hc, thV, plt_1]
    refine S_cons ?_
    walk_at "st"
    refine h3 _ _ _ ?_
    walk_at "st"
    rw [word_link]
    refine ifB_of (fun q => S_cons ?_) fun q => S_cons ?_
    · walk_at "st"
      refine ⟨W_la hr3, h5 _ _ _ ?_⟩
      dsimp only
      rw [word_told]
      refine ⟨by simp, fun tb htb => W_app (by rw [upd_ne _ (htb.ne' hr3)]; exact hr3) (by first | with_reducible exact Int.natCast_nonneg _ | with_reducible assumption | lia | omega) (S_nil (S_nil (fin tb htb _ (by rw [if_pos q]))))⟩
    · walk_at "st"
      refine ⟨W_la hr3, h5 _ _ _ ?_⟩
      dsimp only
      rw [word_told]
      refine ⟨by simp, fun tb htb => W_app (by rw [upd_ne _ (htb.ne' hr3)]; exact hr3) (by first | with_reducible exact Int.natCast_nonneg _ | with_reducible assumption | lia | omega) (S_nil (S_nil (fin tb htb _ (by rw [if_neg (by simp [q])]))))⟩
  · rintro μ H3 ⟨z, vs, rfl, x3, hr3, hsl3, ha⟩
    refine S_cons ?_
    walk_at "st"
    rw [ints_length, List.length_map, List.take_length] at ha
    exact RQ.here (hQ' r vs H3 x3 hr hr3 ha)
noncomputable def ToldSpec (cx : Cx) (n : Nat) : Prop := ∀ (N : Nat) (rm dx ra : Addr) (B : Bx) (v : V) (H : HP) (Q : V → HP → Prop), RoomAt N rm dx ra B H → Kn H v → (¬ InPl B v → Q (.exc 61) H) →
  (∀ k f, v = .int (pl B k) → B[k]? = some f → ∀ r vs H', Ext cx H H' → Fresh cx H r → H' r = some (.list vs) → All2 (ThAt cx H') vs (f.map (plt B)) → Q (.ref r) H') → CallX cx n 260 [.ref rm, v] H Q
theorem rep_zero (m : Nat) : (List.replicate m [V.int 0]).flatten = intsV (List.replicate m 0) := by
  induction m with
  | zero => rfl
  | succ m ih => rw [List.replicate_succ, List.flatten_cons, ih]; rfl
noncomputable def But (d : Addr) (H H' : HP) : Prop := ∀ a o, a ≠ d → H a = some o → H' a = some o
noncomputable def KZ (cx : Cx) (H H' : HP) : Prop := ∀ a l, cx.Z a = some l → H a = none → H' a = none
theorem KZ.upd (x : KZ cx H H') (h : H' r = some o) : KZ cx H (Mine.upd H' r o') := fun a l h1 h2 => by
  have e := x a l h1 h2
  rw [upd_ne _ (fun q => by subst q; rw [h] at e; cases e)]; exact e
theorem RoomAt.nrd (R : RoomAt N rm dx ra B H) : rm ≠ dx := fun e => by have := R.i; rw [e, R.d] at this; cases this
theorem RoomAt.nra (R : RoomAt N rm dx ra B H) : rm ≠ ra := fun e => by have := R.i; rw [e, R.r] at this; cases this
theorem RoomAt.nda (R : RoomAt N rm dx ra B H) : dx ≠ ra := fun e => by have := R.d; rw [e, R.r] at this; cases this
noncomputable def m_Room_made : MSs :=
  (.cons (.xdo none (.fn 206) (.cons (.loc 1) .nil))
  (.cons (.xdo none (.mt 296 (Str.ofString "need_boxes") 234 0) (.cons (.loc 1) .nil))
  (.cons (.assign 2 (.attr 296 0 (Str.ofString "filled")))
  (.cons (.assign 3 (.bin .Add (.bin .Add (.loc 2) (.cint (1))) (.callb .len (.cons (.loc 1) .nil))))
  (.cons (.ite (.cmp (.loc 3) .Gt (.callb .len (.cons (.attr 296 0 (Str.ofString "row")) .nil))) (.cons (.raiseS 85 (.cstr (Str.ofString "too few cells are left")))
    .nil) .nil)
  (.cons (.assign 4 (.bin .Add (.list (.cons (.callf 108 (.cons (.callb .len (.cons (.loc 1) .nil)) (.cons (.cbool false) .nil))) .nil)) (.comp (.callf 213 (.cons (.loc 5) .nil)) (.loc 1) (.cbool true))))
  (.cons (.setAttr 296 0 (Str.ofString "row") (.bin .Add (.bin .Add (.slice (.attr 296 0 (Str.ofString "row")) .cnone (.loc 2)) (.loc 4)) (.slice (.attr 296 0 (Str.ofString "row")) (.loc 3) .cnone)))
  (.cons (.setAttr 296 0 (Str.ofString "filled") (.loc 3))
  (.cons (.ret (.loc 2))
  .nil)))))))))
noncomputable def m_Room_put : MSs :=
  (.cons (.xdo none (.mt 296 (Str.ofString "need_box") 241 0) (.cons (.loc 1) .nil))
  (.cons (.ite (.bop .Or (.cons (.not (.callf 199 (.cons (.loc 2) .nil))) (.cons (.not (.cmp2 (.cint (0)) .LtE (.loc 2) .Lt (.callf 129 (.cons (.sub (.attr 296 0 (Str.ofString "row")) (.loc 1)) .nil)))) .nil))) (.cons (.raiseS 73 (.cstr (Str.ofString "the box has no such field")))
    .nil) .nil)
  (.cons (.xdo none (.fn 206) (.cons (.list (.cons (.loc 3) .nil)) .nil))
  (.cons (.xdo none (.mt 296 (Str.ofString "need_boxes") 234 0) (.cons (.list (.cons (.loc 3) .nil)) .nil))
  (.cons (.setSub (.attr 296 0 (Str.ofString "row")) (.bin .Add (.bin .Add (.loc 1) (.cint (1))) (.loc 2)) (.callf 213 (.cons (.loc 3) .nil)))
  .nil)))))
noncomputable def m_Room_init : MSs :=
  (.cons (.ite (.bop .Or (.cons (.not (.callf 199 (.cons (.loc 1) .nil))) (.cons (.not (.callf 199 (.cons (.loc 2) .nil))) .nil))) (.cons (.raiseS 37 (.cstr (Str.ofString "two whole numbers are wanted")))
    .nil) .nil)
  (.cons (.ite (.bop .Or (.cons (.not (.cmp2 (.cint (1)) .LtE (.loc 1) .LtE (.gint (400)))) (.cons (.not (.cmp2 (.cint (0)) .LtE (.loc 2) .LtE (.gint (20)))) (.cons (.cmp (.bin .Add (.loc 2) (.cint (1))) .Gt (.loc 1)) .nil)))) (.cons (.raiseS 37 (.cstr (Str.ofString "no such room")))
    .nil) .nil)
  (.cons (.setAttr 296 0 (Str.ofString "row") (.bin .Add (.list (.cons (.callf 108 (.cons (.loc 2) (.cons (.cbool false) .nil))) .nil)) (.bin .Mult (.list (.cons (.cint (0)) .nil)) (.bin .Sub (.loc 1) (.cint (1))))))
  (.cons (.setAttr 296 0 (Str.ofString "filled") (.bin .Add (.loc 2) (.cint (1))))
  .nil))))
theorem put_ms {f t' : V} (hx : NeedXSpec cx n) (hw : WholeSp cx n) (h2 : Fn1 cx n 129 fun w => .int (w.fdiv 4)) (hnt : NeedTSpec cx n) (hnb : NeedBSpec cx n) (hwo : WordOfSpec cx n)
    (R : RoomAt N rm dx ra B H) (hkn : Kn H v) (hkf : Kn H f) (hkt : (∃ t, ThAt cx H t' t) ∨ BadT cx H t')
    (x1 : ¬ InPl B v → Q (.exc 61) H)
    (x2 : ∀ k fl, v = .int (pl B k) → B[k]? = some fl → (¬ ∃ j : Nat, f = .int j ∧ j < fl.length) → Q (.exc 73) H)
    (x3 : ∀ k fl (j : Nat), v = .int (pl B k) → B[k]? = some fl → f = .int j → j < fl.length → BadT cx H t' → Q (.exc 49) H)
    (x4 : ∀ k fl (j : Nat) t, v = .int (pl B k) → B[k]? = some fl → f = .int j → j < fl.length → ThAt cx H t' t → t.1 = true → t.2 ∉ plI B → Q (.exc 61) H)
    (hQ : ∀ k fl (j : Nat) t, v = .int (pl B k) → B[k]? = some fl → f = .int j → j < fl.length → ThAt cx H t' (plt B t) → OkT B t → ∀ H', RoomAt N rm dx ra (B.set k (fl.set j t)) H' → But ra H H' → KZ cx H H' → Q .none H') :
    mwpSs cx n m_Room_put [.ref rm, v, f, t'] H (NQ Q) (RQ Q) := by
  have hu : v ≠ .unb := by rintro rfl; exact hkn
  have huf : f ≠ .unb := by rintro rfl; exact hkf
  have hut : t' ≠ .unb := by rintro rfl; rcases hkt with ⟨_, _, q, _⟩ | q <;> cases q
  refine S_cons ?_
  walk_at "st"
  refine ⟨R.no fun _ _ => rfl, onL_of hu (hx _ _ _ _ _ _ _ _ R hkn (fun hin => S_cons ?_) fun q => RQ.here (x1 q))⟩
  obtain ⟨i, rfl, hi⟩ := hin
  obtain ⟨k, hkl, rfl⟩ := mem_plI.mp hi
  have hk : B[k]? = some B[k] := List.getElem?_eq_getElem hkl
  replace x2 := x2 k _ rfl hk
  replace x3 := fun j => x3 k _ j rfl hk
  replace x4 := fun j t => x4 k _ j t rfl hk
  replace hQ := fun j t => hQ k _ j t rfl hk
  clear x1 hi hu hkn
  generalize B[k] = fl at hk hQ x2 x3 x4
  have hlen := rowN_length R.le
  have hn4 := R.n4
  have hsh := shp_N R.le R.n4
  have hrl : (intsV (rowN N B)).length ≤ 16777216 := by rw [ints_length]; first | with_reducible exact Int.natCast_nonneg _ | with_reducible assumption | lia | omega
  walk_at "st"
  refine onL_of huf (hw _ _ _ hkf ?_)
  have bad : (¬ ∃ j : Nat, f = .int j ∧ j < fl.length) → ∀ N' : List V → HP → Prop, mwpSs cx n (.cons (.raiseS 73 (.cstr (Str.ofString "the box has no such field"))) .nil) [.ref rm, .int (pl B k), f, t'] H N' (RQ Q) := fun q N' => by
    refine S_cons ?_
    walk_at "st"
    exact RQ.here (x2 q)
  cases e : isI f with
  | false =>
    walk_at "st"
    exact bad (by rintro ⟨j, rfl, _⟩; cases e) _
  | true =>
    cases f with
    | int j =>
      walk_at "st"
      refine ifB_of (fun q => ?_) fun q => bad (by rintro ⟨m, e, _⟩; cases e; simp at q) _
      rw [decide_eq_true_iff] at q
      obtain ⟨m, rfl⟩ := Int.eq_ofNat_of_zero_le q
      refine R.row (W_sub (sq_l (lk_of R.r)) (by first | with_reducible exact Int.natCast_nonneg _ | with_reducible assumption | lia | omega) hrl (by rw [ints_get?, Int.toNat_natCast, hsh.hd hk]; rfl) (h2 _ _ _ ?_))
      dsimp only
      rw [fdiv4, show 4 * (fl.length : Int) / 4 = (fl.length : Int) from by first | with_reducible exact Int.natCast_nonneg _ | with_reducible assumption | lia | omega]
      walk_at "st"
      by_cases hm : m < fl.length
      case neg =>
        rw [show decide ((m : Int) < (fl.length : Int)) = false from decide_eq_false (by first | with_reducible exact Int.natCast_nonneg _ | with_reducible assumption | lia | omega)]
        walk_at "st"
        exact bad (by rintro ⟨j, e, hj⟩; cases e; exact hm hj) _
      rw [show decide ((m : Int) < (fl.length : Int)) = true from decide_eq_true (by first | with_reducible exact Int.natCast_nonneg _ | with_reducible assumption | lia | omega)]
      walk_at "st"
      refine S_nil (S_cons ?_)
      walk_at "st"
      refine ⟨trivial, onL_of hut ⟨by simp, fun r1 hr1 => ?_⟩⟩
      have e1 := Ext.new hr1 (.list [t'])
      refine hnt _ _ _ _ lk_same (by simp) (fun u hu => ?_) (fun hall => S_cons ?_) fun hbad => ?_
      · rw [List.mem_singleton.mp hu]
        exact hkt.imp (fun ⟨t, q⟩ => ⟨t, q.ext e1⟩) fun q => q.ext e1.le
      case refine_3 =>
        obtain ⟨u, hu, hb⟩ := hbad
        rw [List.mem_singleton.mp hu] at hb
        rcases hkt with ⟨t, q⟩ | q
        · exact (hb.notTh (q.ext e1)).elim
        · exact ⟨H, e1.le, x3 m rfl hm q⟩
      obtain ⟨t, ht1⟩ := hall t' (List.mem_singleton.mpr rfl)
      obtain ⟨t, ht⟩ : ∃ t, ThAt cx H t' t := by
        rcases hkt with q | q
        · exact q
        · exact ((q.ext e1.le).notTh ht1).elim
      clear ht1
      walk_at "st"
      refine ⟨(R.ext e1.le).no fun _ _ => rfl, onL_of hut ⟨by simp, fun r2 hr2 => ?_⟩⟩
      have e2 := e1.new' hr2 (.list [t'])
      refine hnb _ _ _ _ _ _ _ [t] _ _ (R.ext e2.le) lk_same (All2.nil.snoc (ht.ext e2)) (by simp) (fun hok => S_cons ?_) fun ⟨u, hu, q1, q2⟩ => ?_
      case refine_2 =>
        rw [List.mem_singleton.mp hu] at q1 q2
        exact ⟨H, e2.le, x4 m t rfl hm ht q1 q2⟩
      obtain ⟨t2, hok2, rfl⟩ := unplt (hok t (List.mem_singleton.mpr rfl))
      generalize upd (upd H r1 (.list [t'])) r2 (.list [t']) = H2 at e2
      have R2 := R.ext e2.le
      walk_at "st"
      obtain ⟨b, rfl, hb⟩ := ht
      walk_at "st"
      refine hwo _ _ _ _ (e2.lk hb) (R2.row ?_)
      walk_at "st"
      have hfl : fl[m]? = some fl[m] := List.getElem?_eq_getElem hm
      have hxl := (List.getElem?_eq_some_iff.mp (hsh.fld hk hfl)).1
      rw [show (pl B k : Int) + 1 + (m : Int) = ((pl B k + 1 + m : Nat) : Int) from by first | with_reducible exact Int.natCast_nonneg _ | with_reducible assumption | lia | omega]
      refine W_setSub R2.r (by first | with_reducible exact Int.natCast_nonneg _ | with_reducible assumption | lia | omega) hrl (by rw [ints_length, Int.toNat_natCast]; exact hxl) (S_nil ⟨_, LE.refl _, hQ m t2 rfl hm ⟨b, rfl, hb⟩ hok2 _ ⟨?_, ?_, ?_, R.n4, ?_, wfb_set R.w hk hok2⟩ (fun a o ha e => by rw [upd_ne _ ha]; exact e2.le _ _ e) (KZ.upd e2.z R2.r)⟩)
      · rw [upd_ne _ R2.nra]; exact R2.i
      · rw [upd_ne _ R2.nda, pl_set_len hk (by simp)]; exact R2.d
      · rw [upd_same, Int.toNat_natCast, ints_set, word_plt, rowN_set hk hm]
      · rw [pl_set_len hk (by simp)]; exact R.le
    | _ => cases e
end
end Mine
end

section
namespace Mine
open PySem PyProof.Rows
theorem unplts {B : Bx} : ∀ {ts : List Th}, (∀ t ∈ ts, t.1 = true → t.2 ∈ plI B) → ∃ ts' : List Th, (∀ t ∈ ts', OkT B t) ∧ ts'.map (plt B) = ts
  | [], _ => ⟨[], (fun _ q => nomatch q), rfl⟩
  | t :: ts, h => by
    obtain ⟨t', h1, h2⟩ := unplt (h t List.mem_cons_self)
    obtain ⟨ts', h3, h4⟩ := unplts fun u hu => h u (List.mem_cons_of_mem _ hu)
    exact ⟨t' :: ts', fun u hu => (List.mem_cons.mp hu).elim (fun q => by rw [q]; exact h1) (h3 u), by rw [List.map_cons, h2, h4]⟩
section
variable {cx : Cx} {rm dx ra : Addr} {N : Nat} {B : Bx} {xs : List Int} {H H' H1 : HP} {n : Nat} {a b r : Addr} {o o' : O} {Q : V → HP → Prop} {v : V} {vs : List V}
theorem All2.cons {α β : Type} {R : α → β → Prop} {xs : List α} {ys : List β} {x : α} {y : β} (hr : R x y) (h : All2 R xs ys) : All2 R (x :: xs) (y :: ys) := by
  refine ⟨by simp [h.1], fun i u v hu hv => ?_⟩
  cases i with
  | zero => simp at hu hv; subst hu; subst hv; exact hr
  | succ i => exact h.2 i u v (by simpa using hu) (by simpa using hv)
theorem ths_of : ∀ {vs : List V}, (∀ v ∈ vs, ∃ t, ThAt cx H v t) → ∃ ts, All2 (ThAt cx H) vs ts
  | [], _ => ⟨[], All2.nil⟩
  | v :: vs, h => by
    obtain ⟨t, ht⟩ := h v List.mem_cons_self
    obtain ⟨ts, hts⟩ := ths_of (vs := vs) fun u hu => h u (List.mem_cons_of_mem _ hu)
    exact ⟨t :: ts, hts.cons ht⟩
theorem made_ms {la : Addr} (hnt : NeedTSpec cx n) (hnb : NeedBSpec cx n) (h1 : HeadSp cx n) (hwo : WordOfSpec cx n)
    (R : RoomAt N rm dx ra B H) (hl : lk cx H la = some (.list vs)) (hle1 : vs.length ≤ 1000) (hts0 : ∀ v ∈ vs, (∃ t, ThAt cx H v t) ∨ BadT cx H v)
    (x1 : (∃ v ∈ vs, BadT cx H v) → Q (.exc 49) H)
    (x2 : ∀ ts, All2 (ThAt cx H) vs ts → (∃ t ∈ ts, t.1 = true ∧ t.2 ∉ plI B) → Q (.exc 61) H)
    (x3 : ∀ ts : List Th, All2 (ThAt cx H) vs (ts.map (plt B)) → (∀ t ∈ ts, OkT B t) → N < pl B B.length + 1 + ts.length → Q (.exc 85) H)
    (hQ : ∀ ts : List Th, All2 (ThAt cx H) vs (ts.map (plt B)) → (∀ t ∈ ts, OkT B t) → pl B B.length + 1 + ts.length ≤ N → ∀ ra' H', RoomAt N rm dx ra' (B ++ [ts]) H' → Fresh cx H ra' → But dx H H' → KZ cx H H' → Q (.int (pl B B.length)) H') :
    mwpSs cx n m_Room_made [.ref rm, .ref la, .unb, .unb, .unb] H (NQ Q) (RQ Q) := by
  have hlen := rowN_length R.le
  have hn4 := R.n4
  have hsh := shp_N R.le R.n4
  have hrl : (intsV (rowN N B)).length ≤ 16777216 := by rw [ints_length]; first | with_reducible exact Int.natCast_nonneg _ | with_reducible assumption | lia | omega
  refine S_cons ?_
  walk_at "st"
  refine ⟨trivial, hnt _ _ _ _ hl hle1 hts0 (fun hall => S_cons ?_) fun hb => RQ.here (x1 hb)⟩
  obtain ⟨tp, htp⟩ := ths_of hall
  walk_at "st"
  refine ⟨R.no fun _ _ => rfl, hnb _ _ _ _ _ _ _ _ _ _ R hl htp hle1 (fun hin => S_cons ?_) fun hb => RQ.here (x2 tp htp hb)⟩
  obtain ⟨ts, hok, rfl⟩ := unplts hin
  have hts := htp
  replace x3 := x3 ts hts hok
  replace hQ := hQ ts hts hok
  clear x1 x2 hin hall htp hts0
  have hvl := hts.1
  rw [List.length_map] at hvl
  walk_at "st"
  refine R.fil (S_cons ?_)
  walk_at "st"
  refine W_len (sq_l hl) (by first | with_reducible exact Int.natCast_nonneg _ | with_reducible assumption | lia | omega) ?_
  walk_at "st"
  rw [hvl, show (pl B B.length : Int) + 1 + (ts.length : Int) = ((pl B B.length + 1 + ts.length : Nat) : Int) from by first | with_reducible exact Int.natCast_nonneg _ | with_reducible assumption | lia | omega]
  refine S_cons ?_
  walk_at "st"
  refine R.row (W_len (sq_l (lk_of R.r)) hrl ?_)
  walk_at "st"
  rw [ints_length, hlen]
  refine ifB_of (fun q => S_cons ?_) fun q => S_nil (S_cons ?_)
  · walk_at "st"
    rw [decide_eq_true_iff] at q
    exact RQ.here (x3 (by first | with_reducible exact Int.natCast_nonneg _ | with_reducible assumption | lia | omega))
  rw [decide_eq_false_iff_not] at q
  have hle : pl B B.length + 1 + ts.length ≤ N := by first | with_reducible exact Int.natCast_nonneg _ | with_reducible assumption | lia | omega
  replace hQ := hQ hle
  clear x3
  walk_at "st"
  refine W_len (sq_l hl) (by first | with_reducible exact Int.natCast_nonneg _ | with_reducible assumption | lia | omega) ?_
  rw [hvl]
  refine h1 _ _ _ ⟨by simp, fun r1 hr1 => ?_⟩
  have e1 := Ext.new hr1 (.list [V.int (4 * (ts.length : Int))])
  refine W_iter (e1.lk hl) (by first | with_reducible exact Int.natCast_nonneg _ | with_reducible assumption | lia | omega) ⟨by first | with_reducible exact Int.natCast_nonneg _ | with_reducible assumption | lia | omega, fun done acc H' => acc = intsV ((ts.take done.length).map (word (pl B))) ∧ H' = upd H r1 (.list [V.int (4 * (ts.length : Int))]), ⟨rfl, rfl⟩, ?_, ?_, ?_⟩
  · rintro _ _ _ ⟨_, rfl⟩; exact e1.lk hl
  · rintro done x rest acc H' e ⟨rfl, rfl⟩
    obtain ⟨t', ht', b, rfl, hb⟩ := hts.get (i := done.length) (x := x) (by rw [e]; simp)
    rw [List.getElem?_map] at ht'
    cases ht : ts[done.length]? with
    | none => rw [ht] at ht'; cases ht'
    | some t =>
    rw [ht] at ht'; cases ht'
    walk_at "st"
    refine hwo _ _ _ _ (e1.lk hb) ⟨_, LE.refl _, ?_, rfl⟩
    rw [word_plt, List.length_append, List.length_singleton, List.take_add_one, ht, List.map_append]
    simp [intsV]
  rintro acc H' ⟨rfl, rfl⟩ r2 hr2
  rw [hvl, List.take_length]
  refine W_cat (lst_l (lk_fresh hr2 lk_same)) (lst_l lk_same) (by simp [intsV]; first | with_reducible exact Int.natCast_nonneg _ | with_reducible assumption | lia | omega) fun r3 hr3 => S_cons ?_
  have e3 := (e1.new' hr2 (.list (intsV (ts.map (word (pl B)))))).new' hr3 (.list ([V.int (4 * (ts.length : Int))] ++ intsV (ts.map (word (pl B)))))
  have g3 : (upd (upd (upd H r1 (.list [V.int (4 * (ts.length : Int))])) r2 (.list (intsV (ts.map (word (pl B)))))) r3 (.list ([V.int (4 * (ts.length : Int))] ++ intsV (ts.map (word (pl B)))))) r3 = some (.list (intsV (4 * (ts.length : Int) :: ts.map (word (pl B))))) := by
    rw [upd_same]; simp [intsV]
  generalize upd (upd (upd H r1 (.list [V.int (4 * (ts.length : Int))])) r2 (.list (intsV (ts.map (word (pl B)))))) r3 (.list ([V.int (4 * (ts.length : Int))] ++ intsV (ts.map (word (pl B))))) = H3 at e3 g3
  have R3 := R.ext e3.le
  walk_at "st"
  refine R3.row (W_slice (lk_of R3.r) (show cutLo _ .none = some 0 from rfl) (cutHi_nn (Int.natCast_nonneg _)) hrl fun r4 hr4 => ?_)
  rw [cut_ints, ints_length, hlen, Int.toNat_natCast, List.drop_zero, Nat.min_eq_left (show pl B B.length ≤ N by first | with_reducible exact Int.natCast_nonneg _ | with_reducible assumption | lia | omega)]
  have e4 := e3.new' hr4 (.list (intsV ((rowN N B).take (pl B B.length))))
  refine W_cat (lst_l lk_same) (lst_l (lk_fresh hr4 (lk_of g3))) (by simp [intsV]; first | with_reducible exact Int.natCast_nonneg _ | with_reducible assumption | lia | omega) fun r5 hr5 => ?_
  rw [ints_append]
  have e5 := e4.new' hr5 (.list (intsV ((rowN N B).take (pl B B.length) ++ (4 * (ts.length : Int) :: ts.map (word (pl B))))))
  have g5 : lk cx (upd (upd H3 r4 (.list (intsV ((rowN N B).take (pl B B.length))))) r5 (.list (intsV ((rowN N B).take (pl B B.length) ++ (4 * (ts.length : Int) :: ts.map (word (pl B))))))) r5 = some (.list (intsV ((rowN N B).take (pl B B.length) ++ (4 * (ts.length : Int) :: ts.map (word (pl B)))))) := lk_same
  generalize upd (upd H3 r4 (.list (intsV ((rowN N B).take (pl B B.length))))) r5 (.list (intsV ((rowN N B).take (pl B B.length) ++ (4 * (ts.length : Int) :: ts.map (word (pl B)))))) = H5 at e5 g5
  have R5 := R.ext e5.le
  refine R5.row (W_slice (lk_of R5.r) (cutLo_nn (Int.natCast_nonneg _)) (show cutHi _ .none = some _ from rfl) hrl fun r6 hr6 => ?_)
  rw [cut_ints, ints_length, hlen, Int.toNat_natCast, Nat.min_eq_left hle, List.take_of_length_le (show (rowN N B).length ≤ N by first | with_reducible exact Int.natCast_nonneg _ | with_reducible assumption | lia | omega)]
  have e6 := e5.new' hr6 (.list (intsV ((rowN N B).drop (pl B B.length + 1 + ts.length))))
  refine W_cat (lst_l (lk_fresh hr6 g5)) (lst_l lk_same) (by simp [intsV]; first | with_reducible exact Int.natCast_nonneg _ | with_reducible assumption | lia | omega) fun r7 hr7 => ?_
  rw [ints_append, rowN_app (N := N) R.w hle hok]
  have e7 := e6.new' hr7 (.list (intsV (rowN N (B ++ [ts]))))
  have g7 : (upd (upd H5 r6 (.list (intsV ((rowN N B).drop (pl B B.length + 1 + ts.length))))) r7 (.list (intsV (rowN N (B ++ [ts]))))) r7 = some (.list (intsV (rowN N (B ++ [ts])))) := upd_same _ _ _
  have hdr : dx ≠ r7 := hr7.ne' (e6.le _ _ R.d)
  generalize upd (upd H5 r6 (.list (intsV ((rowN N B).drop (pl B B.length + 1 + ts.length))))) r7 (.list (intsV (rowN N (B ++ [ts])))) = H7 at e7 g7
  have R7 := R.ext e7.le
  refine W_setAttr R7.i R7.d (show 2 < 100 by decide) (S_cons ?_)
  walk_at "st"
  refine W_setAttr (by rw [upd_ne _ R7.nrd]; exact R7.i) (upd_same _ _ _) (show 2 < 100 by decide) (S_cons ?_)
  walk_at "st"
  rw [upd_upd]
  refine RQ.here (hQ r7 _ ⟨?_, ?_, ?_, R.n4, by rw [pl_app_len]; exact hle, wfb_app R.w hok⟩ (e6.fresh hr7) (fun a o ha e => by rw [upd_ne _ ha]; exact e7.le _ _ e) (KZ.upd e7.z R7.d))
  · rw [upd_ne _ R7.nrd]; exact R7.i
  · rw [upd_same, pl_app_len]; rfl
  · rw [upd_ne _ (Ne.symm hdr)]; exact g7
noncomputable def MadeSpec (cx : Cx) (n : Nat) : Prop := ∀ (N : Nat) (rm dx ra la : Addr) (B : Bx) (vs : List V) (H : HP) (Q : V → HP → Prop), RoomAt N rm dx ra B H → lk cx H la = some (.list vs) → vs.length ≤ 1000 → (∀ v ∈ vs, (∃ t, ThAt cx H v t) ∨ BadT cx H v) →
  ((∃ v ∈ vs, BadT cx H v) → Q (.exc 49) H) → (∀ ts, All2 (ThAt cx H) vs ts → (∃ t ∈ ts, t.1 = true ∧ t.2 ∉ plI B) → Q (.exc 61) H) →
  (∀ ts : List Th, All2 (ThAt cx H) vs (ts.map (plt B)) → (∀ t ∈ ts, OkT B t) → N < pl B B.length + 1 + ts.length → Q (.exc 85) H) →
  (∀ ts : List Th, All2 (ThAt cx H) vs (ts.map (plt B)) → (∀ t ∈ ts, OkT B t) → pl B B.length + 1 + ts.length ≤ N → ∀ ra' H', RoomAt N rm dx ra' (B ++ [ts]) H' → Fresh cx H ra' → But dx H H' → KZ cx H H' → Q (.int (pl B B.length)) H') → CallX cx n 246 [.ref rm, .ref la] H Q
noncomputable def Sized (u w : V) : Prop := ∃ N d : Nat, u = .int N ∧ w = .int d ∧ d ≤ 20 ∧ d + 1 ≤ N ∧ N ≤ 400
theorem init_ms {u w : V} (hw : WholeSp cx n) (h1 : HeadSp cx n) (hi : H rm = some (.inst 296 dx)) (hdx : H dx = some (.flds [])) (hu : Kn H u) (hw' : Kn H w)
    (hX : ¬ Sized u w → Q (.exc 37) H)
    (hQ : ∀ N d : Nat, u = .int N → w = .int d → d ≤ 20 → d + 1 ≤ N → N ≤ 400 → ∀ ra H', RoomAt N rm dx ra [List.replicate d (false, 0)] H' → Fresh cx H ra → But dx H H' → KZ cx H H' → Q .none H') :
    mwpSs cx n m_Room_init [.ref rm, u, w] H (NQ Q) (RQ Q) := by
  have nrd : rm ≠ dx := fun e => by rw [e, hdx] at hi; cases hi
  have uu : u ≠ .unb := by rintro rfl; exact hu
  have uw : w ≠ .unb := by rintro rfl; exact hw'
  refine S_cons ?_
  walk_at "st"
  have bad : ∀ x, ¬ Sized u w → ∀ N' : List V → HP → Prop, mwpSs cx n (.cons (.raiseS 37 (.cstr x)) .nil) [.ref rm, u, w] H N' (RQ Q) := fun x q N' => by
    refine S_cons ?_
    walk_at "st"
    exact RQ.here (hX q)
  refine onL_of uu (hw _ _ _ hu ?_)
  cases eu : isI u with
  | false =>
    walk_at "st"
    exact bad _ (by rintro ⟨N, d, rfl, _⟩; cases eu) _
  | true =>
    walk_at "st"
    refine onL_of uw (hw _ _ _ hw' ?_)
    cases ew : isI w with
    | false =>
      walk_at "st"
      exact bad _ (by rintro ⟨N, d, _, rfl, _⟩; cases ew) _
    | true =>
      cases u with
      | int s => cases w with
        | int d =>
          walk_at "st"
          refine S_nil (S_cons ?_)
          walk_at "st"
          by_cases hs : (1 ≤ s ∧ s ≤ 400) ∧ (0 ≤ d ∧ d ≤ 20) ∧ ¬ s < d + 1
          case neg =>
            have hbad : ¬ Sized (.int s) (.int d) := by
              rintro ⟨N, e, h1, h2, h3, h4, h5⟩
              cases h1; cases h2
              exact hs ⟨⟨by first | with_reducible exact Int.natCast_nonneg _ | with_reducible assumption | lia | omega, by first | with_reducible exact Int.natCast_nonneg _ | with_reducible assumption | lia | omega⟩, ⟨by first | with_reducible exact Int.natCast_nonneg _ | with_reducible assumption | lia | omega, by first | with_reducible exact Int.natCast_nonneg _ | with_reducible assumption | lia | omega⟩, by first | with_reducible exact Int.natCast_nonneg _ | with_reducible assumption | lia | omega⟩
            refine ifB_of (fun q1 => ifB_of (fun q2 => bad _ hbad _) fun q2 => ifB_of (fun q3 => ifB_of (fun q4 => bad _ hbad _) fun q4 => ifB_of (fun q5 => bad _ hbad _) fun q5 => (hs ?_).elim) fun q3 => bad _ hbad _) fun q1 => bad _ hbad _
            simp only [Bool.not_eq_false', decide_eq_true_iff, decide_eq_false_iff_not] at q1 q2 q3 q4 q5
            exact ⟨⟨q1, q2⟩, ⟨q3, q4⟩, q5⟩
          obtain ⟨⟨s1, s2⟩, ⟨d1, d2⟩, sd⟩ := hs
          obtain ⟨N, rfl⟩ := Int.eq_ofNat_of_zero_le (show 0 ≤ s by first | with_reducible exact Int.natCast_nonneg _ | with_reducible assumption | lia | omega)
          obtain ⟨d, rfl⟩ := Int.eq_ofNat_of_zero_le d1
          refine ifB_t' (decide_eq_true s1) (ifB_f' (by rw [decide_eq_true s2]; rfl) (ifB_t' (decide_eq_true d1) (ifB_f' (by rw [decide_eq_true d2]; rfl) (ifB_f' (decide_eq_false sd) (S_nil (S_cons ?_))))))
          have hN : d + 1 ≤ N := by first | with_reducible exact Int.natCast_nonneg _ | with_reducible assumption | lia | omega
          walk_at "st"
          refine h1 _ _ _ ⟨by simp, fun r1 hr1 => ⟨by simp, fun r2 hr2 => W_rep (lst_l lk_same) (by first | with_reducible exact Int.natCast_nonneg _ | with_reducible assumption | lia | omega) (by first | with_reducible exact Int.natCast_nonneg _ | with_reducible assumption | lia | omega) (by simp; first | with_reducible exact Int.natCast_nonneg _ | with_reducible assumption | lia | omega) fun r3 hr3 => ?_⟩⟩
          rw [rep_zero, show ((N : Int) - 1).toNat = N - 1 from by first | with_reducible exact Int.natCast_nonneg _ | with_reducible assumption | lia | omega]
          refine W_cat (lst_l (lk_fresh hr3 (lk_fresh hr2 lk_same))) (lst_l lk_same) (by simp [intsV]; first | with_reducible exact Int.natCast_nonneg _ | with_reducible assumption | lia | omega) fun r4 hr4 => ?_
          have x3 := ((Ext.new hr1 (.list [V.int (4 * (d : Int))])).new' hr2 (.list [V.int 0])).new' hr3 (.list (intsV (List.replicate (N - 1) 0)))
          have x4 := x3.new' hr4 (.list ([V.int (4 * (d : Int))] ++ intsV (List.replicate (N - 1) 0)))
          have hd4 : dx ≠ r4 := hr4.ne' (x3.le _ _ hdx)
          have e4 : (upd (upd (upd (upd H r1 (.list [V.int (4 * (d : Int))])) r2 (.list [V.int 0])) r3 (.list (intsV (List.replicate (N - 1) 0)))) r4 (.list ([V.int (4 * (d : Int))] ++ intsV (List.replicate (N - 1) 0)))) r4 = some (.list (intsV (rowN N [List.replicate d (false, 0)]))) := by
            rw [upd_same, ← rowN_room hN]; rfl
          have f4 := x3.fresh hr4
          generalize upd (upd (upd (upd H r1 (.list [V.int (4 * (d : Int))])) r2 (.list [V.int 0])) r3 (.list (intsV (List.replicate (N - 1) 0)))) r4 (.list ([V.int (4 * (d : Int))] ++ intsV (List.replicate (N - 1) 0))) = H4 at x4 e4
          refine W_setAttr (x4.le _ _ hi) (x4.le _ _ hdx) (show 0 < 100 by decide) (S_cons ?_)
          walk_at "st"
          refine W_setAttr (by rw [upd_ne _ nrd]; exact x4.le _ _ hi) (upd_same _ _ _) (show 1 < 100 by decide) (S_nil ⟨_, LE.refl _, ?_⟩)
          rw [upd_upd]
          refine hQ N d rfl rfl (by first | with_reducible exact Int.natCast_nonneg _ | with_reducible assumption | lia | omega) hN (by first | with_reducible exact Int.natCast_nonneg _ | with_reducible assumption | lia | omega) r4 _ ⟨?_, ?_, ?_, by first | with_reducible exact Int.natCast_nonneg _ | with_reducible assumption | lia | omega, by rw [List.length_singleton, pl_room]; exact hN, wfb_room d⟩ f4 (fun a o ha e => by rw [upd_ne _ ha]; exact x4.le _ _ e) (KZ.upd x4.z (x4.le _ _ hdx))
          · rw [upd_ne _ nrd]; exact x4.le _ _ hi
          · rw [upd_same, List.length_singleton, pl_room]; rfl
          · rw [upd_ne _ (Ne.symm hd4)]; exact e4
        | _ => cases ew
      | _ => cases eu
noncomputable def InitSpec (cx : Cx) (n : Nat) : Prop := ∀ (rm dx : Addr) (u w : V) (H : HP) (Q : V → HP → Prop), H rm = some (.inst 296 dx) → H dx = some (.flds []) → Kn H u → Kn H w → (¬ Sized u w → Q (.exc 37) H) →
  (∀ N d : Nat, u = .int N → w = .int d → d ≤ 20 → d + 1 ≤ N → N ≤ 400 → ∀ ra H', RoomAt N rm dx ra [List.replicate d (false, 0)] H' → Fresh cx H ra → But dx H H' → KZ cx H H' → Q .none H') → CallX cx n 227 [.ref rm, u, w] H Q
end
end Mine
end

section
namespace Mine
open PySem PyProof.Rows
structure MK (B : Bx) (M W : List Nat) (ex : Nat → Prop) : Prop where
  nd : M.Nodup
  rc : ∀ k ∈ M, Reach B k
  z : 0 ∈ M
  sub : ∀ k ∈ W, k ∈ M
  cl : ∀ k ∈ M, k ∉ W → ¬ ex k → ∀ f, B[k]? = some f → ∀ j : Nat, (true, (j : Int)) ∈ f → j ∈ M
section
variable {B : Bx} {M W : List Nat} {ex : Nat → Prop} {k j : Nat}
theorem MK.start : MK B [0] [0] (fun _ => False) := ⟨by simp, fun k hk => by rw [List.mem_singleton.mp hk]; exact Reach.zero, by simp, fun k hk => hk, fun k hk hn => absurd hk hn⟩
theorem MK.pop (h : MK B M (W ++ [k]) fun _ => False) : MK B M W (fun i => i = k) ∧ k ∈ M := by
  refine ⟨⟨h.nd, h.rc, h.z, fun i hi => h.sub i (List.mem_append_left _ hi), fun i hi hn he => h.cl i hi ?_ (fun q => q)⟩, h.sub k (by simp)⟩
  intro hm
  rcases List.mem_append.mp hm with q | q
  · exact hn q
  · exact he (List.mem_singleton.mp q)
theorem MK.add (h : MK B M W ex) (hr : Reach B j) (hj : j ∉ M) : MK B (j :: M) (W ++ [j]) ex := by
  refine ⟨List.nodup_cons.mpr ⟨hj, h.nd⟩, ?_, List.mem_cons_of_mem _ h.z, ?_, ?_⟩
  · intro i hi
    rcases List.mem_cons.mp hi with rfl | hi
    · exact hr
    · exact h.rc i hi
  · intro i hi
    rcases List.mem_append.mp hi with q | q
    · exact List.mem_cons_of_mem _ (h.sub i q)
    · rw [List.mem_singleton.mp q]; exact List.mem_cons_self
  · intro i hi hn he f hf t ht
    rcases List.mem_cons.mp hi with rfl | hi
    · exact absurd (List.mem_append_right _ List.mem_cons_self) hn
    · exact List.mem_cons_of_mem _ (h.cl i hi (fun q => hn (List.mem_append_left _ q)) he f hf t ht)
theorem MK.fin (h : MK B M W fun i => i = k) (hk : ∀ f, B[k]? = some f → ∀ j : Nat, (true, (j : Int)) ∈ f → j ∈ M) : MK B M W fun _ => False := by
  refine ⟨h.nd, h.rc, h.z, h.sub, fun i hi hn _ f hf t ht => ?_⟩
  by_cases q : i = k
  · subst q; exact hk f hf t ht
  · exact h.cl i hi hn q f hf t ht
theorem MK.done (h : MK B M [] fun _ => False) (k : Nat) : k ∈ M ↔ Reach B k := by
  refine ⟨h.rc k, fun hr => ?_⟩
  induction hr with
  | zero => exact h.z
  | step _ hf ht ih => exact h.cl _ ih (by simp) (fun q => q) _ hf _ ht
theorem MK.len (w : WFB B) (h : MK B M W ex) : M.length ≤ B.length := nodup_bound _ h.nd fun k hk => (h.rc k hk).lt w
end
theorem bump_head {B : Bx} {xs : List Int} {M : List Nat} {k : Nat} {f : List Th} (s : Shp B xs) (hM : ∀ k ∈ M, k < B.length) (h : B[k]? = some f) : (bump xs (M.map (pl B)))[pl B k]? = some (4 * (f.length : Int) + if k ∈ M then 2 else 0) := by
  have hkl := (List.getElem?_eq_some_iff.mp h).1
  rw [bump_get, s.hd h, Option.map_some]
  have : pl B k ∈ M.map (pl B) ↔ k ∈ M := by
    rw [List.mem_map]
    refine ⟨fun ⟨i, hi, e⟩ => ?_, fun q => ⟨k, q, rfl⟩⟩
    rw [← pl_inj (hM i hi) hkl e]; exact hi
  by_cases q : k ∈ M
  · rw [if_pos (this.mpr q), if_pos q]
  · rw [if_neg (fun q' => q (this.mp q')), if_neg q]; simp
theorem bump_fld {B : Bx} {xs : List Int} {M : List Nat} {k j : Nat} {f : List Th} {t : Th} (s : Shp B xs) (h : B[k]? = some f) (hj : f[j]? = some t) : (bump xs (M.map (pl B)))[pl B k + 1 + j]? = some (word (pl B) t) := by
  rw [bump_get, s.fld h hj, Option.map_some, if_neg]
  intro hm
  obtain ⟨i, _, e⟩ := List.mem_map.mp hm
  exact pl_ne h (List.getElem?_eq_some_iff.mp hj).1 e.symm
theorem bump_mark {B : Bx} {xs : List Int} {M : List Nat} {k : Nat} {f : List Th} (s : Shp B xs) (h : B[k]? = some f) : (bump xs (M.map (pl B))).set (pl B k) (4 * ((4 * (f.length : Int)).fdiv 4) + 2) = bump xs ((k :: M).map (pl B)) := by
  rw [fdiv4, show (4 * (f.length : Int)) / 4 = f.length from by first | with_reducible exact Int.natCast_nonneg _ | with_reducible assumption | lia | omega, bump_set (s.hd h)]; rfl
section
variable {cx : Cx} {H H' : HP} {n : Nat} {a r : Addr} {o : O} {Q : V → HP → Prop} {k : Nat} {xs : List Int} {w : Int}
theorem new_abs (h : ∀ r H', Ext cx H H' → Fresh cx H r → H' r = some o → Q (.ref r) H') : new cx H o Q := fun r hr => h r _ (Ext.new hr o) hr (upd_same _ _ _)
theorem W_subI (h : lk cx H a = some (.list (intsV xs))) (hl : xs.length ≤ 1000) (hk : xs[k]? = some w) (q : Q (.int w) H) : subP cx (.ref a) (.int (k : Nat)) H Q :=
  W_sub (sq_l h) (Int.natCast_nonneg _) (by first | exact imil (by with_reducible assumption) | (rw [ints_length]; first | lia | omega)) (by rw [Int.toNat_natCast, ints_get?, hk]; rfl) q
theorem W_setI {P : HP → Prop} (h : H a = some (.list (intsV xs))) (hl : xs.length ≤ 1000) (hk : k < xs.length) (q : P (upd H a (.list (intsV (xs.set k w))))) : setSubP (.ref a) (.int (k : Nat)) (.int w) H P :=
  W_setSub h (Int.natCast_nonneg _) (by first | exact imil (by with_reducible assumption) | (rw [ints_length]; first | lia | omega)) (by rw [ints_length, Int.toNat_natCast]; exact hk) (by rw [Int.toNat_natCast, ints_set]; exact q)
theorem W_listI (h : lk cx H a = some (.list (intsV xs))) (hl : xs.length ≤ 1000) (q : new cx H (.list (intsV xs)) Q) : callbP cx .list [.ref a] H Q := W_list (sq_l h) (by first | exact imil (by with_reducible assumption) | (rw [ints_length]; first | lia | omega)) q
noncomputable def m_with_mark : MSs :=
  (.cons (.assign 2 (.callb .list (.cons (.loc 0) .nil)))
  (.cons (.setSub (.loc 2) (.loc 1) (.callf 108 (.cons (.callf 129 (.cons (.sub (.loc 0) (.loc 1)) .nil)) (.cons (.cbool true) .nil))))
  (.cons (.ret (.loc 2))
  .nil)))
noncomputable def m_marked : MSs :=
  (.cons (.assign 2 (.callf 164 (.cons (.loc 0) (.cons (.cint (0)) .nil))))
  (.cons (.assign 3 (.list (.cons (.cint (0)) .nil)))
  (.cons (.while_ (.cmp (.callb .len (.cons (.loc 3) .nil)) .Gt (.cint (0))) (.cons (.assign 4 (.pop false (.loc 3)))
    (.cons (.for_ 5 (.slice (.loc 2) (.bin .Add (.loc 4) (.cint (1))) (.bin .Add (.bin .Add (.loc 4) (.cint (1))) (.callf 129 (.cons (.sub (.loc 2) (.loc 4)) .nil)))) (.cons (.ite (.bop .And (.cons (.callf 115 (.cons (.loc 5) .nil)) (.cons (.not (.callf 136 (.cons (.sub (.loc 2) (.callf 122 (.cons (.loc 5) .nil))) .nil))) .nil))) (.cons (.assign 2 (.callf 164 (.cons (.loc 2) (.cons (.callf 122 (.cons (.loc 5) .nil)) .nil))))
        (.cons (.expr (.app false (.loc 3) (.callf 122 (.cons (.loc 5) .nil))))
        .nil)) .nil)
      .nil))
    .nil)))
  (.cons (.ret (.loc 2))
  .nil))))
noncomputable def m_is_marked : MSs :=
  (.cons (.ret (.cmp (.bin .Mod (.bin .FloorDiv (.loc 0) (.cint (2))) (.cint (2))) .Eq (.cint (1))))
  .nil)
theorem ismarked_ms (h : Q (.bool ((w.fdiv 2).fmod 2 == 1)) H) : mwpSs cx n m_is_marked [.int w] H (NQ Q) (RQ Q) := by
  refine S_cons ?_
  walk_at "st"
  refine ⟨by decide, by decide, ?_⟩
  rw [eqv_int]
  exact RQ.here h
theorem headt_ms {p : Int} (h : Q (.int (4 * p + 2)) H) : mwpSs cx n m_head_word [.int p, .bool true] H (NQ Q) (RQ Q) := by
  refine S_cons ?_
  walk_at "st"
  refine S_cons ?_
  walk_at "st"
  exact ⟨mulOk_l (by decide), RQ.here h⟩
noncomputable def HeadTSp (cx : Cx) (n : Nat) : Prop := ∀ (p : Int) (H : HP) (Q : V → HP → Prop), Q (.int (4 * p + 2)) H → CallP cx n 108 [.int p, .bool true] H Q
theorem withmark_ms {row : Addr} (h1 : HeadTSp cx n) (h2 : Fn1 cx n 129 fun w => .int (w.fdiv 4)) (hrow : lk cx H row = some (.list (intsV xs))) (hlen : xs.length ≤ 1000) (hp : xs[k]? = some w)
    (hQ : ∀ r H', Ext cx H H' → Fresh cx H r → H' r = some (.list (intsV (xs.set k (4 * (w.fdiv 4) + 2)))) → Q (.ref r) H') :
    mwpSs cx n m_with_mark [.ref row, .int k, .unb] H (NQ Q) (RQ Q) := by
  refine S_cons ?_
  walk_at "st"
  refine W_listI hrow hlen (new_abs fun r H1 x1 hr e1 => S_cons ?_)
  walk_at "st"
  refine W_subI (x1.lk hrow) hlen hp (h2 _ _ _ ?_)
  walk_at "st"
  refine h1 _ _ _ ?_
  walk_at "st"
  refine W_setI e1 hlen (List.getElem?_eq_some_iff.mp hp).1 (S_cons ?_)
  walk_at "st"
  exact RQ.here (hQ r _ (x1.upd hr.1 hr.2.2 _) hr (upd_same _ _ _))
noncomputable def WithMarkSpec (cx : Cx) (n : Nat) : Prop := ∀ (row : Addr) (xs : List Int) (p : Nat) (w : Int) (H : HP) (Q : V → HP → Prop), lk cx H row = some (.list (intsV xs)) → xs.length ≤ 1000 → xs[p]? = some w →
  (∀ r H', Ext cx H H' → Fresh cx H r → H' r = some (.list (intsV (xs.set p (4 * (w.fdiv 4) + 2)))) → Q (.ref r) H') → CallP cx n 164 [.ref row, .int p] H Q
structure MS1 (cx : Cx) (B : Bx) (xs : List Int) (H0 : HP) (wa fa : Addr) (M W : List Nat) (H : HP) : Prop where
  ext : Ext cx H0 H
  fr : Fresh cx H0 fa
  fd : H fa = some (.list (intsV (bump xs (M.map (pl B)))))
  wt : H wa = some (.list (natsV (W.map (pl B))))
  ne : fa ≠ wa
noncomputable abbrev MI1 (cx : Cx) (B : Bx) (xs : List Int) (H : HP) (row wa : Addr) (used : Int) (m : Nat) (μ : List V) (H' : HP) : Prop :=
  ∃ fa M W z4 z5, μ = [.ref row, .int used, .ref fa, .ref wa, z4, z5] ∧ MS1 cx B xs H wa fa M W H' ∧ MK B M W (fun _ => False) ∧ m = 2 * (B.length - M.length) + W.length ∧ m ≤ 2 * B.length
noncomputable abbrev MI2 (cx : Cx) (B : Bx) (xs : List Int) (H : HP) (row wa sl : Addr) (used : Int) (m k : Nat) (f : List Th) (done μ : List V) (H' : HP) : Prop :=
  ∃ fa M' W' z5, μ = [.ref row, .int used, .ref fa, .ref wa, .int (pl B k), z5] ∧ MS1 cx B xs H wa fa M' W' H' ∧ H' sl = some (.list (intsV (f.map (word (pl B))))) ∧ MK B M' W' (fun i => i = k) ∧ 2 * (B.length - M'.length) + W'.length < m ∧ k ∈ M' ∧
    (∀ i (j : Nat), i < done.length → f[i]? = some (true, (j : Int)) → j ∈ M')
theorem marked_ms {row : Addr} {B : Bx} {used : Int} (hwm : WithMarkSpec cx n) (h2 : Fn1 cx n 129 fun w => .int (w.fdiv 4)) (h3 : Fn1 cx n 115 fun w => .bool (w.fmod 2 == 1)) (h4 : Fn1 cx n 136 fun w => .bool ((w.fdiv 2).fmod 2 == 1)) (h5 : Fn1 cx n 122 fun w => .int (w.fdiv 2))
    (hrow : lk cx H row = some (.list (intsV xs))) (s : Shp B xs) (w : WFB B) (hB : B.length ≤ 1000)
    (hQ : ∀ (r : Addr) (H' : HP) (M : List Nat), Ext cx H H' → Fresh cx H r → H' r = some (.list (intsV (bump xs (M.map (pl B))))) → (∀ k, k ∈ M ↔ Reach B k) → Q (.ref r) H') :
    mwpSs cx n m_marked [.ref row, .int used, .unb, .unb, .unb, .unb] H (NQ Q) (RQ Q) := by
  have hlen := s.len
  have hpos := w.pos
  have h00 : B[0]? = some B[0] := List.getElem?_eq_getElem w.pos
  have hbl : ∀ M : List Nat, (bump xs (M.map (pl B))).length = xs.length := fun M => bump_length _ _
  refine S_cons ?_
  walk_at "st"
  have hp0 := s.hd h00
  rw [pl_zero] at hp0
  refine hwm _ xs 0 _ _ _ hrow hlen hp0 fun fa H1 x1 hfa e1 => ?_
  have hb0 := bump_mark (M := []) s h00
  rw [List.map_nil, bump_nil, pl_zero] at hb0
  rw [hb0] at e1
  refine S_cons ?_
  walk_at "st"
  refine ⟨by simp, new_abs fun wa H2 x2 hwa e2 => S_cons ?_⟩
  have hwaH : Fresh cx H wa := x1.fresh hwa
  have I0 : MS1 cx B xs H wa fa [0] [0] H2 := ⟨x1.trans x2, hfa, x2.le _ _ e1, by rw [e2]; simp [natsV, intsV, pl_zero], hwa.ne' e1⟩
  clear hwa e1 e2 x1 x2 hb0 hp0
  rw [s_while]
  refine ⟨MI1 cx B xs H row wa used, ⟨_, fa, [0], [0], _, _, rfl, I0, MK.start, rfl, by simp; first | with_reducible exact Int.natCast_nonneg _ | with_reducible assumption | lia | omega⟩, ?_⟩
  clear I0 hfa
  rintro m μ H1 ⟨fa, M, W, z4, z5, rfl, I, K, hm, hm2⟩
  walk_at "st"
  refine W_len (sq_l (lk_of I.wt)) (by rw [natsV_length, List.length_map]; first | with_reducible exact Int.natCast_nonneg _ | with_reducible assumption | lia | omega) ?_
  walk_at "st"
  rw [natsV_length, List.length_map]
  rcases List.eq_nil_or_concat W with rfl | ⟨W, k, rfl⟩
  · refine ifB_f' (by simp) (S_cons ?_)
    walk_at "st"
    exact RQ.here (hQ fa H1 M I.ext I.fr I.fd K.done)
  rw [List.concat_eq_append] at *
  refine ifB_t' (by rw [decide_eq_true_iff, List.length_append, List.length_singleton]; first | with_reducible exact Int.natCast_nonneg _ | with_reducible assumption | lia | omega) (S_cons ?_)
  obtain ⟨K1, hkM⟩ := K.pop
  have hkr := K.rc k hkM
  have hkl := hkr.lt w
  have hk : B[k]? = some B[k] := List.getElem?_eq_getElem hkl
  have hMl : ∀ i ∈ M, i < B.length := fun i hi => (K.rc i hi).lt w
  clear K
  walk_at "st"
  refine W_pop I.wt (v := .int (pl B k)) (by simp [natsV, intsV]) (by rw [natsV_length, List.length_map]; first | with_reducible exact Int.natCast_nonneg _ | with_reducible assumption | lia | omega) (S_cons ?_)
  rw [show (natsV ((W ++ [k]).map (pl B))).dropLast = natsV (W.map (pl B)) by simp [natsV, intsV]]
  have I2 : MS1 cx B xs H wa fa M W (upd H1 wa (.list (natsV (W.map (pl B))))) := ⟨I.ext.upd hwaH.1 hwaH.2.2 _, I.fr, by rw [upd_ne _ I.ne]; exact I.fd, upd_same _ _ _, I.ne⟩
  generalize upd H1 wa (.list (natsV (W.map (pl B)))) = H2 at I2
  clear I H1
  generalize B[k] = f at hk
  walk_at "st"
  have hh := bump_head s hMl hk
  rw [if_pos hkM] at hh
  refine W_subI (lk_of I2.fd) (by rw [hbl]; exact hlen) hh (h2 _ _ _ ?_)
  have hfd : (4 * (f.length : Int) + 2).fdiv 4 = (f.length : Int) := by rw [fdiv4]; first | with_reducible exact Int.natCast_nonneg _ | with_reducible assumption | lia | omega
  walk_at "st"
  rw [hfd, show ((pl B k : Int) + 1 + (f.length : Int)) = ((pl B k + 1 + f.length : Nat) : Int) from by first | with_reducible exact Int.natCast_nonneg _ | with_reducible assumption | lia | omega, show ((pl B k : Int) + 1) = ((pl B k + 1 : Nat) : Int) from by first | with_reducible exact Int.natCast_nonneg _ | with_reducible assumption | lia | omega]
  have hin : ∀ j, j < f.length → pl B k + 1 + j < xs.length := fun j hj => (List.getElem?_eq_some_iff.mp (s.fld hk (List.getElem?_eq_getElem hj))).1
  have hfl : f.length = 0 ∨ pl B k + 1 + f.length ≤ xs.length := by
    cases hz : f.length with
    | zero => exact .inl rfl
    | succ m => have := hin m (by first | with_reducible exact Int.natCast_nonneg _ | with_reducible assumption | lia | omega); exact .inr (by first | with_reducible exact Int.natCast_nonneg _ | with_reducible assumption | lia | omega)
  have hsl : ((bump xs (M.map (pl B))).take (min (pl B k + 1 + f.length) xs.length)).drop (min (pl B k + 1) xs.length) = f.map (word (pl B)) := by
    have := slice_eq (ys := bump xs (M.map (pl B))) (l := f.map (word (pl B))) (a := pl B k + 1) ?_ ?_
    · rw [List.length_map, hbl] at this; exact this
    · intro j hj
      rw [List.length_map] at hj
      have ht : f[j]? = some f[j] := List.getElem?_eq_getElem hj
      rw [bump_fld s hk ht, List.getElem?_map, ht]; rfl
    · rw [List.length_map, hbl]; exact hfl
  refine W_slice (lk_of I2.fd) (cutLo_nn (Int.natCast_nonneg _)) (cutHi_nn (Int.natCast_nonneg _)) (by rw [ints_length, hbl]; first | with_reducible exact Int.natCast_nonneg _ | with_reducible assumption | lia | omega) ?_
  rw [Int.toNat_natCast, Int.toNat_natCast, ints_length, hbl, cut_ints, hsl]
  refine new_abs fun sl H3 x3 hsl' e3 => ?_
  have hsw : wa ≠ sl := hsl'.ne' I2.wt
  have hwl : (f.map (word (pl B))).length = f.length := List.length_map _
  refine W_iter (lk_of e3) (by rw [ints_length, hwl]; first | with_reducible exact Int.natCast_nonneg _ | with_reducible assumption | lia | omega) ⟨MI2 cx B xs H row wa sl used m k f, ?_, ?_, ?_, ?_⟩
  · exact ⟨fa, M, W, _, rfl, ⟨I2.ext.trans x3, I2.fr, x3.le _ _ I2.fd, x3.le _ _ I2.wt, I2.ne⟩, e3, K1, by simp at hm; first | with_reducible exact Int.natCast_nonneg _ | with_reducible assumption | lia | omega, hkM, fun i j hi => absurd hi (by simp)⟩
  · rintro done μ H' ⟨_, _, _, _, _, _, h, _⟩; exact lk_of h
  · clear I2 x3 e3 K1 hkM hMl hh
    rintro done x rest μ H3 hitems ⟨fa', M', W', z5', rfl, I3, hsl3, K3, hm3, hkM', hall⟩
    have hx : (intsV (f.map (word (pl B))))[done.length]? = some x := by rw [hitems]; simp
    rw [ints_get?, List.getElem?_map] at hx
    cases ht : f[done.length]? with
    | none => rw [ht] at hx; cases hx
    | some t =>
    rw [ht] at hx
    simp only [Option.map_some, Option.some.injEq] at hx
    subst hx
    have hMl' : ∀ i ∈ M', i < B.length := fun i hi => (K3.rc i hi).lt w
    have keep : ∀ {M'' : List Nat}, (∀ j ∈ M', j ∈ M'') → (∀ j : Nat, t = (true, (j : Int)) → j ∈ M'') → ∀ i (j' : Nat), i < (done ++ [V.int (word (pl B) t)]).length → f[i]? = some (true, (j' : Int)) → j' ∈ M'' := by
      intro M'' h1 h2 i j' hi hij
      rw [List.length_append, List.length_singleton] at hi
      by_cases q : i = done.length
      · subst q; rw [ht] at hij; exact h2 j' (Option.some.inj hij)
      · exact h1 _ (hall i j' (by first | with_reducible exact Int.natCast_nonneg _ | with_reducible assumption | lia | omega) hij)
    refine S_cons ?_
    walk_at "st"
    refine h3 _ _ _ ?_
    walk_at "st"
    rw [fmod2]
    obtain ⟨b, v⟩ := t
    cases b with
    | false =>
      refine ifB_f' (by simp [word]) (S_nil (S_nil ⟨_, LE.refl _, fa', M', W', _, rfl, I3, hsl3, K3, hm3, hkM', keep (fun _ q => q) fun j q => by cases q⟩))
    | true =>
      obtain ⟨j, rfl, hj⟩ := tgt_of w hk ht
      have hjB : B[j]? = some B[j] := List.getElem?_eq_getElem hj
      generalize B[j] = g at hjB
      have ew : word (pl B) (true, (j : Int)) = 2 * (pl B j : Int) + 1 := by simp [word]
      have e2 : (2 * (pl B j : Int) + 1).fdiv 2 = (pl B j : Int) := by rw [fdiv2]; first | with_reducible exact Int.natCast_nonneg _ | with_reducible assumption | lia | omega
      have hgj := bump_head s hMl' hjB
      rw [ew] at keep ⊢
      refine ifB_t' (by rw [beq_iff_eq]; first | with_reducible exact Int.natCast_nonneg _ | with_reducible assumption | lia | omega) (h5 _ _ _ ?_)
      walk_at "st"
      rw [e2]
      refine W_subI (lk_of I3.fd) (by rw [hbl]; exact hlen) hgj (h4 _ _ _ ?_)
      walk_at "st"
      by_cases hjM : j ∈ M'
      · rw [if_pos hjM]
        have e4 : ((4 * (g.length : Int) + 2).fdiv 2).fmod 2 == 1 := by rw [fdiv2, fmod2, beq_iff_eq]; first | with_reducible exact Int.natCast_nonneg _ | with_reducible assumption | lia | omega
        rw [e4]
        refine ifB_f' rfl (S_nil (S_nil ⟨_, LE.refl _, fa', M', W', _, rfl, I3, hsl3, K3, hm3, hkM', keep (fun _ q => q) fun j' q => ?_⟩))
        have : j = j' := by injection q with _ q; exact Int.ofNat.inj q
        exact this ▸ hjM
      · rw [if_neg hjM, Int.add_zero] at hgj ⊢
        have e4 : (((4 * (g.length : Int)).fdiv 2).fmod 2 == 1) = false := by rw [fdiv2, fmod2, beq_eq_false_iff_ne]; first | with_reducible exact Int.natCast_nonneg _ | with_reducible assumption | lia | omega
        rw [e4]
        refine ifB_t' rfl (S_cons ?_)
        walk_at "st"
        refine h5 _ _ _ ?_
        walk_at "st"
        rw [e2]
        refine hwm _ _ _ _ _ _ (lk_of I3.fd) (by rw [hbl]; exact hlen) hgj fun fb H4 x4 hfb e4 => S_cons ?_
        rw [bump_mark s hjB] at e4
        have hfbw : fb ≠ wa := fun e => hfb.ne' I3.wt e.symm
        have K4 := K3.add (Reach.step hkr hk (List.mem_of_getElem? ht)) hjM
        have hMlen := K4.len w
        rw [List.length_cons] at hMlen
        walk_at "st"
        refine ⟨W_la (x4.le _ _ I3.wt), h5 _ _ _ ?_⟩
        walk_at "st"
        rw [e2]
        refine W_app (x4.le _ _ I3.wt) (by rw [natsV_length, List.length_map]; first | with_reducible exact Int.natCast_nonneg _ | with_reducible assumption | lia | omega) (S_nil (S_nil ⟨_, LE.refl _, fb, j :: M', W' ++ [j], _, rfl, ⟨(I3.ext.trans x4).upd hwaH.1 hwaH.2.2 _, I3.ext.fresh hfb, by rw [upd_ne _ hfbw]; exact e4, ?_, hfbw⟩, by rw [upd_ne _ (Ne.symm hsw)]; exact x4.le _ _ hsl3, K4, ?_, List.mem_cons_of_mem _ hkM', keep (fun _ q => List.mem_cons_of_mem _ q) fun j' q => ?_⟩))
        · rw [upd_same, natsV_snoc, List.map_append]; rfl
        · simp only [List.length_cons, List.length_append, List.length_nil]; first | with_reducible exact Int.natCast_nonneg _ | with_reducible assumption | lia | omega
        · have : j = j' := by injection q with _ q; exact Int.ofNat.inj q
          exact this ▸ List.mem_cons_self
  · rintro μ H' ⟨fa', M', W', z5', rfl, I3, hsl3, K3, hm3, hkM', hall⟩
    refine S_nil ⟨_, LE.refl _, _, hm3, fa', M', W', _, _, rfl, I3, K3.fin ?_, rfl, by first | with_reducible exact Int.natCast_nonneg _ | with_reducible assumption | lia | omega⟩
    intro f' hf j hjf
    rw [hk] at hf; cases hf
    obtain ⟨i, hi⟩ := List.getElem?_of_mem hjf
    refine hall i j ?_ hi
    have := (List.getElem?_eq_some_iff.mp hi).1
    simpa [intsV] using this
noncomputable def MarkedSpec (cx : Cx) (n : Nat) : Prop := ∀ (row : Addr) (xs : List Int) (B : Bx) (used : Int) (H : HP) (Q : V → HP → Prop), lk cx H row = some (.list (intsV xs)) → Shp B xs → WFB B → B.length ≤ 1000 →
  (∀ (r : Addr) (H' : HP) (M : List Nat), Ext cx H H' → Fresh cx H r → H' r = some (.list (intsV (bump xs (M.map (pl B))))) → (∀ k, k ∈ M ↔ Reach B k) → Q (.ref r) H') → CallP cx n 171 [.ref row, .int used] H Q
end
end Mine
end

section
namespace Mine

noncomputable def setAll (zs : List Int) (cs : List Nat) (v : Int) : List Int := zs.mapIdx fun i x => if i ∈ cs then v else x
theorem setAll_get (zs : List Int) (cs : List Nat) (v : Int) (i : Nat) : (setAll zs cs v)[i]? = zs[i]?.map fun x => if i ∈ cs then v else x := by simp [setAll]
theorem setAll_length (zs : List Int) (cs : List Nat) (v : Int) : (setAll zs cs v).length = zs.length := by simp [setAll]
theorem setAll_nil (zs : List Int) (v : Int) : setAll zs [] v = zs := by
  apply List.ext_getElem?; intro i; rw [setAll_get]; simp
theorem setAll_cons (zs : List Int) (c : Nat) (cs : List Nat) (v : Int) : setAll (zs.set c v) cs v = setAll zs (c :: cs) v := by
  apply List.ext_getElem?; intro i
  rw [setAll_get, setAll_get, List.getElem?_set]
  by_cases h : c = i
  · subst h
    by_cases hl : c < zs.length
    · simp [hl]
    · simp [hl]
  · have : ¬ i = c := fun e => h e.symm
    simp [h, this]
theorem setAll_set (zs : List Int) {h : Nat} {cs : List Nat} (hn : h ∉ cs) (v x : Int) : setAll (zs.set h x) cs v = (setAll zs cs v).set h x := by
  apply List.ext_getElem?; intro i
  rw [setAll_get, List.getElem?_set, List.getElem?_set, setAll_get, setAll_length]
  by_cases q : h = i
  · subst q
    by_cases hl : h < zs.length
    · simp [hl, hn]
    · simp [hl]
  · simp [q]

noncomputable def Chain (xs : List Int) : Int → List Nat → Int → Prop
  | w, [], e => w = e
  | w, c :: cs, e => w = 2 * (c : Int) + 1 ∧ ∃ w', xs[c]? = some w' ∧ Chain xs w' cs e
theorem Chain.set {xs : List Int} {k : Nat} {x : Int} {e : Int} : ∀ {cs : List Nat} {w : Int}, k ∉ cs → Chain xs w cs e → Chain (xs.set k x) w cs e
  | [], _, _, h => h
  | c :: cs, w, hn, ⟨h1, w', h2, h3⟩ => by
    simp only [List.mem_cons, not_or] at hn
    refine ⟨h1, w', ?_, Chain.set hn.2 h3⟩
    rw [List.getElem?_set_ne hn.1]; exact h2

end Mine
end

section
namespace Mine

noncomputable def nw (B : Bx) (p : Nat → Bool) : Nat → Nat
  | 0 => 0
  | k + 1 => nw B p k + if p k then 1 + (B.getD k []).length else 0
noncomputable def kept (B : Bx) (p : Nat → Bool) : Nat → Bx
  | 0 => []
  | k + 1 => kept B p k ++ if p k then [B.getD k []] else []
theorem nw_succ {B : Bx} {p : Nat → Bool} {k : Nat} {fl : List Th} (h : B[k]? = some fl) : nw B p (k + 1) = nw B p k + if p k then 1 + fl.length else 0 := by rw [nw, getD_of h]
theorem nw_le {B : Bx} (p : Nat → Bool) : ∀ {k}, k ≤ B.length → nw B p k ≤ pl B k
  | 0, _ => by simp [nw]
  | k + 1, hk => by
    have ih := nw_le p (show k ≤ B.length by first | lia | omega)
    have h : B[k]? = some B[k] := List.getElem?_eq_getElem (by first | lia | omega)
    rw [pl_succ h, nw_succ h]
    split <;> (first | lia | omega)
theorem kept_len (g : Nat → Nat) (B : Bx) (p : Nat → Bool) : ∀ k, (rowOf g (kept B p k)).length = nw B p k
  | 0 => by simp [kept, nw, rowOf]
  | k + 1 => by
    rw [kept, nw, rowOf_append, List.length_append, kept_len g B p k]
    split
    · simp [rowOf, cellsOf_length]
    · simp [rowOf]

theorem Chain.congr {xs ys : List Int} {e : Int} : ∀ {cs : List Nat} {w : Int}, (∀ c ∈ cs, ys[c]? = xs[c]?) → Chain xs w cs e → Chain ys w cs e
  | [], _, _, h => h
  | c :: cs, w, hn, ⟨h1, w', h2, h3⟩ => ⟨h1, w', by rw [hn c List.mem_cons_self]; exact h2, Chain.congr (fun c hc => hn c (List.mem_cons_of_mem _ hc)) h3⟩

structure TH (B : Bx) (lo N : Nat) (cs : Nat → List Nat) (val : Nat → Int) (row : List Int) : Prop where
  len : row.length = N
  hd : ∀ j, lo ≤ j → j < B.length → ∃ w, row[pl B j]? = some w ∧ Chain row w (cs j) (val (pl B j))
  vl : ∀ c, pl B lo ≤ c → c < N → (∀ j, c ∉ cs j) → (∀ j, j < B.length → c ≠ pl B j) → row[c]? = some (val c)
  nd : ∀ j, (cs j).Nodup
  dj : ∀ i j c, c ∈ cs i → c ∈ cs j → i = j
  nh : ∀ i j c, c ∈ cs i → j < B.length → c ≠ pl B j

theorem TH.hung {B : Bx} {lo N : Nat} {cs : Nat → List Nat} {val : Nat → Int} {row : List Int} (T : TH B lo N cs val row) {c j : Nat} {w : Int} (hlo : lo ≤ j) (hj : j < B.length) (hc : c < N)
    (h1 : ∀ i, c ∉ cs i) (h2 : ∀ i, i < B.length → c ≠ pl B i) (hw : row[pl B j]? = some w) :
    TH B lo N (fun i => if i = j then c :: cs j else cs i) val ((row.set c w).set (pl B j) (2 * (c : Int) + 1)) := by
  have hcl : c < row.length := by rw [T.len]; exact hc
  have hpl : pl B j < row.length := (List.getElem?_eq_some_iff.mp hw).1
  have hcj : c ≠ pl B j := h2 j hj
  refine ⟨by simp [T.len], ?_, ?_, ?_, ?_, ?_⟩
  · intro i hi hin
    by_cases q : i = j
    · subst q
      rw [if_pos rfl]
      obtain ⟨w', e1, e2⟩ := T.hd i hi hin
      rw [hw] at e1; cases e1
      refine ⟨2 * (c : Int) + 1, by simp [hpl], rfl, w, ?_, ?_⟩
      · rw [List.getElem?_set_ne (Ne.symm hcj)]; simp [hcl]
      · exact Chain.set (fun h => T.nh i i _ h hin rfl) (Chain.set (h1 i) e2)
    · rw [if_neg q]
      obtain ⟨w', e1, e2⟩ := T.hd i hi hin
      refine ⟨w', ?_, Chain.set (fun h => T.nh i j _ h hj rfl) (Chain.set (h1 i) e2)⟩
      rw [List.getElem?_set_ne (fun e => q (pl_inj hj hin e).symm), List.getElem?_set_ne (h2 i hin)]
      exact e1
  · intro c' hlo' hc' hn hh
    have hne : c ≠ c' := by
      intro e; subst e
      have := hn j
      rw [if_pos rfl] at this
      exact this List.mem_cons_self
    rw [List.getElem?_set_ne (fun e => hh j hj e.symm), List.getElem?_set_ne hne]
    refine T.vl c' hlo' hc' (fun i hi => ?_) hh
    have := hn i
    by_cases q : i = j
    · subst q; rw [if_pos rfl] at this; exact this (List.mem_cons_of_mem _ hi)
    · rw [if_neg q] at this; exact this hi
  · intro i
    by_cases q : i = j
    · subst q; rw [if_pos rfl]; exact List.nodup_cons.mpr ⟨h1 i, T.nd i⟩
    · rw [if_neg q]; exact T.nd i
  · intro i i' x hx hx'
    by_cases q : i = j
    · by_cases q' : i' = j
      · rw [q, q']
      · rw [if_pos q] at hx; rw [if_neg q'] at hx'
        rcases List.mem_cons.mp hx with rfl | hx
        · exact absurd hx' (h1 i')
        · rw [q]; exact T.dj j i' x hx hx'
    · by_cases q' : i' = j
      · rw [if_neg q] at hx; rw [if_pos q'] at hx'
        rcases List.mem_cons.mp hx' with rfl | hx'
        · exact absurd hx (h1 i)
        · rw [q']; exact T.dj i j x hx hx'
      · rw [if_neg q] at hx; rw [if_neg q'] at hx'; exact T.dj i i' x hx hx'
  · intro i i' x hx hi'
    by_cases q : i = j
    · rw [if_pos q] at hx
      rcases List.mem_cons.mp hx with rfl | hx
      · exact h2 i' hi'
      · exact T.nh j i' x hx hi'
    · rw [if_neg q] at hx; exact T.nh i i' x hx hi'

theorem TH.led {B : Bx} {lo N : Nat} {cs : Nat → List Nat} {val : Nat → Int} {row : List Int} (T : TH B lo N cs val row) {j : Nat} (v : Int) (hlo : lo ≤ j) (hj : j < B.length) :
    TH B lo N (fun i => if i = j then [] else cs i) (fun c => if c ∈ cs j then v else val c) ((setAll row (cs j) v).set (pl B j) (val (pl B j))) := by
  obtain ⟨w, hw, _⟩ := T.hd j hlo hj
  have hpl : pl B j < row.length := (List.getElem?_eq_some_iff.mp hw).1
  have hnj : ∀ i, i < B.length → pl B i ∉ cs j := fun i hi h => T.nh j i _ h hi rfl
  refine ⟨by simp [T.len, setAll_length], ?_, ?_, ?_, ?_, ?_⟩
  · intro i hi hin
    rw [if_neg (hnj i hin)]
    by_cases q : i = j
    · subst q
      rw [if_pos rfl]
      exact ⟨_, by simp [setAll_length, hpl], rfl⟩
    · rw [if_neg q]
      obtain ⟨w', e1, e2⟩ := T.hd i hi hin
      refine ⟨w', ?_, Chain.congr (fun c hc => ?_) e2⟩
      · rw [List.getElem?_set_ne (fun e => q (pl_inj hj hin e).symm), setAll_get, e1, Option.map_some, if_neg (hnj i hin)]
      · rw [List.getElem?_set_ne (fun e => T.nh i j c hc hj e.symm), setAll_get]
        have : c ∉ cs j := fun h => q (T.dj i j c hc h)
        simp [this]
  · intro c hlo' hc hn hh
    rw [List.getElem?_set_ne (fun e => hh j hj e.symm), setAll_get]
    have hcl : c < row.length := by rw [T.len]; exact hc
    by_cases q : c ∈ cs j
    · rw [if_pos q, List.getElem?_eq_getElem hcl]; simp [q]
    · rw [if_neg q, T.vl c hlo' hc (fun i hi => ?_) hh]
      · simp [q]
      · by_cases q2 : i = j
        · subst q2; exact q hi
        · have := hn i; rw [if_neg q2] at this; exact this hi
  · intro i
    by_cases q : i = j
    · rw [if_pos q]; exact List.nodup_nil
    · rw [if_neg q]; exact T.nd i
  · intro i i' x hx hx'
    by_cases q : i = j
    · rw [if_pos q] at hx; cases hx
    · by_cases q' : i' = j
      · rw [if_pos q'] at hx'; cases hx'
      · rw [if_neg q] at hx; rw [if_neg q'] at hx'; exact T.dj i i' x hx hx'
  · intro i i' x hx hi'
    by_cases q : i = j
    · rw [if_pos q] at hx; cases hx
    · rw [if_neg q] at hx; exact T.nh i i' x hx hi'

structure IG (B : Bx) (p : Nat → Bool) (D R : Nat → Nat → Nat → Prop) (cs : Nat → List Nat) (val : Nat → Int) : Prop where
  cs : ∀ c j, c ∈ cs j ↔ ∃ (i f : Nat) (fl : List Th), B[i]? = some fl ∧ fl[f]? = some (true, (j : Int)) ∧ c = pl B i + 1 + f ∧ D i f j
  vn : ∀ {i f : Nat} {fl : List Th} {v : Int}, B[i]? = some fl → fl[f]? = some (false, v) → val (pl B i + 1 + f) = 2 * v
  vr : ∀ {i f j : Nat} {fl : List Th}, B[i]? = some fl → fl[f]? = some (true, (j : Int)) → R i f j → val (pl B i + 1 + f) = 2 * (nw B p j : Int) + 1
  vo : ∀ {i f j : Nat} {fl : List Th}, B[i]? = some fl → fl[f]? = some (true, (j : Int)) → ¬ R i f j → val (pl B i + 1 + f) = 2 * (pl B j : Int) + 1
  hd : ∀ {j : Nat} {fl : List Th}, B[j]? = some fl → val (pl B j) = 4 * (fl.length : Int) + if p j then 2 else 0

theorem cell_inj {B : Bx} {i i' f f' : Nat} {fl fl' : List Th} (h : B[i]? = some fl) (h' : B[i']? = some fl') (hf : f < fl.length) (hf' : f' < fl'.length) (e : pl B i + 1 + f = pl B i' + 1 + f') : i = i' ∧ f = f' := by
  have a := pl_succ h
  have a' := pl_succ h'
  rcases Nat.lt_trichotomy i i' with q | q | q
  · have := pl_mono (B := B) (show i + 1 ≤ i' from q); first | lia | omega
  · subst q; exact ⟨rfl, by first | lia | omega⟩
  · have := pl_mono (B := B) (show i' + 1 ≤ i from q); first | lia | omega

noncomputable def ST (B : Bx) (p : Nat → Bool) (lo N : Nat) (D R : Nat → Nat → Nat → Prop) (row : List Int) : Prop := ∃ cs val, TH B lo N cs val row ∧ IG B p D R cs val

section
variable {B : Bx} {p : Nat → Bool} {lo N : Nat} {D R D' R' : Nat → Nat → Nat → Prop} {row : List Int}

theorem ST.congr (w : WFB B) (S : ST B p lo N D R row) (hD : ∀ (i f j : Nat) (fl : List Th), B[i]? = some fl → fl[f]? = some (true, (j : Int)) → j < B.length → (D i f j ↔ D' i f j)) (hR : ∀ (i f j : Nat) (fl : List Th), B[i]? = some fl → fl[f]? = some (true, (j : Int)) → j < B.length → (R i f j ↔ R' i f j)) : ST B p lo N D' R' row := by
  obtain ⟨cs, val, T, I⟩ := S
  have key : ∀ {i f j : Nat} {fl : List Th}, B[i]? = some fl → fl[f]? = some (true, (j : Int)) → fl[f]? = some (true, (j : Int)) ∧ j < B.length := by
    intro i f j fl h1 h2
    refine ⟨h2, ?_⟩
    obtain ⟨j', e, hj⟩ := w.tgt _ (List.mem_of_getElem? h1) _ (List.mem_of_getElem? h2) rfl
    have : j = j' := Int.ofNat.inj e
    first | lia | omega
  refine ⟨cs, val, T, ?_, I.vn, ?_, ?_, I.hd⟩
  · intro c j
    rw [I.cs]
    refine ⟨fun ⟨i, f, fl, a, b, e, d⟩ => ⟨i, f, fl, a, b, e, (hD i f j fl a (key a b).1 (key a b).2).mp d⟩, fun ⟨i, f, fl, a, b, e, d⟩ => ⟨i, f, fl, a, b, e, (hD i f j fl a (key a b).1 (key a b).2).mpr d⟩⟩
  · intro i f j fl a b d; exact I.vr a b ((hR i f j fl a (key a b).1 (key a b).2).mpr d)
  · intro i f j fl a b d; exact I.vo a b fun q => d ((hR i f j fl a (key a b).1 (key a b).2).mp q)

theorem ST.head (S : ST B p lo N D R row) {k : Nat} {fl : List Th} (hlo : lo ≤ k) (hk : B[k]? = some fl) (hDR : ∀ i f j, D i f j → ¬ R i f j) :
    ∃ (w : Int) (cs : List Nat), row[pl B k]? = some w ∧ Chain row w cs (4 * (fl.length : Int) + if p k then 2 else 0) ∧ cs.Nodup ∧ pl B k ∉ cs ∧ (∀ c ∈ cs, ∃ (i f : Nat) (fl : List Th), B[i]? = some fl ∧ f < fl.length ∧ c = pl B i + 1 + f ∧ D i f k) ∧
      ((setAll row cs (2 * (nw B p k : Int) + 1)).set (pl B k) (4 * (fl.length : Int) + if p k then 2 else 0))[pl B k]? = some (4 * (fl.length : Int) + if p k then 2 else 0) ∧
      ST B p lo N (fun i f j => D i f j ∧ j ≠ k) (fun i f j => R i f j ∨ (D i f j ∧ j = k)) ((setAll row cs (2 * (nw B p k : Int) + 1)).set (pl B k) (4 * (fl.length : Int) + if p k then 2 else 0)) := by
  obtain ⟨cs, val, T, I⟩ := S
  have hkl : k < B.length := (List.getElem?_eq_some_iff.mp hk).1
  obtain ⟨w, hw, hc⟩ := T.hd k hlo hkl
  have hpl : pl B k < row.length := (List.getElem?_eq_some_iff.mp hw).1
  have hv := I.hd hk
  rw [hv] at hc
  refine ⟨w, cs k, hw, hc, T.nd k, fun h => T.nh k k _ h hkl rfl, ?_, by simp [setAll_length, hpl], _, _, (by have := T.led (2 * (nw B p k : Int) + 1) hlo hkl; rw [hv] at this; exact this), ?_, ?_, ?_, ?_, ?_⟩
  · intro c hc
    obtain ⟨i, f, fl', a, b, e, d⟩ := (I.cs _ _).mp hc
    exact ⟨i, f, fl', a, (List.getElem?_eq_some_iff.mp b).1, e, d⟩
  · intro c j
    by_cases q : j = k
    · rw [if_pos q]
      refine ⟨fun h => (by cases h), fun ⟨i, f, fl, a, b, e, d⟩ => absurd q d.2⟩
    · rw [if_neg q, I.cs]
      exact ⟨fun ⟨i, f, fl, a, b, e, d⟩ => ⟨i, f, fl, a, b, e, d, q⟩, fun ⟨i, f, fl, a, b, e, d⟩ => ⟨i, f, fl, a, b, e, d.1⟩⟩
  · intro i f fl' v a b
    rw [if_neg, I.vn a b]
    intro h
    obtain ⟨i', f', fl'', a', b', e', d'⟩ := (I.cs _ _).mp h
    obtain ⟨rfl, rfl⟩ := cell_inj a a' (List.getElem?_eq_some_iff.mp b).1 (List.getElem?_eq_some_iff.mp b').1 e'
    rw [a] at a'; cases a'
    rw [b] at b'; cases b'
  · intro i f j fl' a b d
    rcases d with d | ⟨d, rfl⟩
    · by_cases q : pl B i + 1 + f ∈ cs k
      · rw [if_pos q]
        obtain ⟨i', f', fl'', a', b', e', d'⟩ := (I.cs _ _).mp q
        obtain ⟨rfl, rfl⟩ := cell_inj a a' (List.getElem?_eq_some_iff.mp b).1 (List.getElem?_eq_some_iff.mp b').1 e'
        rw [a] at a'; cases a'
        rw [b] at b'
        have : j = k := by injection b' with b'; injection b' with _ b'; exact Int.ofNat.inj b'
        subst this; rfl
      · rw [if_neg q]; exact I.vr a b d
    · rw [if_pos ((I.cs _ _).mpr ⟨i, f, fl', a, b, rfl, d⟩)]
  · intro i f j fl' a b d
    rw [if_neg]
    · exact I.vo a b fun q => d (.inl q)
    · intro q
      obtain ⟨i', f', fl'', a', b', e', d'⟩ := (I.cs _ _).mp q
      obtain ⟨rfl, rfl⟩ := cell_inj a a' (List.getElem?_eq_some_iff.mp b).1 (List.getElem?_eq_some_iff.mp b').1 e'
      rw [a] at a'; cases a'
      rw [b] at b'
      have : j = k := by injection b' with b'; injection b' with _ b'; exact Int.ofNat.inj b'
      subst this
      exact d (.inr ⟨d', rfl⟩)
  · intro j fl' a
    rw [if_neg fun h => T.nh k j _ h (List.getElem?_eq_some_iff.mp a).1 rfl]
    exact I.hd a

theorem ST.cell (S : ST B p lo N D R row) {k f : Nat} {fl : List Th} {t : Th} (hlo : lo ≤ k) (hk : B[k]? = some fl) (hf : fl[f]? = some t) (hN : pl B (k + 1) ≤ N) (hD : ∀ j : Nat, t = (true, (j : Int)) → ¬ D k f j) :
    ∃ v, row[pl B k + 1 + f]? = some v ∧ (t.1 = false → v = 2 * t.2) ∧ ∀ j : Nat, t = (true, (j : Int)) → (R k f j → v = 2 * (nw B p j : Int) + 1) ∧ (¬ R k f j → v = 2 * (pl B j : Int) + 1) := by
  obtain ⟨cs, val, T, I⟩ := S
  have hfl := (List.getElem?_eq_some_iff.mp hf).1
  have h1 := pl_succ hk
  have h2 := pl_mono (B := B) hlo
  refine ⟨_, T.vl _ (by first | lia | omega) (by first | lia | omega) (fun j h => ?_) (fun j _ => pl_ne hk hfl), ?_, ?_⟩
  · obtain ⟨i', f', fl'', a', b', e', d'⟩ := (I.cs _ _).mp h
    obtain ⟨rfl, rfl⟩ := cell_inj hk a' hfl (List.getElem?_eq_some_iff.mp b').1 e'
    rw [hk] at a'; cases a'
    rw [hf] at b'; cases b'
    exact hD j rfl d'
  · intro e
    obtain ⟨b, v⟩ := t
    dsimp only at e; subst e
    exact I.vn hk hf
  · rintro j rfl
    exact ⟨I.vr hk hf, I.vo hk hf⟩

theorem ST.hung (S : ST B p lo N D R row) {k f j : Nat} {fl : List Th} (hk : B[k]? = some fl) (hf : fl[f]? = some (true, (j : Int))) (hN : pl B (k + 1) ≤ N) (hlo : lo ≤ j) (hj : j < B.length) (hD : ¬ D k f j) (hR : ¬ R k f j) :
    ∃ w, row[pl B j]? = some w ∧ ST B p lo N (fun i g j => D i g j ∨ (i = k ∧ g = f)) R ((row.set (pl B k + 1 + f) w).set (pl B j) (2 * ((pl B k + 1 + f : Nat) : Int) + 1)) := by
  obtain ⟨cs, val, T, I⟩ := S
  have hfl := (List.getElem?_eq_some_iff.mp hf).1
  have h1 := pl_succ hk
  obtain ⟨w, hw, hc⟩ := T.hd j hlo hj
  have hno : ∀ i, pl B k + 1 + f ∉ cs i := fun j' h => by
    obtain ⟨i', f', fl'', a', b', e', d'⟩ := (I.cs _ _).mp h
    obtain ⟨rfl, rfl⟩ := cell_inj hk a' hfl (List.getElem?_eq_some_iff.mp b').1 e'
    rw [hk] at a'; cases a'
    rw [hf] at b'
    have : j = j' := by injection b' with b'; injection b' with _ b'; exact Int.ofNat.inj b'
    subst this
    exact hD d'
  refine ⟨w, hw, _, _, T.hung hlo hj (by first | lia | omega) hno (fun i _ => pl_ne hk hfl) hw, ?_, I.vn, I.vr, I.vo, I.hd⟩
  intro c j'
  by_cases q : j' = j
  · subst q
    rw [if_pos rfl, List.mem_cons, I.cs]
    constructor
    · rintro (rfl | ⟨i, g, fl', a, b, e, d⟩)
      · exact ⟨k, f, fl, hk, hf, rfl, .inr ⟨rfl, rfl⟩⟩
      · exact ⟨i, g, fl', a, b, e, .inl d⟩
    · rintro ⟨i, g, fl', a, b, e, d | ⟨rfl, rfl⟩⟩
      · exact .inr ⟨i, g, fl', a, b, e, d⟩
      · exact .inl e
  · rw [if_neg q, I.cs]
    constructor
    · rintro ⟨i, g, fl', a, b, e, d⟩; exact ⟨i, g, fl', a, b, e, .inl d⟩
    · rintro ⟨i, g, fl', a, b, e, d | ⟨rfl, rfl⟩⟩
      · exact ⟨i, g, fl', a, b, e, d⟩
      · rw [hk] at a; cases a
        rw [hf] at b
        have : j = j' := by injection b with b; injection b with _ b; exact Int.ofNat.inj b
        exact absurd this.symm q

theorem ST.up (S : ST B p lo N D R row) {row' : List Int} (hl : row'.length = row.length) (hlt : lo < B.length) (h : ∀ c, pl B (lo + 1) ≤ c → row'[c]? = row[c]?) (hD : ∀ i f j, D i f j → lo < i) : ST B p (lo + 1) N D R row' := by
  obtain ⟨cs, val, T, I⟩ := S
  have hs := pl_step B lo
  refine ⟨cs, val, ⟨hl.trans T.len, ?_, ?_, T.nd, T.dj, T.nh⟩, I⟩
  · intro j hj hjn
    obtain ⟨w, hw, hc⟩ := T.hd j (by first | lia | omega) hjn
    refine ⟨w, by rw [h _ (pl_mono hj)]; exact hw, Chain.congr (fun c hc => ?_) hc⟩
    obtain ⟨i, f, fl, a, b, e, d⟩ := (I.cs _ _).mp hc
    refine h c ?_
    have := pl_mono (B := B) (show lo + 1 ≤ i from hD i f j d)
    first | lia | omega
  · intro c hlo hc hn hh
    rw [h c hlo]
    exact T.vl c (by first | lia | omega) hc hn hh

theorem ST.start {xs : List Int} {M : List Nat} (w : WFB B) (s : Shp B xs) (hp : ∀ k, p k = true ↔ k ∈ M) (hM : ∀ k ∈ M, k < B.length) : ST B p 0 xs.length (fun _ _ _ => False) (fun _ _ _ => False) (bump xs (M.map (pl B))) := by
  have hf : ∀ {i f : Nat} {fl : List Th} {t : Th}, B[i]? = some fl → fl[f]? = some t → (bump xs (M.map (pl B))).getD (pl B i + 1 + f) 0 = word (pl B) t := by
    intro i f fl t a b
    rw [List.getD, bump_get, s.fld a b, Option.map_some, if_neg]
    · rfl
    · intro h
      obtain ⟨k, _, e⟩ := List.mem_map.mp h
      exact pl_ne a (List.getElem?_eq_some_iff.mp b).1 e.symm
  have hh : ∀ {j : Nat} {fl : List Th}, B[j]? = some fl → (bump xs (M.map (pl B)))[pl B j]? = some (4 * (fl.length : Int) + if p j then 2 else 0) := by
    intro j fl a
    have hjl := (List.getElem?_eq_some_iff.mp a).1
    rw [bump_get, s.hd a, Option.map_some]
    have : pl B j ∈ M.map (pl B) ↔ p j = true := by
      rw [hp, List.mem_map]
      refine ⟨fun ⟨k, hk, e⟩ => ?_, fun h => ⟨j, h, rfl⟩⟩
      rw [← pl_inj (hM k hk) hjl e]; exact hk
    by_cases q : p j = true
    · rw [if_pos (this.mpr q), if_pos q]
    · rw [if_neg (fun h => q (this.mp h)), if_neg q]; simp
  refine ⟨fun _ => [], fun c => (bump xs (M.map (pl B))).getD c 0, ⟨by rw [bump_length], ?_, ?_, fun _ => List.nodup_nil, fun _ _ _ h => (by cases h), fun _ _ _ h => (by cases h)⟩, ?_, ?_, ?_, ?_, ?_⟩
  · intro j _ hj
    have := hh (List.getElem?_eq_getElem hj)
    exact ⟨_, this, by rw [Chain, List.getD, this]; rfl⟩
  · intro c _ hc _ _
    have : c < (bump xs (M.map (pl B))).length := by rw [bump_length]; exact hc
    simp [List.getD, this]
  · intro c j
    exact ⟨fun h => (by cases h), fun ⟨_, _, _, _, _, _, h⟩ => h.elim⟩
  · intro i f fl v a b
    rw [hf a b]; simp [word]
  · intro i f j fl a b h; exact h.elim
  · intro i f j fl a b _
    rw [hf a b]; simp [word]
  · intro j fl a
    rw [List.getD, hh a]; rfl
end
end Mine
end

section
namespace Mine
section
variable {B : Bx} {p : Nat → Bool} {N k : Nat} {row : List Int} {fl : List Th}

noncomputable def S1 (B : Bx) (p : Nat → Bool) (N h C : Nat) (row : List Int) : Prop := ST B p 0 N (fun i f j => p i = true ∧ pl B i + 1 + f < C ∧ (h ≤ j ∨ j ≤ i)) (fun i f j => p i = true ∧ pl B i + 1 + f < C ∧ i < j ∧ j < h) row
noncomputable def S2 (B : Bx) (p : Nat → Bool) (N lo h : Nat) (row : List Int) : Prop := ST B p lo N (fun i _ j => p i = true ∧ j ≤ i ∧ h ≤ j) (fun i _ j => p i = true ∧ (i < j ∨ j < h)) row

theorem cell_lt {i f k : Nat} {fi : List Th} (h : B[i]? = some fi) (hf : f < fi.length) (hlt : pl B i + 1 + f < pl B k + 1) : i < k := by
  rcases Nat.lt_or_ge i k with q | q
  · exact q
  · have := pl_mono (B := B) q; first | lia | omega
theorem cell_lt' {i f k : Nat} {fi : List Th} (h : B[i]? = some fi) (hf : f < fi.length) (hlt : i < k) : pl B i + 1 + f < pl B k := by
  have a := pl_succ h
  have := pl_mono (B := B) (show i + 1 ≤ k from hlt); first | lia | omega
theorem len_of {f : Nat} {t : Th} {fi : List Th} (h : fi[f]? = some t) : f < fi.length := (List.getElem?_eq_some_iff.mp h).1

theorem S1.start {xs : List Int} {M : List Nat} (w : WFB B) (s : Shp B xs) (hp : ∀ k, p k = true ↔ k ∈ M) (hM : ∀ k ∈ M, k < B.length) : S1 B p xs.length 0 (pl B 0) (bump xs (M.map (pl B))) := by
  refine (ST.start w s hp hM).congr w ?_ ?_
  · intro i f j fi _ _ _; rw [pl_zero]; constructor
    · exact False.elim
    · rintro ⟨_, h, _⟩; first | lia | omega
  · intro i f j fi _ _ _; rw [pl_zero]; constructor
    · exact False.elim
    · rintro ⟨_, h, _⟩; first | lia | omega

theorem S1.head (w : WFB B) (S : S1 B p N k (pl B k) row) (hk : B[k]? = some fl) :
    ∃ (w : Int) (cs : List Nat), row[pl B k]? = some w ∧ Chain row w cs (4 * (fl.length : Int) + if p k then 2 else 0) ∧ cs.Nodup ∧ pl B k ∉ cs ∧
      ((setAll row cs (2 * (nw B p k : Int) + 1)).set (pl B k) (4 * (fl.length : Int) + if p k then 2 else 0))[pl B k]? = some (4 * (fl.length : Int) + if p k then 2 else 0) ∧
      S1 B p N (k + 1) (pl B k + 1) ((setAll row cs (2 * (nw B p k : Int) + 1)).set (pl B k) (4 * (fl.length : Int) + if p k then 2 else 0)) := by
  obtain ⟨wd, cs, h1, h2, h3, h4, _, h5, h6⟩ := ST.head S (Nat.zero_le k) hk (fun i f j ⟨_, _, a⟩ ⟨_, _, b⟩ => by first | lia | omega)
  refine ⟨wd, cs, h1, h2, h3, h4, h5, h6.congr w ?_ ?_⟩
  · intro i f j fi hi hf hj
    have hfl := len_of hf
    constructor
    · rintro ⟨⟨a, b, c⟩, d⟩; exact ⟨a, by first | lia | omega, by first | lia | omega⟩
    · rintro ⟨a, b, c⟩
      have := cell_lt hi hfl b
      have := cell_lt' hi hfl this
      exact ⟨⟨a, by first | lia | omega, by first | lia | omega⟩, by first | lia | omega⟩
  · intro i f j fi hi hf hj
    have hfl := len_of hf
    constructor
    · rintro (⟨a, b, c⟩ | ⟨⟨a, b, c⟩, d⟩)
      · exact ⟨a, by first | lia | omega, by first | lia | omega⟩
      · have := cell_lt hi hfl (show pl B i + 1 + f < pl B k + 1 by first | lia | omega)
        exact ⟨a, by first | lia | omega, by first | lia | omega⟩
    · rintro ⟨a, b, c, d⟩
      have := cell_lt hi hfl b
      have := cell_lt' hi hfl this
      by_cases q : j = k
      · exact .inr ⟨⟨a, by first | lia | omega, by first | lia | omega⟩, q⟩
      · exact .inl ⟨a, by first | lia | omega, by first | lia | omega⟩


theorem S1.field (w : WFB B) {f : Nat} {t : Th} (S : S1 B p N (k + 1) (pl B k + 1 + f) row) (hk : B[k]? = some fl) (hp : p k = true) (hf : fl[f]? = some t) (hN : pl B (k + 1) ≤ N) :
    (t.1 = false ∧ row[pl B k + 1 + f]? = some (2 * t.2) ∧ S1 B p N (k + 1) (pl B k + 1 + (f + 1)) row) ∨
    ∃ (j : Nat) (wh : Int), row[pl B k + 1 + f]? = some (2 * (pl B j : Int) + 1) ∧ row[pl B j]? = some wh ∧ S1 B p N (k + 1) (pl B k + 1 + (f + 1)) ((row.set (pl B k + 1 + f) wh).set (pl B j) (2 * ((pl B k + 1 + f : Nat) : Int) + 1)) := by
  have hfl := len_of hf
  obtain ⟨v, e1, e2, e3⟩ := ST.cell S (Nat.zero_le k) hk hf hN (fun j _ ⟨_, a, _⟩ => by first | lia | omega)
  obtain ⟨b, u⟩ := t
  cases b with
  | false =>
    refine .inl ⟨rfl, by rw [e1, e2 rfl], ?_⟩
    refine ST.congr w S ?_ ?_
    · intro i g j fi hi hg hj
      have hgl := len_of hg
      constructor
      · rintro ⟨a, b, c⟩; exact ⟨a, by first | lia | omega, c⟩
      · rintro ⟨a, b, c⟩
        refine ⟨a, ?_, c⟩
        by_cases q : pl B i + 1 + g = pl B k + 1 + f
        · obtain ⟨rfl, rfl⟩ := cell_inj hi hk hgl hfl q
          rw [hk] at hi; cases hi; rw [hf] at hg; cases hg
        · first | lia | omega
    · intro i g j fi hi hg hj
      have hgl := len_of hg
      constructor
      · rintro ⟨a, b, c⟩; exact ⟨a, by first | lia | omega, c⟩
      · rintro ⟨a, b, c⟩
        refine ⟨a, ?_, c⟩
        by_cases q : pl B i + 1 + g = pl B k + 1 + f
        · obtain ⟨rfl, rfl⟩ := cell_inj hi hk hgl hfl q
          rw [hk] at hi; cases hi; rw [hf] at hg; cases hg
        · first | lia | omega
  | true =>
    obtain ⟨j, rfl, hj⟩ := tgt_of w hk hf
    have hnR : ¬ (p k = true ∧ pl B k + 1 + f < pl B k + 1 + f ∧ k < j ∧ j < k + 1) := fun ⟨_, a, _⟩ => by first | lia | omega
    obtain ⟨wh, g1, g2⟩ := ST.hung S hk hf hN (Nat.zero_le j) hj (fun ⟨_, a, _⟩ => by first | lia | omega) hnR
    refine .inr ⟨j, wh, by rw [e1, (e3 j rfl).2 hnR], g1, g2.congr w ?_ ?_⟩
    · intro i g j' fi hi hg hj'
      have hgl := len_of hg
      constructor
      · rintro (⟨a, b, c⟩ | ⟨rfl, rfl⟩)
        · exact ⟨a, by first | lia | omega, c⟩
        · exact ⟨hp, by first | lia | omega, by first | lia | omega⟩
      · rintro ⟨a, b, c⟩
        by_cases q : pl B i + 1 + g = pl B k + 1 + f
        · obtain ⟨rfl, rfl⟩ := cell_inj hi hk hgl hfl q
          exact .inr ⟨rfl, rfl⟩
        · exact .inl ⟨a, by first | lia | omega, c⟩
    · intro i g j' fi hi hg hj'
      have hgl := len_of hg
      constructor
      · rintro ⟨a, b, c⟩; exact ⟨a, by first | lia | omega, c⟩
      · rintro ⟨a, b, c⟩
        refine ⟨a, ?_, c⟩
        by_cases q : pl B i + 1 + g = pl B k + 1 + f
        · obtain ⟨rfl, rfl⟩ := cell_inj hi hk hgl hfl q
          first | lia | omega
        · first | lia | omega
theorem S1.skip (w : WFB B) (S : S1 B p N (k + 1) (pl B k + 1) row) (hk : B[k]? = some fl) (hp : p k = false) : S1 B p N (k + 1) (pl B (k + 1)) row := by
  have hs := pl_succ hk
  refine ST.congr w S ?_ ?_
  · intro i g j fi hi hg hj
    have hgl := len_of hg
    constructor
    · rintro ⟨a, b, c⟩; exact ⟨a, by first | lia | omega, c⟩
    · rintro ⟨a, b, c⟩
      have h1 := cell_lt (k := k + 1) hi hgl (by first | lia | omega)
      have h2 : i ≠ k := fun e => by subst e; rw [hp] at a; cases a
      have h3 := cell_lt' (k := k) hi hgl (by first | lia | omega)
      exact ⟨a, by first | lia | omega, c⟩
  · intro i g j fi hi hg hj
    have hgl := len_of hg
    constructor
    · rintro ⟨a, b, c⟩; exact ⟨a, by first | lia | omega, c⟩
    · rintro ⟨a, b, c⟩
      have h1 := cell_lt (k := k + 1) hi hgl (by first | lia | omega)
      have h2 : i ≠ k := fun e => by subst e; rw [hp] at a; cases a
      have h3 := cell_lt' (k := k) hi hgl (by first | lia | omega)
      exact ⟨a, by first | lia | omega, c⟩
theorem S1.fin (w : WFB B) (S : S1 B p N B.length (pl B B.length) row) : S2 B p N 0 0 row := by
  refine ST.congr w S ?_ ?_
  · intro i g j fi hi hg hj
    have hgl := len_of hg
    have hil := (List.getElem?_eq_some_iff.mp hi).1
    have h3 := cell_lt' (k := B.length) hi hgl hil
    constructor
    · rintro ⟨a, b, c⟩; exact ⟨a, by first | lia | omega, by first | lia | omega⟩
    · rintro ⟨a, b, c⟩; exact ⟨a, by first | lia | omega, by first | lia | omega⟩
  · intro i g j fi hi hg hj
    have hgl := len_of hg
    have hil := (List.getElem?_eq_some_iff.mp hi).1
    have h3 := cell_lt' (k := B.length) hi hgl hil
    constructor
    · rintro ⟨a, b, c⟩; exact ⟨a, by first | lia | omega⟩
    · rintro ⟨a, b⟩; exact ⟨a, by first | lia | omega, by first | lia | omega⟩

structure P2S (B : Bx) (p : Nat → Bool) (N k : Nat) (row : List Int) : Prop where
  s : S2 B p N k k row
  pre : row.take (nw B p k) = rowOf (nw B p) (kept B p k)
structure P2M (B : Bx) (p : Nat → Bool) (N k : Nat) (fl : List Th) (row : List Int) : Prop where
  s : S2 B p N k (k + 1) row
  pre : row.take (nw B p k) = rowOf (nw B p) (kept B p k)
  flds : p k = true → ∀ {f : Nat} {t : Th}, fl[f]? = some t → row[pl B k + 1 + f]? = some (word (nw B p) t)
theorem S2.len (S : S2 B p N k k row) : row.length = N := by
  obtain ⟨_, _, T, _⟩ := S; exact T.len
theorem take_ext {xs ys : List Int} {n : Nat} (h : ∀ i, i < n → xs[i]? = ys[i]?) : xs.take n = ys.take n := by
  apply List.ext_getElem?; intro i
  rw [List.getElem?_take, List.getElem?_take]
  split
  · rename_i q; exact h i q
  · rfl
theorem P2S.head (w : WFB B) (S : P2S B p N k row) (hk : B[k]? = some fl) (hN : pl B B.length ≤ N) :
    ∃ (w : Int) (cs : List Nat), row[pl B k]? = some w ∧ Chain row w cs (4 * (fl.length : Int) + if p k then 2 else 0) ∧ cs.Nodup ∧ pl B k ∉ cs ∧
      ((setAll row cs (2 * (nw B p k : Int) + 1)).set (pl B k) (4 * (fl.length : Int) + if p k then 2 else 0))[pl B k]? = some (4 * (fl.length : Int) + if p k then 2 else 0) ∧
      P2M B p N k fl ((setAll row cs (2 * (nw B p k : Int) + 1)).set (pl B k) (4 * (fl.length : Int) + if p k then 2 else 0)) := by
  have hkl := (List.getElem?_eq_some_iff.mp hk).1
  obtain ⟨wd, cs, h1, h2, h3, h4, hcs, h5, h6⟩ := ST.head S.s (Nat.le_refl k) hk (fun i f j ⟨_, a, b⟩ ⟨_, c⟩ => by first | lia | omega)
  have S' : S2 B p N k (k + 1) ((setAll row cs (2 * (nw B p k : Int) + 1)).set (pl B k) (4 * (fl.length : Int) + if p k then 2 else 0)) := by
    refine h6.congr w ?_ ?_
    · intro i f j fi hi hf hj
      constructor
      · rintro ⟨⟨a, b, c⟩, d⟩; exact ⟨a, b, by first | lia | omega⟩
      · rintro ⟨a, b, c⟩; exact ⟨⟨a, b, by first | lia | omega⟩, by first | lia | omega⟩
    · intro i f j fi hi hf hj
      constructor
      · rintro (⟨a, b⟩ | ⟨⟨a, b, c⟩, d⟩)
        · exact ⟨a, by first | lia | omega⟩
        · exact ⟨a, by first | lia | omega⟩
      · rintro ⟨a, b⟩
        by_cases q : j = k
        · by_cases q2 : k ≤ i
          · exact .inr ⟨⟨a, by first | lia | omega, by first | lia | omega⟩, q⟩
          · exact .inl ⟨a, by first | lia | omega⟩
        · exact .inl ⟨a, by first | lia | omega⟩
  refine ⟨wd, cs, h1, h2, h3, h4, h5, S', ?_, ?_⟩
  · rw [← S.pre]
    have hnl := nw_le (B := B) p (show k ≤ B.length by first | lia | omega)
    refine take_ext fun i hi => ?_
    rw [List.getElem?_set_ne (by first | lia | omega), setAll_get]
    have : i ∉ cs := by
      intro h
      obtain ⟨i', f, fi, a, b, e, _, d, _⟩ := hcs i h
      have := pl_mono (B := B) d
      first | lia | omega
    simp [this]
  · intro hp f t hf
    have hN' : pl B (k + 1) ≤ N := Nat.le_trans (pl_mono (show k + 1 ≤ B.length by first | lia | omega)) hN
    obtain ⟨v, e1, e2, e3⟩ := ST.cell S' (Nat.le_refl k) hk hf hN' (fun j _ ⟨_, a, b⟩ => by first | lia | omega)
    rw [e1]
    obtain ⟨b, u⟩ := t
    cases b with
    | false => rw [e2 rfl]; simp [word]
    | true =>
      obtain ⟨j, rfl, hj⟩ := tgt_of w hk hf
      rw [(e3 j rfl).1 ⟨hp, by first | lia | omega⟩]; simp [word]
theorem S2.up {lo : Nat} {row' : List Int} (S : S2 B p N lo (lo + 1) row) (hl : row'.length = row.length) (hlt : lo < B.length) (h : ∀ c, pl B (lo + 1) ≤ c → row'[c]? = row[c]?) : S2 B p N (lo + 1) (lo + 1) row' :=
  ST.up S hl hlt h fun i f j ⟨_, a, b⟩ => by first | lia | omega
theorem P2M.skip (S : P2M B p N k fl row) (hk : B[k]? = some fl) (hp : p k = false) : P2S B p N (k + 1) row := by
  have hkl := (List.getElem?_eq_some_iff.mp hk).1
  refine ⟨S.s.up rfl hkl fun _ _ => rfl, ?_⟩
  rw [nw_succ hk, kept, hp]
  simpa using S.pre
structure Mvd (row ys : List Int) (at_ free many : Nat) : Prop where
  len : ys.length = row.length
  head : ys[free]? = some (4 * (many : Int))
  flds : ∀ i, i < many → ys[free + 1 + i]? = row[at_ + 1 + i]?
  rest : ∀ i, i < free ∨ free + 1 + many ≤ i → ys[i]? = row[i]?
theorem P2M.move {ys : List Int} (S : P2M B p N k fl row) (hk : B[k]? = some fl) (hp : p k = true) (M : Mvd row ys (pl B k) (nw B p k) fl.length) : P2S B p N (k + 1) ys := by
  have hkl := (List.getElem?_eq_some_iff.mp hk).1
  have hnl := nw_le (B := B) p (show k ≤ B.length by first | lia | omega)
  have hs := pl_succ hk
  refine ⟨S.s.up M.len hkl fun c hc => M.rest c (.inr (by first | lia | omega)), ?_⟩
  have hlen : (rowOf (nw B p) (kept B p k)).length = nw B p k := kept_len _ _ _ _
  rw [nw_succ hk, hp, kept, hp, getD_of hk, rowOf_append]
  simp only [if_true]
  have hc : rowOf (nw B p) [fl] = cellsOf (nw B p) fl := by simp [rowOf]
  rw [hc]
  apply List.ext_getElem?; intro i
  rw [List.getElem?_take]
  rcases Nat.lt_or_ge i (nw B p k) with q | q
  · rw [if_pos (by first | lia | omega), M.rest i (.inl q), List.getElem?_append_left (by first | lia | omega), ← S.pre, List.getElem?_take, if_pos q]
  · rw [List.getElem?_append_right (by first | lia | omega), hlen]
    obtain ⟨d, rfl⟩ : ∃ d, i = nw B p k + d := ⟨i - nw B p k, by first | lia | omega⟩
    rw [Nat.add_sub_cancel_left]
    by_cases q2 : d < 1 + fl.length
    · rw [if_pos (by first | lia | omega)]
      cases d with
      | zero => rw [Nat.add_zero, M.head]; rfl
      | succ d =>
        rw [show nw B p k + (d + 1) = nw B p k + 1 + d from by first | lia | omega, M.flds d (by first | lia | omega)]
        have hd : fl[d]? = some fl[d] := List.getElem?_eq_getElem (by first | lia | omega)
        rw [S.flds hp hd]
        simp [cellsOf, show d < fl.length by first | lia | omega]
    · rw [if_neg (by first | lia | omega), List.getElem?_eq_none]
      rw [cellsOf_length]; first | lia | omega
theorem P2S.start (S : S2 B p N 0 0 row) : P2S B p N 0 row := ⟨S, by simp [nw, kept, rowOf]⟩
end
end Mine
end

section
namespace Mine
theorem kl_split {p : Nat → Bool} : ∀ {n : Nat} {d rest : List Nat} {x : Nat}, kl p n = d ++ x :: rest → d = kl p x ∧ p x = true ∧ x < n
  | 0, d, rest, x, h => by simp [kl] at h
  | n + 1, d, rest, x, h => by
    rw [kl_succ] at h
    by_cases q : p n = true
    · rw [if_pos q] at h
      rcases List.eq_nil_or_concat rest with rfl | ⟨r, y, rfl⟩
      · have := List.append_inj' h rfl
        obtain ⟨e1, e2⟩ := this
        cases e2
        exact ⟨e1.symm, q, by first | lia | omega⟩
      · rw [List.concat_eq_append, ← List.cons_append, ← List.append_assoc] at h
        obtain ⟨e1, e2⟩ := List.append_inj' h rfl
        obtain ⟨a, b, c⟩ := kl_split e1
        exact ⟨a, b, by first | lia | omega⟩
    · rw [if_neg q, List.append_nil] at h
      obtain ⟨a, b, c⟩ := kl_split h
      exact ⟨a, b, by first | lia | omega⟩
section
variable {B : Bx} {p : Nat → Bool}
theorem kept_eq : ∀ k, kept B p k = (kl p k).map fun i => B.getD i []
  | 0 => by simp [kept, kl]
  | k + 1 => by
    rw [kept, kl_succ, List.map_append, kept_eq k]
    split <;> simp
noncomputable def nidx (p : Nat → Bool) (k : Nat) : Nat := (kl p k).length
theorem nidx_succ (k : Nat) : nidx p (k + 1) = nidx p k + if p k then 1 else 0 := by
  rw [nidx, kl_succ, List.length_append, nidx]
  split <;> simp
theorem nidx_mono {i j : Nat} (h : i ≤ j) : nidx p i ≤ nidx p j := by
  induction h with
  | refl => exact Nat.le_refl _
  | step _ ih => rw [nidx_succ]; first | lia | omega
noncomputable def ren (p : Nat → Bool) (t : Th) : Th := if t.1 = true then (true, (nidx p t.2.toNat : Int)) else t
noncomputable def box2 (B : Bx) (p : Nat → Bool) (k : Nat) : Bx := (kept B p k).map fun f => f.map (ren p)
theorem box2_succ (k : Nat) : box2 B p (k + 1) = box2 B p k ++ if p k then [(B.getD k []).map (ren p)] else [] := by
  rw [box2, kept, List.map_append, box2]
  split <;> simp
theorem box2_length (k : Nat) : (box2 B p k).length = nidx p k := by simp [box2, kept_eq, nidx]
theorem box2_get : ∀ {n k : Nat}, k < n → p k = true → (box2 B p n)[nidx p k]? = some ((B.getD k []).map (ren p))
  | n + 1, k, h, hp => by
    rw [box2_succ]
    by_cases q : k = n
    · subst q
      rw [if_pos hp, ← box2_length (B := B), List.getElem?_append_right (Nat.le_refl _)]; simp
    · have hlt : nidx p k < (box2 B p n).length := by
        rw [box2_length]
        have := nidx_mono (p := p) (show k + 1 ≤ n by first | lia | omega)
        rw [nidx_succ, if_pos hp] at this; first | lia | omega
      rw [List.getElem?_append_left hlt]
      exact box2_get (by first | lia | omega) hp
theorem box2_pl {n : Nat} : ∀ {k}, k ≤ n → pl (box2 B p n) (nidx p k) = nw B p k
  | 0, _ => by simp [nidx, kl, pl, nw]
  | k + 1, h => by
    rw [nidx_succ, nw]
    by_cases q : p k = true
    · rw [if_pos q, if_pos q, pl_succ (box2_get (by first | lia | omega) q), box2_pl (by first | lia | omega)]; simp; first | lia | omega
    · rw [if_neg q, if_neg q, Nat.add_zero, Nat.add_zero, box2_pl (by first | lia | omega)]
theorem nidx_all : ∀ {n i : Nat}, i < nidx p n → ∃ k, k < n ∧ p k = true ∧ i = nidx p k
  | 0, i, h => by simp [nidx, kl] at h
  | n + 1, i, h => by
    rw [nidx_succ] at h
    by_cases q : i < nidx p n
    · obtain ⟨k, a, b, c⟩ := nidx_all q
      exact ⟨k, by first | lia | omega, b, c⟩
    · by_cases q2 : p n = true
      · rw [if_pos q2] at h
        exact ⟨n, by first | lia | omega, q2, by first | lia | omega⟩
      · rw [if_neg q2] at h; first | lia | omega

theorem row2 (w : WFB B) : rowOf (pl (box2 B p B.length)) (box2 B p B.length) = rowOf (nw B p) (kept B p B.length) := by
  unfold rowOf
  rw [show (box2 B p B.length).map (cellsOf (pl (box2 B p B.length))) = (kept B p B.length).map (cellsOf (nw B p)) from ?_]
  conv => lhs; rw [box2]
  rw [List.map_map]
  apply List.map_congr_left
  intro f hf
  rw [kept_eq] at hf
  obtain ⟨k, hk, rfl⟩ := List.mem_map.mp hf
  obtain ⟨hkl, hpk⟩ := kl_mem.mp hk
  have hB : B[k]? = some B[k] := List.getElem?_eq_getElem hkl
  rw [getD_of hB]
  simp only [Function.comp, cellsOf, List.length_map, List.map_map]
  congr 1
  apply List.map_congr_left
  intro t ht
  obtain ⟨b, v⟩ := t
  cases b with
  | false => simp [word, ren]
  | true =>
    obtain ⟨j, e, hj⟩ := w.tgt _ (List.mem_of_getElem? hB) _ ht rfl
    simp only at e; subst e
    have hb := box2_pl (B := B) (p := p) (n := B.length) (show j ≤ B.length by first | lia | omega)
    unfold box2 at hb
    simp [word, ren, hb]
theorem reach2 (hp : ∀ k, p k = true ↔ Reach B k) (w : WFB B) {k : Nat} (h : Reach B k) : Reach (box2 B p B.length) (nidx p k) := by
  induction h with
  | zero => exact (by simp [nidx, kl] : nidx p 0 = 0) ▸ Reach.zero
  | @step k j f hk hf ht ih =>
    have hkl := (List.getElem?_eq_some_iff.mp hf).1
    refine Reach.step ih (box2_get hkl ((hp k).mpr hk)) ?_
    rw [getD_of hf]
    exact List.mem_map.mpr ⟨_, ht, by simp [ren]⟩
theorem wfb2 (hp : ∀ k, p k = true ↔ Reach B k) (w : WFB B) : WFB (box2 B p B.length) := by
  have key : ∀ {j}, Reach B j → nidx p j < nidx p B.length := by
    intro j hr
    have hl := hr.lt w
    have := nidx_mono (p := p) (show j + 1 ≤ B.length by first | lia | omega)
    rw [nidx_succ, if_pos ((hp j).mpr hr)] at this; first | lia | omega
  refine ⟨?_, fun f hf t ht e => ?_⟩
  · rw [box2_length]
    have := key Reach.zero
    first | lia | omega
  · rw [box2_length]
    obtain ⟨f0, hf0, rfl⟩ := List.mem_map.mp hf
    rw [kept_eq] at hf0
    obtain ⟨k, hk, rfl⟩ := List.mem_map.mp hf0
    obtain ⟨hkl, hpk⟩ := kl_mem.mp hk
    have hB : B[k]? = some B[k] := List.getElem?_eq_getElem hkl
    rw [getD_of hB] at ht
    obtain ⟨⟨b, v⟩, hu, rfl⟩ := List.mem_map.mp ht
    cases b with
    | false => simp [ren] at e
    | true =>
      obtain ⟨j, e, hj⟩ := w.tgt _ (List.mem_of_getElem? hB) _ hu rfl
      simp only at e; subst e
      exact ⟨nidx p j, by simp [ren], key (Reach.step ((hp k).mp hpk) hB hu)⟩
theorem all2 (hp : ∀ k, p k = true ↔ Reach B k) (w : WFB B) {i : Nat} (hi : i < (box2 B p B.length).length) : Reach (box2 B p B.length) i := by
  rw [box2_length] at hi
  obtain ⟨k, _, hk, rfl⟩ := nidx_all hi
  exact reach2 hp w ((hp k).mp hk)
theorem nw_all : ∀ {k}, k ≤ B.length → (∀ i, i < B.length → p i = true) → nw B p k = pl B k
  | 0, _, _ => by simp [nw, pl_zero]
  | k + 1, h, hp => by
    have hB : B[k]? = some B[k] := List.getElem?_eq_getElem (by first | lia | omega)
    rw [nw_succ hB, pl_succ hB, nw_all (by first | lia | omega) hp, if_pos (hp k (by first | lia | omega))]; first | lia | omega
theorem kept_all (hp : ∀ i, i < B.length → p i = true) : ∀ {k}, k ≤ B.length → kept B p k = B.take k
  | 0, _ => by simp [kept]
  | k + 1, h => by
    have hB : B[k]? = some B[k] := List.getElem?_eq_getElem (by first | lia | omega)
    rw [kept, kept_all hp (by first | lia | omega), if_pos (hp k (by first | lia | omega)), getD_of hB, List.take_succ, hB]; rfl
theorem row_all (w : WFB B) (hp : ∀ i, i < B.length → p i = true) : rowOf (nw B p) (kept B p B.length) = rowOf (pl B) B := by
  rw [kept_all hp (Nat.le_refl _), List.take_length]
  unfold rowOf
  congr 1
  apply List.map_congr_left
  intro f hf
  unfold cellsOf
  congr 1
  apply List.map_congr_left
  intro t ht
  obtain ⟨b, v⟩ := t
  cases b with
  | false => simp [word]
  | true =>
    obtain ⟨j, e, hj⟩ := w.tgt _ hf _ ht rfl
    simp only at e; subst e
    simp [word, nw_all (B := B) (p := p) (show j ≤ B.length by first | lia | omega) hp]
end
end Mine
end

section
namespace Mine
open PySem PyProof.Rows
theorem S1.len {B : Bx} {p : Nat → Bool} {N h C : Nat} {row : List Int} (S : S1 B p N h C row) : row.length = N := by
  obtain ⟨_, _, T, _⟩ := S; exact T.len
theorem P2M.len {B : Bx} {p : Nat → Bool} {N k : Nat} {fl : List Th} {row : List Int} (S : P2M B p N k fl row) : row.length = N := by
  obtain ⟨_, _, T, _⟩ := S.s; exact T.len
theorem P2S.len {B : Bx} {p : Nat → Bool} {N k : Nat} {row : List Int} (S : P2S B p N k row) : row.length = N := by
  obtain ⟨_, _, T, _⟩ := S.s; exact T.len
theorem hw_even (l : Nat) (b : Bool) : (4 * (l : Int) + if b then 2 else 0) % 2 = 0 := by split <;> (first | lia | omega)
theorem hw_fields (l : Nat) (b : Bool) : (4 * (l : Int) + if b then 2 else 0).fdiv 4 = (l : Int) := by rw [fdiv4]; split <;> (first | lia | omega)
theorem hw_marked (l : Nat) (b : Bool) : (((4 * (l : Int) + if b then 2 else 0).fdiv 2).fmod 2 == 1) = b := by
  rw [fdiv2, fmod2]
  cases b
  · simp; first | with_reducible exact Int.natCast_nonneg _ | with_reducible assumption | lia | omega
  · simp; first | with_reducible exact Int.natCast_nonneg _ | with_reducible assumption | lia | omega
section
variable {cx : Cx} {H H' : HP} {n : Nat} {a r row : Addr} {o : O} {Q : V → HP → Prop} {xs : List Int} {k h : Nat} {w wk wh p e : Int} {cs : List Nat}
noncomputable def m_hung : MSs :=
  (.cons (.assign 2 (.callb .list (.cons (.loc 0) .nil)))
  (.cons (.assign 3 (.callf 122 (.cons (.sub (.loc 0) (.loc 1)) .nil)))
  (.cons (.setSub (.loc 2) (.loc 1) (.sub (.loc 0) (.loc 3)))
  (.cons (.setSub (.loc 2) (.loc 3) (.callf 101 (.cons (.loc 1) .nil)))
  (.cons (.ret (.loc 2))
  .nil)))))
noncomputable def m_led : MSs :=
  (.cons (.assign 3 (.callb .list (.cons (.loc 0) .nil)))
  (.cons (.assign 4 (.sub (.loc 3) (.loc 1)))
  (.cons (.while_ (.callf 115 (.cons (.loc 4) .nil)) (.cons (.assign 5 (.callf 122 (.cons (.loc 4) .nil)))
    (.cons (.assign 4 (.sub (.loc 3) (.loc 5)))
    (.cons (.setSub (.loc 3) (.loc 5) (.callf 101 (.cons (.loc 2) .nil)))
    .nil))))
  (.cons (.setSub (.loc 3) (.loc 1) (.loc 4))
  (.cons (.ret (.loc 3))
  .nil)))))
noncomputable def m_moved : MSs :=
  (.cons (.assign 4 (.callb .list (.cons (.loc 0) .nil)))
  (.cons (.setSub (.loc 4) (.loc 2) (.callf 108 (.cons (.loc 3) (.cons (.cbool false) .nil))))
  (.cons (.forR 5 (.cint (1)) (.bin .Add (.loc 3) (.cint (1))) (.cons (.setSub (.loc 4) (.bin .Add (.loc 2) (.loc 5)) (.sub (.loc 0) (.bin .Add (.loc 1) (.loc 5))))
    .nil))
  (.cons (.ret (.loc 4))
  .nil))))
theorem hung_ms (ht : Fn1 cx n 122 fun w => .int (w.fdiv 2)) (hl : Fn1 cx n 101 fun p => .int (2 * p + 1))
    (hrow : lk cx H row = some (.list (intsV xs))) (hlen : xs.length ≤ 1000) (hk : xs[k]? = some wk) (hwk : wk.fdiv 2 = h) (hh : xs[h]? = some wh)
    (hQ : ∀ r H', Ext cx H H' → H' r = some (.list (intsV ((xs.set k wh).set h (2 * (k : Int) + 1)))) → Q (.ref r) H') :
    mwpSs cx n m_hung [.ref row, .int k, .unb, .unb] H (NQ Q) (RQ Q) := by
  refine S_cons ?_
  walk_at "st"
  refine W_listI hrow hlen (new_abs fun r H1 x1 hr e1 => S_cons ?_)
  walk_at "st"
  refine W_subI (x1.lk hrow) hlen hk (ht _ _ _ ?_)
  walk_at "st"
  rw [hwk]
  refine S_cons ?_
  walk_at "st"
  refine W_subI (x1.lk hrow) hlen hh ?_
  refine W_setI e1 hlen (List.getElem?_eq_some_iff.mp hk).1 (S_cons ?_)
  walk_at "st"
  refine hl _ _ _ ?_
  walk_at "st"
  refine W_setI (upd_same _ _ _) (by rw [List.length_set]; exact hlen) (by rw [List.length_set]; exact (List.getElem?_eq_some_iff.mp hh).1) (S_cons ?_)
  walk_at "st"
  rw [upd_upd]
  exact RQ.here (hQ r _ (x1.upd hr.1 hr.2.2 _) (upd_same _ _ _))
noncomputable def HungSp (cx : Cx) (n : Nat) : Prop := ∀ (row : Addr) (xs : List Int) (k h : Nat) (wk wh : Int) (H : HP) (Q : V → HP → Prop), lk cx H row = some (.list (intsV xs)) → xs.length ≤ 1000 → xs[k]? = some wk → wk.fdiv 2 = (h : Int) → xs[h]? = some wh →
  (∀ r H', Ext cx H H' → H' r = some (.list (intsV ((xs.set k wh).set h (2 * (k : Int) + 1)))) → Q (.ref r) H') → CallP cx n 143 [.ref row, .int k] H Q
noncomputable abbrev LedI (cx : Cx) (H : HP) (row r : Addr) (xs : List Int) (h : Nat) (p e : Int) (cs : List Nat) (k : Nat) (μ : List V) (H' : HP) : Prop :=
  ∃ (z : V) (ys : List Int) (w' : Int) (cs' : List Nat), μ = [.ref row, .int h, .int p, .ref r, .int w', z] ∧ Ext cx H H' ∧ H' r = some (.list (intsV ys)) ∧ ys.length = xs.length ∧ cs'.length = k ∧ Chain ys w' cs' e ∧ cs'.Nodup ∧ setAll ys cs' (2 * p + 1) = setAll xs cs (2 * p + 1)
theorem led_ms (h1 : Fn1 cx n 115 fun w => .bool (w.fmod 2 == 1)) (h2 : Fn1 cx n 122 fun w => .int (w.fdiv 2)) (h3 : Fn1 cx n 101 fun p => .int (2 * p + 1))
    (hrow : lk cx H row = some (.list (intsV xs))) (hlen : xs.length ≤ 1000) (hh : xs[h]? = some w) (hc : Chain xs w cs e) (hnd : cs.Nodup) (he : e % 2 = 0)
    (hQ : ∀ r H', Ext cx H H' → H' r = some (.list (intsV ((setAll xs cs (2 * p + 1)).set h e))) → Q (.ref r) H') :
    mwpSs cx n m_led [.ref row, .int h, .int p, .unb, .unb, .unb] H (NQ Q) (RQ Q) := by
  have hhl : h < xs.length := (List.getElem?_eq_some_iff.mp hh).1
  refine S_cons ?_
  walk_at "st"
  refine W_listI hrow hlen (new_abs fun r H1 x1 hr e1 => S_cons ?_)
  walk_at "st"
  refine W_subI (lk_of e1) hlen hh (S_cons ?_)
  rw [s_while]
  refine ⟨LedI cx H row r xs h p e cs, ⟨_, _, xs, w, cs, rfl, x1, e1, rfl, rfl, hc, hnd, rfl⟩, ?_⟩
  rintro k μ H' ⟨z, ys, w', cs', rfl, x2, e2, hyl, rfl, hch, hnd', heq⟩
  walk_at "st"
  refine h1 _ _ _ ?_
  walk_at "st"
  rw [fmod2]
  cases cs' with
  | nil =>
    have hw : w' = e := hch
    subst hw
    rw [he]
    refine S_cons ?_
    walk_at "st"
    refine W_setI e2 (by first | with_reducible exact Int.natCast_nonneg _ | with_reducible assumption | lia | omega) (by first | with_reducible exact Int.natCast_nonneg _ | with_reducible assumption | lia | omega) (S_cons ?_)
    walk_at "st"
    rw [setAll_nil] at heq
    exact RQ.here (hQ r _ (x2.upd hr.1 hr.2.2 _) (by rw [upd_same, heq]))
  | cons c cs' =>
    obtain ⟨hw, w2, hw2, hch2⟩ := hch
    have hcl : c < ys.length := (List.getElem?_eq_some_iff.mp hw2).1
    rw [show w' % 2 = 1 from by first | with_reducible exact Int.natCast_nonneg _ | with_reducible assumption | lia | omega]
    refine S_cons ?_
    walk_at "st"
    refine h2 _ _ _ ?_
    have e3 : w'.fdiv 2 = (c : Int) := by rw [fdiv2]; first | with_reducible exact Int.natCast_nonneg _ | with_reducible assumption | lia | omega
    dsimp only
    rw [e3]
    refine S_cons ?_
    walk_at "st"
    refine W_subI (lk_of e2) (by first | with_reducible exact Int.natCast_nonneg _ | with_reducible assumption | lia | omega) hw2 (S_cons ?_)
    walk_at "st"
    refine h3 _ _ _ ?_
    walk_at "st"
    refine W_setI e2 (by first | with_reducible exact Int.natCast_nonneg _ | with_reducible assumption | lia | omega) hcl (S_nil ⟨_, LE.refl _, cs'.length, by simp, _, ys.set c (2 * p + 1), w2, cs', rfl, x2.upd hr.1 hr.2.2 _, upd_same _ _ _, by simp [hyl], rfl, Chain.set (List.nodup_cons.mp hnd').1 hch2, (List.nodup_cons.mp hnd').2, ?_⟩)
    rw [setAll_cons]; exact heq
noncomputable def LedSpec (cx : Cx) (n : Nat) : Prop := ∀ (row : Addr) (xs : List Int) (h : Nat) (p w e : Int) (cs : List Nat) (H : HP) (Q : V → HP → Prop), lk cx H row = some (.list (intsV xs)) → xs.length ≤ 1000 → xs[h]? = some w → Chain xs w cs e → cs.Nodup → e % 2 = 0 →
    (∀ r H', Ext cx H H' → H' r = some (.list (intsV ((setAll xs cs (2 * p + 1)).set h e))) → Q (.ref r) H') → CallP cx n 150 [.ref row, .int h, .int p] H Q
noncomputable abbrev MvI (cx : Cx) (H : HP) (row r : Addr) (xs : List Int) (at_ free many : Nat) (done μ : List V) (H' : HP) : Prop :=
  ∃ (ys : List Int) (z : V), μ = [.ref row, .int at_, .int free, .int many, .ref r, z] ∧ Ext cx H H' ∧ H' r = some (.list (intsV ys)) ∧ ys.length = xs.length ∧ ys[free]? = some (4 * (many : Int)) ∧ (∀ i, i < done.length → ys[free + 1 + i]? = xs[at_ + 1 + i]?) ∧ (∀ i, i < free ∨ free + 1 + done.length ≤ i → ys[i]? = xs[i]?)
theorem moved_ms {at_ free many : Nat} (h1 : HeadSp cx n)
    (hrow : lk cx H row = some (.list (intsV xs))) (hlen : xs.length ≤ 1000) (ha : at_ + many < xs.length) (hf : free + many < xs.length)
    (hQ : ∀ (r : Addr) (ys : List Int) H', Ext cx H H' → H' r = some (.list (intsV ys)) → Mvd xs ys at_ free many → Q (.ref r) H') :
    mwpSs cx n m_moved [.ref row, .int at_, .int free, .int many, .unb, .unb] H (NQ Q) (RQ Q) := by
  refine S_cons ?_
  walk_at "st"
  refine W_listI hrow hlen (new_abs fun r H1 x1 hr e1 => S_cons ?_)
  walk_at "st"
  refine h1 _ _ _ ?_
  refine W_setI e1 hlen (by first | with_reducible exact Int.natCast_nonneg _ | with_reducible assumption | lia | omega) (S_cons ?_)
  walk_at "st"
  refine ⟨by decide, by first | with_reducible exact Int.natCast_nonneg _ | with_reducible assumption | lia | omega, MvI cx H row r xs at_ free many, ?_, fun _ _ _ _ => trivial, ?_, ?_⟩
  · refine ⟨_, _, rfl, x1.upd hr.1 hr.2.2 _, upd_same _ _ _, by simp, ?_, fun i hi => absurd hi (by simp), fun i hi => ?_⟩
    · rw [List.getElem?_set_self (by first | with_reducible exact Int.natCast_nonneg _ | with_reducible assumption | lia | omega)]
    · rw [List.getElem?_set_ne (by simp at hi; first | with_reducible exact Int.natCast_nonneg _ | with_reducible assumption | lia | omega)]
  · rintro done x rest μ H' hitems ⟨ys, z, rfl, x2, e2, hyl, hy1, hy2, hy3⟩
    have hx : (intsV (rangeL 1 ((many : Int) + 1)))[done.length]? = some x := by rw [hitems]; simp
    obtain ⟨rfl, hlt⟩ := rangeL_get hx
    have hd : done.length < many := by first | with_reducible exact Int.natCast_nonneg _ | with_reducible assumption | lia | omega
    have hv : xs[at_ + 1 + done.length]? = some xs[at_ + 1 + done.length] := List.getElem?_eq_getElem (by first | with_reducible exact Int.natCast_nonneg _ | with_reducible assumption | lia | omega)
    refine S_cons ?_
    walk_at "st"
    rw [show (at_ : Int) + (1 + (done.length : Int)) = ((at_ + 1 + done.length : Nat) : Int) from by first | with_reducible exact Int.natCast_nonneg _ | with_reducible assumption | lia | omega, show (free : Int) + (1 + (done.length : Int)) = ((free + 1 + done.length : Nat) : Int) from by first | with_reducible exact Int.natCast_nonneg _ | with_reducible assumption | lia | omega]
    refine W_subI (x2.lk hrow) hlen hv (W_setI e2 (by first | with_reducible exact Int.natCast_nonneg _ | with_reducible assumption | lia | omega) (by first | with_reducible exact Int.natCast_nonneg _ | with_reducible assumption | lia | omega) (S_nil ⟨_, LE.refl _, _, _, rfl, x2.upd hr.1 hr.2.2 _, upd_same _ _ _, by rw [List.length_set]; exact hyl, ?_, fun i hi => ?_, fun i hi => ?_⟩))
    · rw [List.getElem?_set_ne (by first | with_reducible exact Int.natCast_nonneg _ | with_reducible assumption | lia | omega)]; exact hy1
    · rw [List.length_append, List.length_singleton] at hi
      by_cases q : i = done.length
      · subst q; rw [List.getElem?_set_self (by first | with_reducible exact Int.natCast_nonneg _ | with_reducible assumption | lia | omega), hv]
      · rw [List.getElem?_set_ne (by first | with_reducible exact Int.natCast_nonneg _ | with_reducible assumption | lia | omega)]; exact hy2 i (by first | with_reducible exact Int.natCast_nonneg _ | with_reducible assumption | lia | omega)
    · rw [List.length_append, List.length_singleton] at hi
      rw [List.getElem?_set_ne (by first | with_reducible exact Int.natCast_nonneg _ | with_reducible assumption | lia | omega)]; exact hy3 i (by first | with_reducible exact Int.natCast_nonneg _ | with_reducible assumption | lia | omega)
  · rintro μ H' ⟨ys, z, rfl, x2, e2, hyl, hy1, hy2, hy3⟩
    rw [rangeL_len, show ((many : Int) + 1 - 1).toNat = many by first | with_reducible exact Int.natCast_nonneg _ | with_reducible assumption | lia | omega] at hy2 hy3
    refine S_cons ?_
    walk_at "st"
    exact RQ.here (hQ r ys H' x2 e2 ⟨hyl, hy1, hy2, hy3⟩)
noncomputable def MovedSpec (cx : Cx) (n : Nat) : Prop := ∀ (row : Addr) (xs : List Int) (at_ free many : Nat) (H : HP) (Q : V → HP → Prop), lk cx H row = some (.list (intsV xs)) → xs.length ≤ 1000 → at_ + many < xs.length → free + many < xs.length →
  (∀ (r : Addr) (ys : List Int) H', Ext cx H H' → H' r = some (.list (intsV ys)) → Mvd xs ys at_ free many → Q (.ref r) H') → CallP cx n 185 [.ref row, .int at_, .int free, .int many] H Q
end
end Mine
end

section
namespace Mine
open PySem PyProof.Rows
section
variable {cx : Cx} {H H' : HP} {n : Nat} {a r row : Addr} {o : O} {Q : V → HP → Prop} {xs zs ys : List Int} {k N : Nat} {B : Bx} {p : Nat → Bool}
noncomputable def m_threaded : MSs :=
  (.cons (.assign 2 (.cint (0)))
  (.cons (.assign 3 (.cint (0)))
  (.cons (.while_ (.cmp (.loc 2) .Lt (.loc 1)) (.cons (.assign 0 (.callf 150 (.cons (.loc 0) (.cons (.loc 2) (.cons (.loc 3) .nil)))))
    (.cons (.assign 4 (.callf 129 (.cons (.sub (.loc 0) (.loc 2)) .nil)))
    (.cons (.ite (.callf 136 (.cons (.sub (.loc 0) (.loc 2)) .nil)) (.cons (.forR 5 (.bin .Add (.loc 2) (.cint (1))) (.bin .Add (.bin .Add (.loc 2) (.cint (1))) (.loc 4)) (.cons (.ite (.callf 115 (.cons (.sub (.loc 0) (.loc 5)) .nil)) (.cons (.assign 0 (.callf 143 (.cons (.loc 0) (.cons (.loc 5) .nil))))
          .nil) .nil)
        .nil))
      (.cons (.assign 3 (.bin .Add (.bin .Add (.loc 3) (.cint (1))) (.loc 4)))
      .nil)) .nil)
    (.cons (.assign 2 (.bin .Add (.bin .Add (.loc 2) (.cint (1))) (.loc 4)))
    .nil)))))
  (.cons (.ret (.loc 0))
  .nil))))
noncomputable def m_pushed : MSs :=
  (.cons (.assign 0 (.callf 178 (.cons (.callf 171 (.cons (.loc 0) (.cons (.loc 1) .nil))) (.cons (.loc 1) .nil))))
  (.cons (.assign 2 (.cint (0)))
  (.cons (.assign 3 (.cint (0)))
  (.cons (.while_ (.cmp (.loc 2) .Lt (.loc 1)) (.cons (.assign 0 (.callf 150 (.cons (.loc 0) (.cons (.loc 2) (.cons (.loc 3) .nil)))))
    (.cons (.assign 4 (.callf 129 (.cons (.sub (.loc 0) (.loc 2)) .nil)))
    (.cons (.ite (.callf 136 (.cons (.sub (.loc 0) (.loc 2)) .nil)) (.cons (.assign 0 (.callf 185 (.cons (.loc 0) (.cons (.loc 2) (.cons (.loc 3) (.cons (.loc 4) .nil))))))
      (.cons (.assign 3 (.bin .Add (.bin .Add (.loc 3) (.cint (1))) (.loc 4)))
      .nil)) .nil)
    (.cons (.assign 2 (.bin .Add (.bin .Add (.loc 2) (.cint (1))) (.loc 4)))
    .nil)))))
  (.cons (.ret (.tup (.cons (.bin .Add (.slice (.loc 0) .cnone (.loc 3)) (.bin .Mult (.list (.cons (.cint (0)) .nil)) (.bin .Sub (.callb .len (.cons (.loc 0) .nil)) (.loc 3)))) (.cons (.loc 3) .nil))))
  .nil)))))
theorem pl_done (hm : k ≤ B.length) (h : ¬ (pl B k : Int) < (pl B B.length : Int)) : k = B.length := by
  rcases Nat.lt_or_ge k B.length with q | q
  · have := pl_lt q q; first | with_reducible exact Int.natCast_nonneg _ | with_reducible assumption | lia | omega
  · first | lia | omega
theorem pl_more (h : (pl B k : Int) < (pl B B.length : Int)) : k < B.length := by
  rcases Nat.lt_or_ge k B.length with q | q
  · exact q
  · have := pl_mono (B := B) q; first | with_reducible exact Int.natCast_nonneg _ | with_reducible assumption | lia | omega
noncomputable abbrev ThI (cx : Cx) (H : HP) (B : Bx) (p : Nat → Bool) (N m : Nat) (μ : List V) (H' : HP) : Prop :=
  ∃ (k : Nat) (ra : Addr) (ys : List Int) (z4 z5 : V), k + m = B.length ∧ μ = [.ref ra, .int (pl B B.length), .int (pl B k), .int (nw B p k), z4, z5] ∧ Ext cx H H' ∧ lk cx H' ra = some (.list (intsV ys)) ∧ S1 B p N k (pl B k) ys
noncomputable abbrev ThJ (cx : Cx) (H : HP) (B : Bx) (p : Nat → Bool) (N k : Nat) (fl : List Th) (done μ : List V) (H' : HP) : Prop :=
  ∃ (ra : Addr) (ys : List Int) (z5 : V), μ = [.ref ra, .int (pl B B.length), .int (pl B k), .int (nw B p k), .int fl.length, z5] ∧ Ext cx H H' ∧ lk cx H' ra = some (.list (intsV ys)) ∧ S1 B p N (k + 1) (pl B k + 1 + done.length) ys
theorem threaded_ms (hl : LedSpec cx n) (h2 : Fn1 cx n 129 fun w => .int (w.fdiv 4)) (h4 : Fn1 cx n 136 fun w => .bool ((w.fdiv 2).fmod 2 == 1)) (h3 : Fn1 cx n 115 fun w => .bool (w.fmod 2 == 1)) (hh : HungSp cx n)
    (hrow : lk cx H row = some (.list (intsV zs))) (w : WFB B) (hN : N ≤ 1000) (hp : pl B B.length ≤ N) (hS : S1 B p N 0 (pl B 0) zs)
    (hQ : ∀ (r : Addr) (H' : HP) (ys : List Int), Ext cx H H' → lk cx H' r = some (.list (intsV ys)) → S2 B p N 0 0 ys → Q (.ref r) H') :
    mwpSs cx n m_threaded [.ref row, .int (pl B B.length), .unb, .unb, .unb, .unb] H (NQ Q) (RQ Q) := by
  refine S_cons ?_
  walk_at "st"
  refine S_cons ?_
  walk_at "st"
  refine S_cons ?_
  rw [s_while]
  refine ⟨ThI cx H B p N, ⟨B.length, 0, row, zs, _, _, by first | with_reducible exact Int.natCast_nonneg _ | with_reducible assumption | lia | omega, by rw [pl_zero]; rfl, Ext.refl _ _, hrow, hS⟩, ?_⟩
  rintro m μ H1 ⟨k, ra, ys, z4, z5, hm, rfl, hE, hra, S⟩
  walk_at "st"
  refine ifB_of (fun q => S_cons ?_) fun q => S_cons ?_
  · have hkl := pl_more (decide_eq_true_iff.mp q)
    have hk : B[k]? = some B[k] := List.getElem?_eq_getElem hkl
    generalize B[k] = fl at hk
    have hps := pl_succ hk
    have hpm := pl_mono (B := B) (show k + 1 ≤ B.length from hkl)
    have hnw := nw_succ (p := p) hk
    obtain ⟨wd, cs, g1, g2, g3, g4, g5, g6⟩ := S.head w hk
    have hyl := S.len
    walk_at "st"
    refine hl _ ys (pl B k) (nw B p k) wd _ cs _ _ hra (by first | with_reducible exact Int.natCast_nonneg _ | with_reducible assumption | lia | omega) g1 g2 g3 (hw_even _ _) fun r1 H2 x1 e1 => S_cons ?_
    replace x1 := hE.trans x1
    generalize (setAll ys cs (2 * (nw B p k : Int) + 1)).set (pl B k) (4 * (fl.length : Int) + if p k then 2 else 0) = ys1 at g5 g6 e1
    have hz1 := g6.len
    have l1 : ys1.length ≤ 1000 := by first | with_reducible exact Int.natCast_nonneg _ | with_reducible assumption | lia | omega
    clear hra hE S g1 g2 g3 g4 hyl
    have fin : ∀ (f : Nat) (ra : Addr) (ys : List Int) (z5 : V) (H' : HP), f = nw B p (k + 1) → Ext cx H H' → lk cx H' ra = some (.list (intsV ys)) → S1 B p N (k + 1) (pl B (k + 1)) ys →
        mwpSs cx n (.cons (.assign 2 (.bin .Add (.bin .Add (.loc 2) (.cint (1))) (.loc 4))) .nil) [.ref ra, .int (pl B B.length), .int (pl B k), .int f, .int fl.length, z5] H' (fun μ' H' => ∃ H₃, LE H₃ H' ∧ ∃ m', m' < m ∧ ThI cx H B p N m' μ' H₃) (RQ Q) := by
      intro f ra ys z5 H' hf hE hra S
      refine S_cons ?_
      walk_at "st"
      refine S_nil ⟨H', LE.refl _, B.length - (k + 1), by first | with_reducible exact Int.natCast_nonneg _ | with_reducible assumption | lia | omega, k + 1, ra, ys, .int fl.length, z5, by first | with_reducible exact Int.natCast_nonneg _ | with_reducible assumption | lia | omega, ?_, hE, hra, S⟩
      rw [hps, hf, show (pl B k : Int) + 1 + (fl.length : Int) = ((pl B k + 1 + fl.length : Nat) : Int) from by first | with_reducible exact Int.natCast_nonneg _ | with_reducible assumption | lia | omega]
    walk_at "st"
    refine W_subI (lk_of e1) l1 g5 (h2 _ _ _ ?_)
    dsimp only
    rw [hw_fields]
    refine S_cons ?_
    walk_at "st"
    refine W_subI (lk_of e1) l1 g5 (h4 _ _ _ ?_)
    dsimp only
    rw [hw_marked]
    walk_at "st"
    cases hpk : p k with
    | false =>
      refine ifB_f' rfl (S_nil (fin _ r1 ys1 z5 H2 ?_ x1 (lk_of e1) (g6.skip w hk hpk)))
      rw [hnw, hpk]; rfl
    | true =>
      refine ifB_t' rfl (S_cons ?_)
      walk_at "st"
      refine ⟨by first | with_reducible exact Int.natCast_nonneg _ | with_reducible assumption | lia | omega, by first | with_reducible exact Int.natCast_nonneg _ | with_reducible assumption | lia | omega, ThJ cx H B p N k fl, ⟨r1, ys1, _, rfl, x1, lk_of e1, g6⟩, fun _ _ _ _ => trivial, ?_, ?_⟩
      · rintro done x rest μ H' hitems ⟨ra, ys, z5, rfl, hE, hra, S⟩
        have hx : (intsV (rangeL ((pl B k : Int) + 1) ((pl B k : Int) + 1 + (fl.length : Int))))[done.length]? = some x := by rw [hitems]; simp
        obtain ⟨rfl, hlt⟩ := rangeL_get hx
        have hd : done.length < fl.length := by first | with_reducible exact Int.natCast_nonneg _ | with_reducible assumption | lia | omega
        have ht : fl[done.length]? = some fl[done.length] := List.getElem?_eq_getElem hd
        generalize fl[done.length] = t at ht
        have hyl := S.len
        rw [show (pl B k : Int) + 1 + (done.length : Int) = ((pl B k + 1 + done.length : Nat) : Int) from by first | with_reducible exact Int.natCast_nonneg _ | with_reducible assumption | lia | omega]
        refine S_cons ?_
        walk_at "st"
        rcases S.field w hk hpk ht (by first | with_reducible exact Int.natCast_nonneg _ | with_reducible assumption | lia | omega) with ⟨t1, t2, t3⟩ | ⟨j, wh, t1, t2, t3⟩
        · refine W_subI hra (by first | with_reducible exact Int.natCast_nonneg _ | with_reducible assumption | lia | omega) t2 (h3 _ _ _ ?_)
          walk_at "st"
          refine ifB_f' (by rw [fmod2, beq_eq_false_iff_ne]; first | with_reducible exact Int.natCast_nonneg _ | with_reducible assumption | lia | omega) (S_nil (S_nil ⟨_, LE.refl _, ra, ys, _, rfl, hE, hra, ?_⟩))
          rw [List.length_append, List.length_singleton]; exact t3
        · refine W_subI hra (by first | with_reducible exact Int.natCast_nonneg _ | with_reducible assumption | lia | omega) t1 (h3 _ _ _ ?_)
          walk_at "st"
          refine ifB_t' (by rw [fmod2, beq_iff_eq]; first | with_reducible exact Int.natCast_nonneg _ | with_reducible assumption | lia | omega) (S_cons ?_)
          walk_at "st"
          refine hh _ ys _ (pl B j) _ wh _ _ hra (by first | with_reducible exact Int.natCast_nonneg _ | with_reducible assumption | lia | omega) t1 (by rw [fdiv2]; first | with_reducible exact Int.natCast_nonneg _ | with_reducible assumption | lia | omega) t2 fun r3 H3 x3 e3 => ?_
          refine S_nil (S_nil ⟨_, LE.refl _, r3, _, _, rfl, hE.trans x3, lk_of e3, ?_⟩)
          rw [List.length_append, List.length_singleton]; exact t3
      · rintro μ H' ⟨ra, ys, z5, rfl, hE, hra, S⟩
        rw [rangeL_len, show ((pl B k : Int) + 1 + (fl.length : Int) - ((pl B k : Int) + 1)).toNat = fl.length by first | with_reducible exact Int.natCast_nonneg _ | with_reducible assumption | lia | omega, ← hps] at S
        refine S_cons ?_
        walk_at "st"
        rw [show (nw B p k : Int) + 1 + (fl.length : Int) = ((nw B p k + 1 + fl.length : Nat) : Int) from by first | with_reducible exact Int.natCast_nonneg _ | with_reducible assumption | lia | omega]
        refine S_nil (fin _ ra ys z5 H' ?_ hE hra S)
        rw [hnw, if_pos hpk]; first | with_reducible exact Int.natCast_nonneg _ | with_reducible assumption | lia | omega
  · have hke := pl_done (by first | with_reducible exact Int.natCast_nonneg _ | with_reducible assumption | lia | omega) (decide_eq_false_iff_not.mp q)
    subst hke
    walk_at "st"
    exact RQ.here (hQ ra H1 ys hE hra (S.fin w))
noncomputable def ThreadSpec (cx : Cx) (n : Nat) : Prop := ∀ (row : Addr) (B : Bx) (p : Nat → Bool) (N : Nat) (zs : List Int) (H : HP) (Q : V → HP → Prop), lk cx H row = some (.list (intsV zs)) → WFB B → N ≤ 1000 → pl B B.length ≤ N → S1 B p N 0 (pl B 0) zs →
  (∀ (r : Addr) (H' : HP) (ys : List Int), Ext cx H H' → lk cx H' r = some (.list (intsV ys)) → S2 B p N 0 0 ys → Q (.ref r) H') → CallP cx n 178 [.ref row, .int (pl B B.length)] H Q

noncomputable abbrev PuI (cx : Cx) (H : HP) (B : Bx) (p : Nat → Bool) (N m : Nat) (μ : List V) (H' : HP) : Prop :=
  ∃ (k : Nat) (ra : Addr) (ys : List Int) (z4 : V), k + m = B.length ∧ μ = [.ref ra, .int (pl B B.length), .int (pl B k), .int (nw B p k), z4] ∧ Ext cx H H' ∧ lk cx H' ra = some (.list (intsV ys)) ∧ P2S B p N k ys
theorem push_end {z1 z2 z4 : V} {ra : Addr} {H1 : HP} {u : Nat} (hra : lk cx H1 ra = some (.list (intsV ys))) (hE : Ext cx H H1) (hl : ys.length = N) (hN : N ≤ 1000) (hu : u ≤ N)
    (hQ : ∀ (t r : Addr) (H' : HP), Ext cx H H' → Fresh cx H r → H' r = some (.list (intsV (ys.take u ++ List.replicate (N - u) 0))) → H' t = some (.tup [.ref r, .int u]) → Q (.ref t) H') :
    mwpE cx n (.tup (.cons (.bin .Add (.slice (.loc 0) .cnone (.loc 3)) (.bin .Mult (.list (.cons (.cint (0)) .nil)) (.bin .Sub (.callb .len (.cons (.loc 0) .nil)) (.loc 3)))) (.cons (.loc 3) .nil))) [.ref ra, z1, z2, .int u, z4] H1 (RQ Q) := by
  have hyl : (intsV ys).length = N := by rw [ints_length]; exact hl
  rw [e_tup, es_cons, e_bin, e_slice, e_loc]
  dsimp only [getL, l_r]
  rw [e_cnone, e_loc]
  dsimp only [getL, l_i]
  refine W_slice hra (show cutLo _ .none = some 0 from rfl) (cutHi_nn (Int.natCast_nonneg _)) (by first | with_reducible exact Int.natCast_nonneg _ | with_reducible assumption | lia | omega) ?_
  rw [cut_ints, List.drop_zero, Int.toNat_natCast, hyl, Nat.min_eq_left hu]
  refine new_abs fun r1 H2 x2 f2 e2 => ?_
  rw [e_bin, e_list, es_cons, e_cint, es_nil]
  refine ⟨show 1 ≤ 16777216 by decide, new_abs fun r2 H3 x3 f3 e3 => ?_⟩
  rw [e_bin, e_callb, es_cons, e_loc]
  dsimp only [getL, l_r]
  rw [es_nil]
  refine W_len (sq_l (x3.lk (x2.lk hra))) (by first | with_reducible exact Int.natCast_nonneg _ | with_reducible assumption | lia | omega) ?_
  walk_at "st"
  rw [hyl]
  refine W_rep (lst_l (lk_of e3)) (by first | with_reducible exact Int.natCast_nonneg _ | with_reducible assumption | lia | omega) (by first | with_reducible exact Int.natCast_nonneg _ | with_reducible assumption | lia | omega) (by rw [List.length_singleton]; first | with_reducible exact Int.natCast_nonneg _ | with_reducible assumption | lia | omega) ?_
  rw [rep_zero, show ((N : Int) - (u : Int)).toNat = N - u from by first | with_reducible exact Int.natCast_nonneg _ | with_reducible assumption | lia | omega]
  refine new_abs fun r3 H4 x4 f4 e4 => ?_
  refine W_cat (lst_l (lk_of (x4.le _ _ (x3.le _ _ e2)))) (lst_l (lk_of e4)) (by rw [ints_length, ints_length, List.length_take, List.length_replicate]; first | with_reducible exact Int.natCast_nonneg _ | with_reducible assumption | lia | omega) ?_
  rw [ints_append]
  refine new_abs fun r4 H5 x5 f5 e5 => ?_
  have y4 := hE.trans (x2.trans (x3.trans x4))
  walk_at "st"
  refine ⟨show 2 ≤ 16777216 by decide, new_abs fun r5 H6 x6 f6 e6 => RQ.here (hQ r5 r4 H6 (y4.trans (x5.trans x6)) (y4.fresh f5) (x6.le _ _ e5) e6)⟩
theorem pushed_ms (ht : ThreadSpec cx n) (hmk : MarkedSpec cx n) (hl : LedSpec cx n) (h2 : Fn1 cx n 129 fun w => .int (w.fdiv 4)) (h4 : Fn1 cx n 136 fun w => .bool ((w.fdiv 2).fmod 2 == 1)) (hmv : MovedSpec cx n)
    (hrow : lk cx H row = some (.list (intsV xs))) (s : Shp B xs) (w : WFB B) (hp : pl B B.length ≤ xs.length)
    (hQ : ∀ (t r : Addr) (H' : HP) (p : Nat → Bool), Ext cx H H' → Fresh cx H r → (∀ k, p k = true ↔ Reach B k) → nw B p B.length ≤ xs.length → H' r = some (.list (intsV (rowOf (nw B p) (kept B p B.length) ++ List.replicate (xs.length - nw B p B.length) 0))) → H' t = some (.tup [.ref r, .int (nw B p B.length)]) → Q (.ref t) H') :
    mwpSs cx n m_pushed [.ref row, .int (pl B B.length), .unb, .unb, .unb] H (NQ Q) (RQ Q) := by
  have hxl := s.len
  have hBl := len_le_pl B (Nat.le_refl B.length)
  refine S_cons ?_
  walk_at "st"
  refine hmk _ xs B _ _ _ hrow s w (by first | with_reducible exact Int.natCast_nonneg _ | with_reducible assumption | lia | omega) fun fa HA M xA hfa hfaA hM => ?_
  obtain ⟨p, hpM⟩ : ∃ p : Nat → Bool, ∀ k, p k = true ↔ k ∈ M := ⟨fun k => decide (k ∈ M), fun k => decide_eq_true_iff⟩
  have hpR : ∀ k, p k = true ↔ Reach B k := fun k => (hpM k).trans (hM k)
  have S0 := S1.start w s hpM fun k hk => ((hM k).mp hk).lt w
  walk_at "st"
  refine ht _ B p xs.length _ _ _ (lk_of hfaA) w hxl hp S0 fun ra HB ys xB hra S => S_cons ?_
  have xAB := xA.trans xB
  clear S0 hpM hM xA xB hfaA hfa
  walk_at "st"
  refine S_cons ?_
  walk_at "st"
  refine S_cons ?_
  rw [s_while]
  refine ⟨PuI cx H B p xs.length, ⟨B.length, 0, ra, ys, _, by first | with_reducible exact Int.natCast_nonneg _ | with_reducible assumption | lia | omega, by rw [pl_zero]; rfl, xAB, hra, P2S.start S⟩, ?_⟩
  clear S hra xAB
  rintro m μ H1 ⟨k, ra, ys, z4, hm, rfl, hE, hra, S⟩
  walk_at "st"
  refine ifB_of (fun q => S_cons ?_) fun q => S_cons ?_
  · have hkl := pl_more (decide_eq_true_iff.mp q)
    have hk : B[k]? = some B[k] := List.getElem?_eq_getElem hkl
    generalize B[k] = fl at hk
    have hps := pl_succ hk
    have hpm := pl_mono (B := B) (show k + 1 ≤ B.length from hkl)
    have hnk := nw_le (B := B) p (show k ≤ B.length by first | with_reducible exact Int.natCast_nonneg _ | with_reducible assumption | lia | omega)
    have hnw := nw_succ (p := p) hk
    obtain ⟨wd, cs, g1, g2, g3, g4, g5, g6⟩ := S.head w hk hp
    have hyl := S.len
    walk_at "st"
    refine hl _ ys (pl B k) (nw B p k) wd _ cs _ _ hra (by first | with_reducible exact Int.natCast_nonneg _ | with_reducible assumption | lia | omega) g1 g2 g3 (hw_even _ _) fun r1 H2 x1 e1 => S_cons ?_
    replace x1 := hE.trans x1
    generalize (setAll ys cs (2 * (nw B p k : Int) + 1)).set (pl B k) (4 * (fl.length : Int) + if p k then 2 else 0) = ys1 at g5 g6 e1
    have hz1 := g6.len
    have l1 : ys1.length ≤ 1000 := by first | with_reducible exact Int.natCast_nonneg _ | with_reducible assumption | lia | omega
    clear hra hE S g1 g2 g3 g4 hyl
    have fin : ∀ (f : Nat) (ra : Addr) (ys : List Int) (H' : HP), f = nw B p (k + 1) → Ext cx H H' → lk cx H' ra = some (.list (intsV ys)) → P2S B p xs.length (k + 1) ys →
        mwpSs cx n (.cons (.assign 2 (.bin .Add (.bin .Add (.loc 2) (.cint (1))) (.loc 4))) .nil) [.ref ra, .int (pl B B.length), .int (pl B k), .int f, .int fl.length] H' (fun μ' H' => ∃ H₃, LE H₃ H' ∧ ∃ m', m' < m ∧ PuI cx H B p xs.length m' μ' H₃) (RQ Q) := by
      intro f ra ys H' hf hE hra S
      refine S_cons ?_
      walk_at "st"
      refine S_nil ⟨H', LE.refl _, B.length - (k + 1), by first | with_reducible exact Int.natCast_nonneg _ | with_reducible assumption | lia | omega, k + 1, ra, ys, .int fl.length, by first | with_reducible exact Int.natCast_nonneg _ | with_reducible assumption | lia | omega, ?_, hE, hra, S⟩
      rw [hps, hf, show (pl B k : Int) + 1 + (fl.length : Int) = ((pl B k + 1 + fl.length : Nat) : Int) from by first | with_reducible exact Int.natCast_nonneg _ | with_reducible assumption | lia | omega]
    walk_at "st"
    refine W_subI (lk_of e1) l1 g5 (h2 _ _ _ ?_)
    dsimp only
    rw [hw_fields]
    refine S_cons ?_
    walk_at "st"
    refine W_subI (lk_of e1) l1 g5 (h4 _ _ _ ?_)
    dsimp only
    rw [hw_marked]
    walk_at "st"
    cases hpk : p k with
    | false =>
      refine ifB_f' rfl (S_nil (fin _ r1 ys1 H2 ?_ x1 (lk_of e1) (g6.skip hk hpk)))
      rw [hnw, hpk]; rfl
    | true =>
      refine ifB_t' rfl (S_cons ?_)
      walk_at "st"
      refine hmv _ ys1 (pl B k) (nw B p k) fl.length _ _ (lk_of e1) l1 (by first | with_reducible exact Int.natCast_nonneg _ | with_reducible assumption | lia | omega) (by first | with_reducible exact Int.natCast_nonneg _ | with_reducible assumption | lia | omega) fun r3 ys3 H3 x3 e3 hM3 => S_cons ?_
      walk_at "st"
      rw [show (nw B p k : Int) + 1 + (fl.length : Int) = ((nw B p k + 1 + fl.length : Nat) : Int) from by first | with_reducible exact Int.natCast_nonneg _ | with_reducible assumption | lia | omega]
      refine S_nil (fin _ r3 ys3 H3 ?_ (x1.trans x3) (lk_of e3) (g6.move hk hpk hM3))
      rw [hnw, if_pos hpk]; first | with_reducible exact Int.natCast_nonneg _ | with_reducible assumption | lia | omega
  · have hke := pl_done (by first | with_reducible exact Int.natCast_nonneg _ | with_reducible assumption | lia | omega) (decide_eq_false_iff_not.mp q)
    subst hke
    have hnw := nw_le (B := B) p (Nat.le_refl B.length)
    rw [s_ret]
    refine push_end hra hE S.len hxl (by first | with_reducible exact Int.natCast_nonneg _ | with_reducible assumption | lia | omega) fun t r H' x f e1 e2 => hQ t r H' p x f hpR (by first | with_reducible exact Int.natCast_nonneg _ | with_reducible assumption | lia | omega) ?_ e2
    rw [e1, S.pre]
noncomputable def PushedSpec (cx : Cx) (n : Nat) : Prop := ∀ (row : Addr) (B : Bx) (xs : List Int) (H : HP) (Q : V → HP → Prop), lk cx H row = some (.list (intsV xs)) → Shp B xs → WFB B → pl B B.length ≤ xs.length →
  (∀ (t r : Addr) (H' : HP) (p : Nat → Bool), Ext cx H H' → Fresh cx H r → (∀ k, p k = true ↔ Reach B k) → nw B p B.length ≤ xs.length → H' r = some (.list (intsV (rowOf (nw B p) (kept B p B.length) ++ List.replicate (xs.length - nw B p B.length) 0))) → H' t = some (.tup [.ref r, .int (nw B p B.length)]) → Q (.ref t) H') →
  CallP cx n 192 [.ref row, .int (pl B B.length)] H Q
end
end Mine
end

section
namespace Mine
open PySem PyProof.Rows
section
variable {cx : Cx} {rm dx ra : Addr} {N : Nat} {B : Bx} {H H' H1 : HP} {n : Nat} {a b r : Addr} {o : O} {Q : V → HP → Prop} {v : V} {vs : List V}
noncomputable def m_Room_come_to : MSs :=
  (.cons (.assign 1 (.callf 171 (.cons (.attr 296 0 (Str.ofString "row")) (.cons (.attr 296 0 (Str.ofString "filled")) .nil))))
  (.cons (.ret (.comp (.loc 2) (.callm 296 (Str.ofString "places") 267 0 .nil) (.callf 136 (.cons (.sub (.loc 1) (.loc 2)) .nil))))
  .nil))
noncomputable def m_Room_pushed : MSs :=
  (.cons (.assign 1 (.attr 296 0 (Str.ofString "filled")))
  (.cons (.assign 2 (.callf 192 (.cons (.attr 296 0 (Str.ofString "row")) (.cons (.attr 296 0 (Str.ofString "filled")) .nil))))
  (.cons (.setAttr 296 0 (Str.ofString "row") (.sub (.loc 2) (.cint (0))))
  (.cons (.setAttr 296 0 (Str.ofString "filled") (.sub (.loc 2) (.cint (1))))
  (.cons (.ret (.bin .Sub (.loc 1) (.attr 296 0 (Str.ofString "filled"))))
  .nil)))))
noncomputable def m_law_number : MSs :=
  (.cons (.ite (.cmp (.bin .Mod (.loc 0) (.cint (5))) .Lt (.cint (3))) (.cons (.ret (.bin .Sub (.bin .Mod (.bin .FloorDiv (.loc 0) (.cint (5))) (.cint (41))) (.cint (20))))
    .nil) .nil)
  (.cons (.ite (.cmp (.bin .Mod (.loc 0) (.cint (5))) .Eq (.cint (3))) (.cons (.ret (.sub (.list (.cons (.bin .Sub (.bin .Pow (.cint (10)) (.cint (60))) (.cint (1))) (.cons (.bin .Sub (.cint (1)) (.bin .Pow (.cint (10)) (.cint (60)))) (.cons (.bin .Pow (.cint (10)) (.cint (30))) (.cons (.cint (0)) .nil))))) (.bin .Mod (.bin .FloorDiv (.loc 0) (.cint (5))) (.cint (4)))))
    .nil) .nil)
  (.cons (.ret (.bin .Sub (.bin .Mod (.bin .Mult (.bin .FloorDiv (.loc 0) (.cint (5))) (.bin .Pow (.cint (48271)) (.cint (12)))) (.bin .Sub (.bin .Mult (.cint (2)) (.bin .Pow (.cint (10)) (.cint (60)))) (.cint (1)))) (.bin .Sub (.bin .Pow (.cint (10)) (.cint (60))) (.cint (1)))))
  .nil)))
theorem mulOk_r {a b : Int} (h : Builtin.Int.intBits b ≤ 64) : IntMulOk a b := by
  unfold IntMulOk
  have : decide (Builtin.Int.intBits b > shortFactorBits) = false := decide_eq_false (by unfold shortFactorBits; first | with_reducible exact Int.natCast_nonneg _ | with_reducible assumption | lia | omega)
  rw [this]; simp
theorem bits_of {v : Int} {m k : Nat} (h : v.natAbs < 2 ^ k) (hk : k ≤ m) : Builtin.Int.intBits v ≤ m := Nat.le_trans (intBits_le_iff.mpr h) hk
theorem lbits {v : Int} (h1 : 0 ≤ v) (h2 : v < 1000000) : Builtin.Int.intBits v ≤ 3000000 := bits_of (k := 20) (by first | with_reducible exact Int.natCast_nonneg _ | with_reducible assumption | lia | omega) (by decide)
theorem number_ms {seed : Int} (hb : Builtin.Int.intBits seed ≤ 3000000) (hQ : ∀ v, Q (.int v) H) : mwpSs cx n m_law_number [.int seed] H (NQ Q) (RQ Q) := by
  refine S_cons ?_
  walk_at "st"
  refine ⟨by decide, ifB_of (fun _ => S_cons ?_) fun _ => S_nil (S_cons ?_)⟩
  · walk_at "st"
    exact ⟨by decide, by decide, RQ.here (hQ _)⟩
  · walk_at "st"
    refine ⟨by decide, ?_⟩
    rw [eqv_int]
    refine ifB_of (fun _ => S_cons ?_) fun _ => S_nil (S_cons ?_)
    · walk_at "st"
      refine ⟨by decide, by decide, by decide, by decide, by decide, by decide, show 4 ≤ 16777216 by decide, new_abs fun r H1 x1 _ e1 => ⟨by decide, by decide, ?_⟩⟩
      obtain ⟨b1, b2⟩ := fmod_pos_bounds (seed.fdiv 5) (b := 4) (by decide)
      generalize (seed.fdiv 5).fmod 4 = i at b1 b2
      have fin : ∀ v, RQ Q (.int v) H1 := fun v => ⟨H, x1.le, hQ v⟩
      obtain rfl | rfl | rfl | rfl : i = 0 ∨ i = 1 ∨ i = 2 ∨ i = 3 := by first | with_reducible exact Int.natCast_nonneg _ | with_reducible assumption | lia | omega
      all_goals exact W_sub (sq_l (lk_of e1)) (by decide) (show 4 ≤ 16777216 by decide) rfl (fin _)
    · walk_at "st"
      refine ⟨by decide, by decide, by decide, ?_, by decide, by decide, mulOk_l (by decide), ?_, by decide, by decide, RQ.here (hQ _)⟩
      · exact IntMulOk.of_le (intBits_fdiv_le hb) (show Builtin.Int.intBits (48271 ^ Int.toNat 12) ≤ 300 by decide +kernel) (by decide)
      · decide +kernel
noncomputable def NumSpec (cx : Cx) (n : Nat) : Prop := ∀ (s : Int) (H : HP) (Q : V → HP → Prop), Builtin.Int.intBits s ≤ 3000000 → (∀ v, Q (.int v) H) → CallP cx n 326 [.int s] H Q
theorem C_same {items : List V} {st : HP → Prop} {turn : V → HP → (Option V → HP → Prop) → Prop} (hl : items.length ≤ 16777216) (hst : st H) (g : Nat → List V) (h0 : g 0 = [])
    (step : ∀ k x (K : Option V → HP → Prop), items[k]? = some x → (∀ ov : Option V, g (k + 1) = g k ++ ov.toList → K ov H) → turn x H K) (fin : new cx H (.list (g items.length)) Q) : CompP cx items st H turn Q := by
  refine ⟨hl, fun done acc H' => acc = g done.length ∧ H' = H, ⟨h0.symm, rfl⟩, fun _ _ _ q => q.2 ▸ hst, ?_, ?_⟩
  · rintro done x rest acc _ e ⟨rfl, rfl⟩
    refine step done.length x _ (by rw [e]; simp) fun ov q => ⟨_, LE.refl _, ?_, rfl⟩
    rw [List.length_append, List.length_singleton, q]
  · rintro acc _ ⟨rfl, rfl⟩
    exact fin
theorem C_grow {items : List V} {st : HP → Prop} {turn : V → HP → (Option V → HP → Prop) → Prop} (hl : items.length ≤ 16777216) (hst : ∀ H', Ext cx H H' → st H') (P : Nat → List V → HP → Prop) (h0 : P 0 [] H)
    (step : ∀ k x acc H1 (K : Option V → HP → Prop), items[k]? = some x → Ext cx H H1 → P k acc H1 → (∀ v H2, Ext cx H1 H2 → P (k + 1) (acc ++ [v]) H2 → K (some v) H2) → turn x H1 K) (fin : ∀ acc H1, Ext cx H H1 → P items.length acc H1 → new cx H1 (.list acc) Q) : CompP cx items st H turn Q := by
  refine ⟨hl, fun done acc H' => Ext cx H H' ∧ P done.length acc H', ⟨Ext.refl _ _, h0⟩, fun _ _ _ q => hst _ q.1, ?_, ?_⟩
  · rintro done x rest acc H1 e ⟨x1, p1⟩
    refine step done.length x acc H1 _ (by rw [e]; simp) x1 p1 fun v H2 x2 p2 => ⟨H2, LE.refl _, x1.trans x2, ?_⟩
    rw [List.length_append, List.length_singleton]
    exact p2
  · rintro acc H1 ⟨x1, p1⟩
    exact fin acc H1 x1 p1
theorem natsV_app (l m : List Nat) : natsV l ++ natsV m = natsV (l ++ m) := by simp [natsV, intsV]
theorem nats_if (c : Bool) (l : List Nat) (k : Nat) : natsV (l ++ if c then [k] else []) = natsV l ++ (if c then some (V.int (k : Int)) else none).toList := by
  cases c
  · simp
  · exact (natsV_snoc l k).symm
theorem come_ms (hm : MarkedSpec cx n) (h4 : Fn1 cx n 136 fun w => .bool ((w.fdiv 2).fmod 2 == 1)) (hp : PlSpec cx n) (R : RoomAt N rm dx ra B H)
    (hQ : ∀ r H' p, Ext cx H H' → Fresh cx H r → (∀ k, p k = true ↔ Reach B k) → H' r = some (.list (natsV ((kl p B.length).map (pl B)))) → Q (.ref r) H') :
    mwpSs cx n m_Room_come_to [.ref rm, .unb] H (NQ Q) (RQ Q) := by
  have hlen := rowN_length R.le
  have hn4 := R.n4
  have hsh := shp_N R.le R.n4
  have hle := R.le
  have hBl := len_le_pl B (Nat.le_refl _)
  refine S_cons ?_
  walk_at "st"
  refine R.row (R.fil (hm _ (rowN N B) B _ _ _ (lk_of R.r) hsh R.w (by first | with_reducible exact Int.natCast_nonneg _ | with_reducible assumption | lia | omega) fun mr H1 M x1 _ hmr hM => S_cons ?_))
  walk_at "st"
  refine ⟨(R.ext x1.le).no fun _ _ => rfl, hp _ _ _ _ _ _ _ (R.ext x1.le) fun pr H2 x2 _ hpr => ?_⟩
  have hil : (intsV (plI B)).length = B.length := by simp [intsV, plI]
  refine W_iter (lk_of hpr) (by first | with_reducible exact Int.natCast_nonneg _ | with_reducible assumption | lia | omega) (C_same (by first | with_reducible exact Int.natCast_nonneg _ | with_reducible assumption | lia | omega) (lk_of hpr) (fun k => natsV ((kl (fun k => decide (k ∈ M)) k).map (pl B))) rfl ?_ ?_)
  · intro k x K hx hK
    have hd : k < B.length := by rw [← hil]; exact (List.getElem?_eq_some_iff.mp hx).1
    have hk : B[k]? = some B[k] := List.getElem?_eq_getElem hd
    obtain rfl : x = .int (pl B k) := by
      rw [ints_get?, plI, List.getElem?_map, List.getElem?_map, List.getElem?_range hd] at hx
      exact (Option.some.inj hx).symm
    walk_at "st"
    refine W_subI (lk_of (x2.le _ _ hmr)) (by rw [bump_length]; first | with_reducible exact Int.natCast_nonneg _ | with_reducible assumption | lia | omega) (bump_head hsh (fun i hi => ((hM i).mp hi).lt R.w) hk) (h4 _ _ _ ?_)
    walk_at "st"
    rw [show (((4 * (B[k].length : Int) + if k ∈ M then 2 else 0).fdiv 2).fmod 2 == 1) = decide (k ∈ M) from by
      by_cases q : k ∈ M
      · rw [if_pos q, decide_eq_true q, fdiv2, fmod2, beq_iff_eq]; first | with_reducible exact Int.natCast_nonneg _ | with_reducible assumption | lia | omega
      · rw [if_neg q, decide_eq_false q, fdiv2, fmod2, beq_eq_false_iff_ne]; first | with_reducible exact Int.natCast_nonneg _ | with_reducible assumption | lia | omega]
    have g := fun (c : Bool) (e : decide (k ∈ M) = c) => hK (if c then some (V.int (pl B k : Int)) else none) (by
      rw [kl_succ, List.map_append, show decide (k ∈ M) = c from e, ← nats_if]
      congr 2
      cases c <;> rfl)
    exact ifB_of (fun q => g true q) fun q => g false q
  · rw [hil]
    intro r hr
    exact RQ.here (hQ r _ _ ((x1.trans x2).new' hr _) ((x1.trans x2).fresh hr) (fun k => by rw [decide_eq_true_iff]; exact hM k) (upd_same _ _ _))
noncomputable def ComeSpec (cx : Cx) (n : Nat) : Prop := ∀ (N : Nat) (rm dx ra : Addr) (B : Bx) (H : HP) (Q : V → HP → Prop), RoomAt N rm dx ra B H →
  (∀ r H' p, Ext cx H H' → Fresh cx H r → (∀ k, p k = true ↔ Reach B k) → H' r = some (.list (natsV ((kl p B.length).map (pl B)))) → Q (.ref r) H') → CallP cx n 272 [.ref rm] H Q
theorem rowN_box2 (w : WFB B) (p : Nat → Bool) : rowN N (box2 B p B.length) = rowOf (nw B p) (kept B p B.length) ++ List.replicate (N - nw B p B.length) 0 := by
  rw [rowN, row2 w, box2_length, box2_pl (Nat.le_refl _)]
theorem rpush_ms (hps : PushedSpec cx n) (R : RoomAt N rm dx ra B H)
    (hQ : ∀ p ra' H', (∀ k, p k = true ↔ Reach B k) → RoomAt N rm dx ra' (box2 B p B.length) H' → Fresh cx H ra' → But dx H H' → KZ cx H H' → Q (.int ((pl B B.length : Int) - (pl (box2 B p B.length) (box2 B p B.length).length : Int))) H') :
    mwpSs cx n m_Room_pushed [.ref rm, .unb, .unb] H (NQ Q) (RQ Q) := by
  have hlen := rowN_length R.le
  refine S_cons ?_
  walk_at "st"
  refine R.fil (S_cons ?_)
  walk_at "st"
  refine R.row (R.fil (hps _ B _ _ _ (lk_of R.r) (shp_N R.le R.n4) R.w (by rw [hlen]; exact R.le) fun t r H1 p x1 f1 hp hle e1 e2 => S_cons ?_))
  rw [hlen] at hle e1
  have hu : nw B p B.length = pl (box2 B p B.length) (box2 B p B.length).length := by rw [box2_length, box2_pl (Nat.le_refl _)]
  rw [hu] at e2 hle
  have hrow := rowN_box2 (N := N) R.w p
  have R1 := R.ext x1.le
  have ntd : t ≠ dx := fun q => by rw [q, R1.d] at e2; cases e2
  have nrd : r ≠ dx := fun q => by rw [q] at f1; exact f1.ne' R.d rfl
  replace hQ := hQ p r
  walk_at "st"
  refine W_sub (sq_t (lk_of e2)) (by decide) (show 2 ≤ 16777216 by decide) (v := .ref r) rfl (W_setAttr R1.i R1.d (show 2 < 100 by decide) (S_cons ?_))
  walk_at "st"
  refine W_sub (vs := [.ref r, .int (pl (box2 B p B.length) (box2 B p B.length).length)]) (sq_t (lk_of (by rw [upd_ne _ ntd]; exact e2))) (by decide) (show 2 ≤ 16777216 by decide) (v := .int (pl (box2 B p B.length) (box2 B p B.length).length)) rfl (W_setAttr (by rw [upd_ne _ R1.nrd]; exact R1.i) (upd_same _ _ _) (show 2 < 100 by decide) (S_cons ?_))
  rw [upd_upd]
  have R2 : RoomAt N rm dx r (box2 B p B.length) (upd H1 dx (.flds (roomF r (pl (box2 B p B.length) (box2 B p B.length).length)))) :=
    ⟨by rw [upd_ne _ R1.nrd]; exact R1.i, upd_same _ _ _, by rw [upd_ne _ nrd, hrow]; exact e1, R.n4, hle, wfb2 hp R.w⟩
  replace hQ := hQ _ hp R2 f1 (fun a o ha e => by rw [upd_ne _ ha]; exact x1.le _ _ e) (KZ.upd x1.z R1.d)
  walk_at "st"
  exact R2.fil (RQ.here hQ)
noncomputable def RPushSpec (cx : Cx) (n : Nat) : Prop := ∀ (N : Nat) (rm dx ra : Addr) (B : Bx) (H : HP) (Q : V → HP → Prop), RoomAt N rm dx ra B H →
  (∀ p ra' H', (∀ k, p k = true ↔ Reach B k) → RoomAt N rm dx ra' (box2 B p B.length) H' → Fresh cx H ra' → But dx H H' → KZ cx H H' → Q (.int ((pl B B.length : Int) - (pl (box2 B p B.length) (box2 B p B.length).length : Int))) H') → CallP cx n 279 [.ref rm] H Q
noncomputable def PutSpec (cx : Cx) (n : Nat) : Prop := ∀ (N : Nat) (rm dx ra : Addr) (B : Bx) (v f t' : V) (H : HP) (Q : V → HP → Prop), RoomAt N rm dx ra B H → Kn H v → Kn H f → ((∃ t, ThAt cx H t' t) ∨ BadT cx H t') →
  (¬ InPl B v → Q (.exc 61) H) →
  (∀ k fl, v = .int (pl B k) → B[k]? = some fl → (¬ ∃ j : Nat, f = .int j ∧ j < fl.length) → Q (.exc 73) H) →
  (∀ k fl (j : Nat), v = .int (pl B k) → B[k]? = some fl → f = .int j → j < fl.length → BadT cx H t' → Q (.exc 49) H) →
  (∀ k fl (j : Nat) t, v = .int (pl B k) → B[k]? = some fl → f = .int j → j < fl.length → ThAt cx H t' t → t.1 = true → t.2 ∉ plI B → Q (.exc 61) H) →
  (∀ k fl (j : Nat) t, v = .int (pl B k) → B[k]? = some fl → f = .int j → j < fl.length → ThAt cx H t' (plt B t) → OkT B t → ∀ H', RoomAt N rm dx ra (B.set k (fl.set j t)) H' → But ra H H' → KZ cx H H' → Q .none H') → CallX cx n 253 [.ref rm, v, f, t'] H Q
end
end Mine
end

section
namespace Mine
theorem idx_of {l : List Nat} (nd : l.Nodup) {k i : Nat} (h : l[k]? = some i) : l.idxOf i = k := by
  obtain ⟨hk, rfl⟩ := List.getElem?_eq_some_iff.mp h
  exact nd.idxOf_getElem k hk
theorem idx_get {l : List Nat} {i : Nat} (h : i ∈ l) : l[l.idxOf i]? = some i := by
  rw [List.getElem?_eq_getElem (List.idxOf_lt_length_of_mem h)]
  simp
noncomputable def renT (L : List Nat) (t : Th) : Th := if t.1 = true then (true, (L.idxOf t.2.toNat : Int)) else t
noncomputable def bx (L : List Nat) (F : Bx) : Bx := L.map fun i => (F.getD i []).map (renT L)
noncomputable def OkL (L : List Nat) (t : Th) : Prop := t.1 = true → ∃ j : Nat, j ∈ L ∧ t.2 = (j : Int)
structure Pn (L : List Nat) (F : Bx) : Prop where
  nd : L.Nodup
  hd : L[0]? = some 0
  lt : ∀ i ∈ L, i < F.length
  cl : ∀ i ∈ L, ∀ f, F[i]? = some f → ∀ t ∈ f, OkL L t
section
variable {L : List Nat} {F : Bx} {k i j : Nat} {f : List Th} {t : Th} {p : Nat → Bool}
theorem bx_len (L : List Nat) (F : Bx) : (bx L F).length = L.length := List.length_map _
theorem getD_f (h : F[i]? = some f) : F.getD i [] = f := by rw [List.getD_eq_getElem?_getD, h]; rfl
theorem bx_get (h : L[k]? = some i) (hf : F[i]? = some f) : (bx L F)[k]? = some (f.map (renT L)) := by
  rw [bx, List.getElem?_map, h, Option.map_some, getD_f hf]
theorem Pn.of (P : Pn L F) (h : i ∈ L) : ∃ f, F[i]? = some f := ⟨_, List.getElem?_eq_getElem (P.lt i h)⟩
theorem Pn.at_ (P : Pn L F) (h : L[k]? = some i) : ∃ f, F[i]? = some f := P.of (List.mem_of_getElem? h)
theorem okl_ok (h : OkL L t) : OkT (bx L F) (renT L t) := by
  unfold OkT renT
  intro q
  by_cases e : t.1 = true
  · obtain ⟨j, hj, ej⟩ := h e
    rw [if_pos e, ej, Int.toNat_natCast]
    exact ⟨_, rfl, by rw [bx_len]; exact List.idxOf_lt_length_of_mem hj⟩
  · rw [if_neg e] at q; exact absurd q e
theorem Pn.pos (P : Pn L F) : 0 < L.length := (List.getElem?_eq_some_iff.mp P.hd).1
theorem Pn.wfb (P : Pn L F) : WFB (bx L F) := by
  refine ⟨by rw [bx_len]; exact P.pos, fun g hg t ht => ?_⟩
  obtain ⟨i, hi, rfl⟩ := List.mem_map.mp hg
  obtain ⟨f, hf⟩ := P.of hi
  rw [getD_f hf] at ht
  obtain ⟨u, hu, rfl⟩ := List.mem_map.mp ht
  exact okl_ok (P.cl i hi _ hf u hu)
theorem ren_app {x : Nat} (h : OkL L t) : renT (L ++ [x]) t = renT L t := by
  unfold renT
  by_cases e : t.1 = true
  · obtain ⟨j, hj, ej⟩ := h e
    rw [if_pos e, if_pos e, ej, Int.toNat_natCast, List.idxOf_append, if_pos hj]
  · rw [if_neg e, if_neg e]
theorem okl_app {x : Nat} (h : OkL L t) : OkL (L ++ [x]) t := fun e => let ⟨j, hj, ej⟩ := h e; ⟨j, List.mem_append_left _ hj, ej⟩
theorem app_f (h : i < F.length) (ts : List Th) : (F ++ [ts])[i]? = F[i]? := List.getElem?_append_left h
theorem bx_app (P : Pn L F) {ts : List Th} (h : ∀ t ∈ ts, OkL L t) : bx (L ++ [F.length]) (F ++ [ts]) = bx L F ++ [ts.map (renT L)] := by
  unfold bx
  rw [List.map_append]
  congr 1
  · apply List.map_congr_left
    intro i hi
    obtain ⟨f, hf⟩ := P.of hi
    rw [getD_f hf, getD_f (by rw [app_f (P.lt i hi), hf])]
    exact List.map_congr_left fun t ht => ren_app (P.cl i hi _ hf t ht)
  · rw [List.map_singleton, getD_f (f := ts) (by simp)]
    congr 1
    exact List.map_congr_left fun t ht => ren_app (h t ht)
theorem pn_app (P : Pn L F) {ts : List Th} (h : ∀ t ∈ ts, OkL L t) : Pn (L ++ [F.length]) (F ++ [ts]) := by
  have hpos := P.pos
  refine ⟨?_, by rw [List.getElem?_append_left hpos]; exact P.hd, fun i hi => ?_, fun i hi f hf t ht => ?_⟩
  · rw [List.nodup_append]
    refine ⟨P.nd, by simp, fun a ha b hb => ?_⟩
    have := P.lt a ha
    rw [List.mem_singleton] at hb; first | lia | omega
  · rw [List.length_append, List.length_singleton]
    rcases List.mem_append.mp hi with q | q
    · have := P.lt i q; first | lia | omega
    · rw [List.mem_singleton] at q; first | lia | omega
  · rcases List.mem_append.mp hi with q | q
    · rw [app_f (P.lt i q)] at hf
      exact okl_app (P.cl i q f hf t ht)
    · rw [List.mem_singleton] at q; subst q
      rw [List.getElem?_append_right (Nat.le_refl _)] at hf
      simp at hf; subst hf
      exact okl_app (h t ht)
theorem bx_set (P : Pn L F) (hk : L[k]? = some i) (hf : F[i]? = some f) : bx L (F.set i (f.set j t)) = (bx L F).set k ((f.map (renT L)).set j (renT L t)) := by
  apply List.ext_getElem?
  intro m
  rw [List.getElem?_set, bx, List.getElem?_map]
  cases hm : L[m]? with
  | none =>
    have := List.getElem?_eq_none_iff.mp hm
    have hkl := (List.getElem?_eq_some_iff.mp hk).1
    rw [if_neg (by first | lia | omega), bx, List.getElem?_map, hm]; rfl
  | some y =>
    rw [Option.map_some]
    have hil := (List.getElem?_eq_some_iff.mp hf).1
    by_cases q : k = m
    · subst q
      rw [hk] at hm; cases hm
      rw [if_pos rfl, if_pos (by rw [bx_len]; exact (List.getElem?_eq_some_iff.mp hk).1), getD_f (f := f.set j t) (by rw [List.getElem?_set_self hil]), List.map_set]
    · rw [if_neg q, bx, List.getElem?_map, hm, Option.map_some]
      have : i ≠ y := fun e => by
        subst e
        have h1 := idx_of P.nd hk
        have h2 := idx_of P.nd hm
        first | lia | omega
      rw [List.getD_eq_getElem?_getD, List.getElem?_set_ne this, ← List.getD_eq_getElem?_getD]
theorem pn_set (P : Pn L F) (hf : F[i]? = some f) (h : OkL L t) : Pn L (F.set i (f.set j t)) := by
  refine ⟨P.nd, P.hd, fun m hm => by rw [List.length_set]; exact P.lt m hm, fun m hm g hg u hu => ?_⟩
  by_cases q : i = m
  · subst q
    rw [List.getElem?_set_self (List.getElem?_eq_some_iff.mp hf).1] at hg
    cases hg
    rcases List.mem_or_eq_of_mem_set hu with q | q
    · exact P.cl i hm f hf u q
    · subst q; exact h
  · rw [List.getElem?_set_ne q] at hg
    exact P.cl m hm g hg u hu
noncomputable def keepL (L : List Nat) (p : Nat → Bool) : List Nat := (kl p L.length).map fun k => L.getD k 0
theorem kl_get : ∀ {n k : Nat}, k < n → p k = true → (kl p n)[nidx p k]? = some k
  | n + 1, k, h, hp => by
    rw [kl_succ]
    by_cases q : k = n
    · subst q
      rw [if_pos hp, nidx, List.getElem?_append_right (Nat.le_refl _)]; simp
    · have hlt : nidx p k < (kl p n).length := by
        have := nidx_mono (p := p) (show k + 1 ≤ n by first | lia | omega)
        rw [nidx_succ, if_pos hp] at this
        have e : (kl p n).length = nidx p n := rfl
        first | lia | omega
      rw [List.getElem?_append_left hlt]
      exact kl_get (by first | lia | omega) hp
theorem getD_l (h : L[k]? = some i) : L.getD k 0 = i := by rw [List.getD_eq_getElem?_getD, h]; rfl
theorem keep_get (h : L[k]? = some i) (hp : p k = true) : (keepL L p)[nidx p k]? = some i := by
  rw [keepL, List.getElem?_map, kl_get (List.getElem?_eq_some_iff.mp h).1 hp, Option.map_some, getD_l h]
theorem keep_mem : i ∈ keepL L p ↔ ∃ k, L[k]? = some i ∧ p k = true := by
  rw [keepL, List.mem_map]
  constructor
  · rintro ⟨k, hk, rfl⟩
    obtain ⟨h1, h2⟩ := kl_mem.mp hk
    have : L[k]? = some L[k] := List.getElem?_eq_getElem h1
    exact ⟨k, by rw [getD_l this]; exact this, h2⟩
  · rintro ⟨k, h1, h2⟩
    exact ⟨k, kl_mem.mpr ⟨(List.getElem?_eq_some_iff.mp h1).1, h2⟩, getD_l h1⟩
theorem keep_at (nd : L.Nodup) (h : L[k]? = some i) : i ∈ keepL L p ↔ p k = true := by
  rw [keep_mem]
  refine ⟨fun ⟨m, h1, h2⟩ => ?_, fun q => ⟨k, h, q⟩⟩
  rw [← idx_of nd h, idx_of nd h1]; exact h2
theorem keep_nd (nd : L.Nodup) : (keepL L p).Nodup := by
  rw [keepL, List.Nodup, List.pairwise_map]
  refine (List.Pairwise.and_mem.mp (kl_sorted p L.length)).imp ?_
  rintro a b ⟨ha, hb, hlt⟩ e
  have ha := (kl_mem.mp ha).1
  have hb := (kl_mem.mp hb).1
  have h1 : L[a]? = some L[a] := List.getElem?_eq_getElem ha
  have h2 : L[b]? = some L[b] := List.getElem?_eq_getElem hb
  rw [getD_l h1, getD_l h2] at e
  rw [e] at h1
  have := idx_of nd h1
  have := idx_of nd h2
  first | lia | omega
theorem Pn.link (P : Pn L F) (hk : L[k]? = some i) (hf : F[i]? = some f) (ht : t ∈ f) (e : t.1 = true) : ∃ j m : Nat, t.2 = (j : Int) ∧ L[m]? = some j ∧ (true, (m : Int)) ∈ f.map (renT L) := by
  obtain ⟨j, hj, ej⟩ := P.cl i (List.mem_of_getElem? hk) f hf t ht e
  refine ⟨j, L.idxOf j, ej, idx_get hj, List.mem_map.mpr ⟨t, ht, ?_⟩⟩
  rw [renT, if_pos e, ej, Int.toNat_natCast]
theorem Pn.kept (P : Pn L F) (hp : ∀ k, p k = true ↔ Reach (bx L F) k) (hk : L[k]? = some i) (hpk : p k = true) (hf : F[i]? = some f) (ht : t ∈ f) : OkL (keepL L p) t ∧ ren p (renT L t) = renT (keepL L p) t := by
  by_cases e : t.1 = true
  · obtain ⟨j, m, ej, hm, hl⟩ := P.link hk hf ht e
    have hpm : p m = true := (hp m).mpr (Reach.step ((hp k).mp hpk) (bx_get hk hf) hl)
    refine ⟨fun _ => ⟨j, keep_mem.mpr ⟨m, hm, hpm⟩, ej⟩, ?_⟩
    unfold renT ren
    rw [if_pos e, if_pos e, if_pos rfl]
    dsimp only
    rw [ej, Int.toNat_natCast, Int.toNat_natCast, idx_of P.nd hm, idx_of (keep_nd P.nd) (keep_get hm hpm)]
  · refine ⟨fun q => absurd q e, ?_⟩
    unfold renT ren
    rw [if_neg e, if_neg e, if_neg e]
theorem bx_keep (P : Pn L F) (hp : ∀ k, p k = true ↔ Reach (bx L F) k) : bx (keepL L p) F = box2 (bx L F) p (bx L F).length := by
  rw [box2, kept_eq, bx, keepL, List.map_map, List.map_map, bx_len]
  apply List.map_congr_left
  intro k hk
  obtain ⟨hkl, hpk⟩ := kl_mem.mp hk
  have h1 : L[k]? = some L[k] := List.getElem?_eq_getElem hkl
  obtain ⟨f, hf⟩ := P.at_ h1
  rw [Function.comp, Function.comp, getD_l h1, getD_f hf, List.getD_eq_getElem?_getD, bx_get h1 hf, Option.getD_some, List.map_map]
  exact List.map_congr_left fun t ht => ((P.kept hp h1 hpk hf ht).2).symm
theorem pn_keep (P : Pn L F) (hp : ∀ k, p k = true ↔ Reach (bx L F) k) : Pn (keepL L p) F := by
  refine ⟨keep_nd P.nd, ?_, fun i hi => ?_, fun i hi f hf t ht => ?_⟩
  · exact keep_get (p := p) P.hd ((hp 0).mpr Reach.zero)
  · obtain ⟨k, h1, _⟩ := keep_mem.mp hi
    exact P.lt i (List.mem_of_getElem? h1)
  · obtain ⟨k, h1, h2⟩ := keep_mem.mp hi
    exact (P.kept hp h1 h2 hf ht).1
theorem keep_all (h : ∀ k, k < L.length → p k = true) : keepL L p = L := by
  have : kl p L.length = List.range L.length := by
    unfold kl
    rw [List.filter_eq_self]
    exact fun k hk => h k (List.mem_range.mp hk)
  rw [keepL, this]
  apply List.ext_getElem?
  intro k
  rw [List.getElem?_map]
  by_cases q : k < L.length
  · rw [List.getElem?_range q, Option.map_some, List.getElem?_eq_getElem q, getD_l (List.getElem?_eq_getElem q)]
  · rw [List.getElem?_eq_none (by simpa using q), List.getElem?_eq_none (by first | lia | omega)]; rfl
theorem bx_pl_succ (hk : L[k]? = some i) (hf : F[i]? = some f) : pl (bx L F) (k + 1) = pl (bx L F) k + 1 + f.length := by
  rw [pl_succ (bx_get hk hf), List.length_map]
theorem np_all {B : Bx} (hp : ∀ k, k < B.length → p k = true) : pl (box2 B p B.length) (box2 B p B.length).length = pl B B.length := by
  rw [box2_length, box2_pl (Nat.le_refl _), nw_all (Nat.le_refl _) hp]
noncomputable def gl (L : List Nat) (F : Bx) (q : Nat → Bool) (k : Nat) : List Nat := (kl q k).map fun m => 1 + (F.getD (L.getD m 0) []).length
theorem gl_succ (q : Nat → Bool) (hk : L[k]? = some i) (hf : F[i]? = some f) : gl L F q (k + 1) = gl L F q k ++ if q k then [1 + f.length] else [] := by
  rw [gl, kl_succ, List.map_append, gl]
  congr 1
  split
  · rw [List.map_singleton, getD_l hk, getD_f hf]
  · rfl
theorem gl_sum (P : Pn L F) (q : Nat → Bool) : ∀ {k}, k ≤ L.length → (gl L F q k).sum + nw (bx L F) (fun m => !q m) k = pl (bx L F) k
  | 0, _ => by simp [gl, kl, nw, pl]
  | k + 1, h => by
    have hk : L[k]? = some L[k] := List.getElem?_eq_getElem (by first | lia | omega)
    obtain ⟨f, hf⟩ := P.at_ hk
    have ih := gl_sum P q (k := k) (by first | lia | omega)
    rw [gl_succ q hk hf, nw_succ (bx_get hk hf), bx_pl_succ hk hf, List.sum_append, List.length_map]
    cases q k <;> simp <;> (first | lia | omega)
theorem nw_none (B : Bx) : ∀ k, nw B (fun _ => false) k = 0
  | 0 => rfl
  | k + 1 => by rw [nw, nw_none B k]; rfl
theorem gl_all (P : Pn L F) : (gl L F (fun _ => true) L.length).sum = pl (bx L F) (bx L F).length := by
  have := gl_sum P (fun _ => true) (Nat.le_refl _)
  rw [show (fun m : Nat => !(fun _ : Nat => true) m) = fun _ => false from rfl, nw_none] at this
  rw [bx_len]; first | lia | omega
theorem gl_gone (P : Pn L F) (p : Nat → Bool) : (gl L F (fun m => !p m) L.length).sum + pl (box2 (bx L F) p (bx L F).length) (box2 (bx L F) p (bx L F).length).length = pl (bx L F) (bx L F).length := by
  have := gl_sum P (fun m => !p m) (Nat.le_refl _)
  rw [show (fun m : Nat => !(fun m : Nat => !p m) m) = p from funext fun m => Bool.not_not _] at this
  rw [box2_length, box2_pl (Nat.le_refl _), bx_len]; exact this
theorem gl_len (q : Nat → Bool) (k : Nat) : (gl L F q k).length ≤ k := by
  rw [gl, List.length_map, kl]
  exact Nat.le_trans (List.length_filter_le _ _) (by simp)
theorem plt_inj {B : Bx} {t u : Th} (h1 : OkT B t) (h2 : OkT B u) (e : plt B t = plt B u) : t = u := by
  have e1 : t.1 = u.1 := by rw [← plt_1 B t, ← plt_1 B u, e]
  unfold plt at e
  by_cases q : t.1 = true
  · have q' : u.1 = true := by rw [← e1]; exact q
    obtain ⟨a, ea, ha⟩ := h1 q
    obtain ⟨b, eb, hb⟩ := h2 q'
    rw [if_pos q, if_pos q', ea, eb, Int.toNat_natCast, Int.toNat_natCast] at e
    have := pl_inj ha hb (by injection e with _ e; exact Int.ofNat.inj e)
    subst this
    exact Prod.ext e1 (ea.trans eb.symm)
  · have q' : ¬ u.1 = true := by rw [← e1]; exact q
    rw [if_neg q, if_neg q'] at e; exact e
end
end Mine
end

section
namespace Mine
open PySem PyProof.Rows
noncomputable def enumF : Nat → List V → List (Int × V)
  | _, [] => []
  | i, v :: r => ((i : Int), v) :: enumF (i + 1) r
noncomputable def enumV (vs : List V) : List (Int × V) := enumF 0 vs
theorem enumF_length : ∀ (i : Nat) (vs : List V), (enumF i vs).length = vs.length
  | _, [] => rfl
  | i, v :: r => by rw [enumF, List.length_cons, List.length_cons, enumF_length]
theorem getK_enumF : ∀ (vs : List V) (i k : Nat), getK (enumF i vs) ((i + k : Nat) : Int) = vs[k]?
  | [], _, _ => rfl
  | v :: r, i, 0 => by simp [enumF, getK]
  | v :: r, i, k + 1 => by
    have h := getK_enumF r (i + 1) k
    rw [show i + 1 + k = i + (k + 1) from by first | with_reducible exact Int.natCast_nonneg _ | with_reducible assumption | lia | omega] at h
    rw [enumF, List.getElem?_cons_succ, ← h]
    unfold getK
    rw [List.find?_cons, decide_eq_false (show ¬ (i : Int) = ((i + (k + 1) : Nat) : Int) from by first | with_reducible exact Int.natCast_nonneg _ | with_reducible assumption | lia | omega)]
theorem getK_enum (vs : List V) (k : Nat) : getK (enumV vs) (k : Int) = vs[k]? := by
  have := getK_enumF vs 0 k
  rw [Nat.zero_add] at this; exact this
theorem enumF_lt : ∀ (vs : List V) (i : Nat), ∀ p ∈ enumF i vs, (i : Int) ≤ p.1
  | [], _, p, h => by cases h
  | v :: r, i, p, h => by
    rcases List.mem_cons.mp h with rfl | h
    · exact Int.le_refl _
    · have := enumF_lt r (i + 1) p h
      first | lia | omega
theorem enumF_snoc : ∀ (vs : List V) (i : Nat) (v : V), enumF i vs ++ [(((i + vs.length : Nat) : Int), v)] = enumF i (vs ++ [v])
  | [], _, _ => rfl
  | u :: r, i, v => by
    rw [List.cons_append, enumF, enumF, List.cons_append, ← enumF_snoc r (i + 1) v, List.length_cons, show i + 1 + r.length = i + (r.length + 1) from by first | with_reducible exact Int.natCast_nonneg _ | with_reducible assumption | lia | omega]
theorem putK_none {kvs : List (Int × V)} {k : Int} (h : getK kvs k = none) (v : V) : putK kvs k v = kvs ++ [(k, v)] := by
  unfold putK
  rw [if_neg]
  unfold getK at h
  rw [Option.map_eq_none_iff, List.find?_eq_none] at h
  rw [List.any_eq_true]
  exact fun ⟨p, hp, e⟩ => h p hp e
theorem putK_new (vs : List V) (v : V) : putK (enumV vs) (vs.length : Int) v = enumV (vs ++ [v]) := by
  rw [putK_none (by rw [getK_enum]; exact List.getElem?_eq_none (Nat.le_refl _))]
  have := enumF_snoc vs 0 v
  rw [Nat.zero_add] at this; exact this
theorem putF_set : ∀ (vs : List V) (i k : Nat) (v : V), (enumF i vs).map (fun p => if p.1 = ((i + k : Nat) : Int) then (p.1, v) else p) = enumF i (vs.set k v)
  | [], _, _, _ => rfl
  | u :: r, i, 0, v => by
    rw [enumF, List.map_cons, List.set_cons_zero, enumF, if_pos (by simp)]
    congr 1
    conv => rhs; rw [← List.map_id (enumF (i + 1) r)]
    apply List.map_congr_left
    intro p hp
    have := enumF_lt r (i + 1) p hp
    rw [if_neg (by first | with_reducible exact Int.natCast_nonneg _ | with_reducible assumption | lia | omega)]; rfl
  | u :: r, i, k + 1, v => by
    have h := putF_set r (i + 1) k v
    rw [show i + 1 + k = i + (k + 1) from by first | with_reducible exact Int.natCast_nonneg _ | with_reducible assumption | lia | omega] at h
    rw [enumF, List.map_cons, List.set_cons_succ, enumF, if_neg (by first | with_reducible exact Int.natCast_nonneg _ | with_reducible assumption | lia | omega), h]
theorem putK_set {vs : List V} {k : Nat} (hk : k < vs.length) (v : V) : putK (enumV vs) (k : Int) v = enumV (vs.set k v) := by
  unfold putK
  rw [if_pos]
  · have := putF_set vs 0 k v
    rw [Nat.zero_add] at this; exact this
  · rw [List.any_eq_true]
    have h := getK_enum vs k
    rw [List.getElem?_eq_getElem hk] at h
    unfold getK at h
    obtain ⟨p, hp, _⟩ := Option.map_eq_some_iff.mp h
    exact ⟨p, List.mem_of_find?_eq_some hp, by simpa using List.find?_some hp⟩
noncomputable def plK (L : List Nat) (B : Bx) (k : Nat) : List (Int × V) := (List.range k).map fun m => ((L.getD m 0 : Int), V.int (pl B m))
theorem plK_succ {L : List Nat} {k i : Nat} (B : Bx) (h : L[k]? = some i) : plK L B (k + 1) = plK L B k ++ [((i : Int), V.int (pl B k))] := by
  rw [plK, List.range_succ, List.map_append, List.map_singleton, getD_l h]; rfl
theorem getK_app (l : List (Int × V)) (i j : Int) (v : V) : getK (l ++ [(j, v)]) i = (getK l i).or (if j = i then some v else none) := by
  unfold getK
  rw [List.find?_append, Option.map_or, List.find?_singleton]
  by_cases q : j = i
  · simp [q]
  · simp [q]
theorem getK_plK {L : List Nat} (nd : L.Nodup) {m i : Nat} (B : Bx) (hm : L[m]? = some i) : ∀ {k}, k ≤ L.length → getK (plK L B k) i = if m < k then some (.int (pl B m)) else none
  | 0, _ => by simp [plK, getK]
  | k + 1, h => by
    have hk : L[k]? = some L[k] := List.getElem?_eq_getElem (by first | with_reducible exact Int.natCast_nonneg _ | with_reducible assumption | lia | omega)
    rw [plK_succ B hk, getK_app, getK_plK nd B hm (by first | with_reducible exact Int.natCast_nonneg _ | with_reducible assumption | lia | omega)]
    by_cases q : m = k
    · subst q
      rw [hm] at hk
      rw [if_neg (by first | with_reducible exact Int.natCast_nonneg _ | with_reducible assumption | lia | omega), if_pos (by rw [← Option.some.inj hk]), if_pos (by first | with_reducible exact Int.natCast_nonneg _ | with_reducible assumption | lia | omega)]; rfl
    · have hne : ¬ ((L[k] : Nat) : Int) = (i : Int) := fun e => by
        have := idx_of nd hk
        rw [Int.ofNat.inj e, idx_of nd hm] at this
        exact q this
      rw [if_neg hne, Option.or_none]
      by_cases q2 : m < k
      · rw [if_pos q2, if_pos (by first | with_reducible exact Int.natCast_nonneg _ | with_reducible assumption | lia | omega)]
      · rw [if_neg q2, if_neg (by first | with_reducible exact Int.natCast_nonneg _ | with_reducible assumption | lia | omega)]
theorem nats_item {l : List Nat} {k : Nat} {x : V} (hx : (natsV l)[k]? = some x) : ∃ i : Nat, l[k]? = some i ∧ x = .int (i : Int) := by
  rw [natsV_get?] at hx
  obtain ⟨i, h1, h2⟩ := Option.map_eq_some_iff.mp hx
  exact ⟨i, h1, h2.symm⟩
theorem at_done {l done rest : List V} {x : V} (e : l = done ++ x :: rest) : l[done.length]? = some x := by rw [e]; simp
theorem Pn.small {L : List Nat} {F : Bx} (hle : pl (bx L F) (bx L F).length ≤ 1000) : L.length ≤ 1000 := by
  have := len_le_pl (bx L F) (Nat.le_refl _)
  rw [bx_len] at this hle; first | with_reducible exact Int.natCast_nonneg _ | with_reducible assumption | lia | omega
theorem Pn.fsmall {L : List Nat} {F : Bx} {k i : Nat} {f : List Th} (hle : pl (bx L F) (bx L F).length ≤ 1000) (hk : L[k]? = some i) (hf : F[i]? = some f) : f.length < 1000 := by
  have := fld_le_pl (bx_get hk hf)
  rw [List.length_map] at this; first | with_reducible exact Int.natCast_nonneg _ | with_reducible assumption | lia | omega
section
variable {cx : Cx} {oa da : Addr} {L : List Nat} {F : Bx} {fl : List V} {H H' H1 K K' : HP} {n : Nat} {a b r : Addr} {o : O} {Q : V → HP → Prop} {v : V} {f : List Th} {t : Th}
theorem ThAt.le (x : LE K K') : ThAt cx K v t → ThAt cx K' v t := fun ⟨b, h1, h2⟩ => ⟨b, h1, lk_of (x _ _ (lk_tup h2))⟩
noncomputable def FldAt (cx : Cx) (K : HP) (v : V) (f : List Th) : Prop := ∃ a ws, v = .ref a ∧ K a = some (.list ws) ∧ All2 (ThAt cx K) ws f
theorem FldAt.le (x : LE K K') : FldAt cx K v f → FldAt cx K' v f := fun ⟨a, ws, h1, h2, h3⟩ => ⟨a, ws, h1, x _ _ h2, h3.imp fun _ _ => ThAt.le x⟩
theorem All2.fle (x : LE K K') (h : All2 (FldAt cx K) fl F) : All2 (FldAt cx K') fl F := h.imp fun _ _ => FldAt.le x
theorem W_fld {i : Nat} (hd : H da = some (.dct (enumV fl))) (hf : All2 (FldAt cx H) fl F) (hi : F[i]? = some f) (h : ∀ a ws, H a = some (.list ws) → All2 (ThAt cx H) ws f → Q (.ref a) H) : dsubP (.ref da) (.int (i : Nat)) H Q := by
  obtain ⟨v, hv, a, ws, rfl, h1, h2⟩ := hf.get' hi
  exact W_dsub hd (by rw [getK_enum]; exact hv) (h a ws h1 h2)
theorem W_flen {i : Nat} (hd : H da = some (.dct (enumV fl))) (hf : All2 (FldAt cx H) fl F) (hi : F[i]? = some f) (hs : f.length ≤ 1000) (h : Q (.int f.length) H) : dsubP (.ref da) (.int (i : Nat)) H fun v H => callbP cx .len [v] H Q :=
  W_fld hd hf hi fun a ws h1 h2 => W_len (sq_l (lk_of h1)) (by rw [h2.1]; first | with_reducible exact Int.natCast_nonneg _ | with_reducible assumption | lia | omega) (by rw [h2.1]; exact h)
theorem W_plc {pa m i : Nat} {B : Bx} (nd : L.Nodup) (hp : H pa = some (.dct (plK L B L.length))) (hm : L[m]? = some i) (h : Q (.int (pl B m)) H) : dsubP (.ref pa) (.int (i : Nat)) H Q :=
  W_dsub hp (by rw [getK_plK nd B hm (Nat.le_refl _), if_pos (List.getElem?_eq_some_iff.mp hm).1]) h
noncomputable def m_law_places_of : MSs :=
  (.cons (.assign 2 .dnil)
  (.cons (.assign 3 (.cint (0)))
  (.cons (.for_ 4 (.loc 0) (.cons (.setD (.loc 2) (.loc 4) (.loc 3))
    (.cons (.assign 3 (.bin .Add (.bin .Add (.loc 3) (.cint (1))) (.callb .len (.cons (.dsub (.loc 1) (.loc 4)) .nil))))
    .nil)))
  (.cons (.ret (.loc 2))
  .nil))))
noncomputable def m_law_thing : MSs :=
  (.cons (.ite (.cmp (.bin .Mod (.loc 0) (.cint (3))) .Eq (.cint (0))) (.cons (.ret (.tup (.cons (.cstr (Str.ofString "number")) (.cons (.callf 326 (.cons (.bin .FloorDiv (.loc 0) (.cint (3))) .nil)) .nil))))
    .nil) .nil)
  (.cons (.ret (.tup (.cons (.cstr (Str.ofString "box")) (.cons (.sub (.loc 1) (.bin .Mod (.bin .FloorDiv (.loc 0) (.cint (3))) (.callb .len (.cons (.loc 1) .nil)))) .nil))))
  .nil))
noncomputable def m_law_handed : MSs :=
  (.cons (.ite (.cmp (.sub (.loc 0) (.cint (0))) .Eq (.cstr (Str.ofString "number"))) (.cons (.ret (.loc 0))
    .nil) .nil)
  (.cons (.ret (.tup (.cons (.cstr (Str.ofString "box")) (.cons (.dsub (.loc 1) (.sub (.loc 0) (.cint (1)))) .nil))))
  .nil))
noncomputable def m_law_many : MSs :=
  (.cons (.ite (.bop .And (.cons (.cmp (.bin .Mod (.loc 0) (.cint (8))) .Eq (.cint (7))) (.cons (.cmp (.bin .Mod (.bin .FloorDiv (.loc 1) (.cint (30))) (.cint (6))) .Eq (.cint (1))) .nil))) (.cons (.ret (.bin .Mod (.loc 1) (.cint (390))))
    .nil) .nil)
  (.cons (.ite (.cmp (.bin .Mod (.loc 0) (.cint (8))) .Eq (.cint (7))) (.cons (.ret (.bin .Mod (.loc 1) (.cint (30))))
    .nil) .nil)
  (.cons (.ret (.bin .Mod (.loc 1) (.cint (5))))
  .nil)))
theorem placesof_ms (ho : H oa = some (.list (natsV L))) (hd : H da = some (.dct (enumV fl))) (hf : All2 (FldAt cx H) fl F) (P : Pn L F) (hle : pl (bx L F) (bx L F).length ≤ 1000)
    (hQ : ∀ r H', Ext cx H H' → H r = none → H' r = some (.dct (plK L (bx L F) L.length)) → Q (.ref r) H') :
    mwpSs cx n m_law_places_of [.ref oa, .ref da, .unb, .unb, .unb] H (NQ Q) (RQ Q) := by
  have hLl := Pn.small hle
  refine S_cons ?_
  walk_at "st"
  refine new_abs fun r H1 x0 hr e1 => S_cons ?_
  walk_at "st"
  refine S_cons ?_
  walk_at "st"
  refine W_iter (lk_of (x0.le _ _ ho)) (by first | exact nmil (by with_reducible assumption) | (rw [natsV_length]; first | lia | omega)) ⟨fun done μ H' => ∃ z, μ = [.ref oa, .ref da, .ref r, .int (pl (bx L F) done.length), z] ∧ Ext cx H H' ∧ H' r = some (.dct (plK L (bx L F) done.length)), ⟨_, by rw [List.length_nil, pl_zero]; rfl, x0, e1⟩, ?_, ?_, ?_⟩
  · rintro _ _ _ ⟨_, _, x, _⟩; exact lk_of (x.le _ _ ho)
  · rintro done x rest μ H1 e ⟨z, rfl, x1, hr1⟩
    obtain ⟨i, hk, rfl⟩ := nats_item (at_done e)
    obtain ⟨f, hfi⟩ := P.at_ hk
    have hkl := (List.getElem?_eq_some_iff.mp hk).1
    have hl1 : (done ++ [V.int (i : Int)]).length = done.length + 1 := by rw [List.length_append]; rfl
    generalize done.length = k at hk hr1 hkl hl1
    refine S_cons ?_
    walk_at "st"
    refine W_setD hr1 (by simp [plK]; first | with_reducible exact Int.natCast_nonneg _ | with_reducible assumption | lia | omega) (S_cons ?_)
    rw [putK_none (by rw [getK_plK P.nd _ hk (by first | with_reducible exact Int.natCast_nonneg _ | with_reducible assumption | lia | omega), if_neg (by first | with_reducible exact Int.natCast_nonneg _ | with_reducible assumption | lia | omega)]), ← plK_succ _ hk]
    have x2 := x1.upd hr.1 hr.2.2 (.dct (plK L (bx L F) (k + 1)))
    walk_at "st"
    refine W_flen (x2.le _ _ hd) (hf.fle x2.le) hfi (Nat.le_of_lt (Pn.fsmall hle hk hfi)) ?_
    walk_at "st"
    refine S_nil ⟨_, LE.refl _, .int (i : Int), ?_, x2, by rw [hl1]; exact upd_same _ _ _⟩
    rw [hl1, bx_pl_succ hk hfi, show (pl (bx L F) k : Int) + 1 + (f.length : Int) = ((pl (bx L F) k + 1 + f.length : Nat) : Int) from by first | with_reducible exact Int.natCast_nonneg _ | with_reducible assumption | lia | omega]
  · rintro μ H1 ⟨z, rfl, x1, hr1⟩
    rw [natsV_length] at hr1
    refine S_cons ?_
    walk_at "st"
    exact RQ.here (hQ r H1 x1 hr.1 hr1)
noncomputable def PlacesOfSpec (cx : Cx) (n : Nat) : Prop := ∀ (oa da : Addr) (fl : List V) (L : List Nat) (F : Bx) (H : HP) (Q : V → HP → Prop), H oa = some (.list (natsV L)) → H da = some (.dct (enumV fl)) → All2 (FldAt cx H) fl F → Pn L F → pl (bx L F) (bx L F).length ≤ 1000 →
  (∀ r H', Ext cx H H' → H r = none → H' r = some (.dct (plK L (bx L F) L.length)) → Q (.ref r) H') → CallP cx n 333 [.ref oa, .ref da] H Q
theorem thing_ms {seed : Int} (hn : NumSpec cx n) (ho : H oa = some (.list (natsV L))) (hL : 0 < L.length) (hL2 : L.length ≤ 1000) (h0 : 0 ≤ seed) (h1 : seed < 1000000)
    (hQ : ∀ t tb H', OkL L t → Ext cx H H' → H' tb = some (.tup (thV t)) → Q (.ref tb) H') :
    mwpSs cx n m_law_thing [.int seed, .ref oa] H (NQ Q) (RQ Q) := by
  refine S_cons ?_
  walk_at "st"
  refine ⟨by decide, ?_⟩
  rw [eqv_int]
  refine ifB_of (fun _ => S_cons ?_) fun _ => S_nil (S_cons ?_)
  · walk_at "st"
    refine ⟨by decide, hn _ _ _ (intBits_fdiv_le (lbits h0 h1)) fun v => ⟨show 2 ≤ 16777216 by decide, new_abs fun tb H1 x1 _ e1 => RQ.here (hQ (false, v) tb _ (fun q => by cases q) x1 e1)⟩⟩
  · walk_at "st"
    refine ⟨by decide, W_len (sq_l (lk_of ho)) (by first | exact nmil (by with_reducible assumption) | (rw [natsV_length]; first | lia | omega)) ?_⟩
    rw [natsV_length]
    walk_at "st"
    obtain ⟨b1, b2⟩ := fmod_pos_bounds (seed.fdiv 3) (b := (L.length : Int)) (by first | with_reducible exact Int.natCast_nonneg _ | with_reducible assumption | lia | omega)
    have hi : L[((seed.fdiv 3).fmod (L.length : Int)).toNat]? = some _ := List.getElem?_eq_getElem (show ((seed.fdiv 3).fmod (L.length : Int)).toNat < L.length by first | with_reducible exact Int.natCast_nonneg _ | with_reducible assumption | lia | omega)
    refine ⟨by first | with_reducible exact Int.natCast_nonneg _ | with_reducible assumption | lia | omega, W_sub (sq_l (lk_of ho)) b1 (by first | exact nmil (by with_reducible assumption) | (rw [natsV_length]; first | lia | omega)) (by rw [natsV_get?, hi]; rfl) ⟨show 2 ≤ 16777216 by decide, new_abs fun tb H1 x1 _ e1 => RQ.here (hQ (true, _) tb _ (fun _ => ⟨_, List.mem_of_getElem? hi, rfl⟩) x1 e1)⟩⟩
noncomputable def ThingSpec (cx : Cx) (n : Nat) : Prop := ∀ (oa : Addr) (L : List Nat) (seed : Int) (H : HP) (Q : V → HP → Prop), H oa = some (.list (natsV L)) → 0 < L.length → L.length ≤ 1000 → 0 ≤ seed → seed < 1000000 →
  (∀ t tb H', OkL L t → Ext cx H H' → H' tb = some (.tup (thV t)) → Q (.ref tb) H') → CallP cx n 347 [.int seed, .ref oa] H Q
theorem handed_ms {pa : Addr} {B : Bx} (nd : L.Nodup) (hv : ThAt cx H v t) (hp : H pa = some (.dct (plK L B L.length))) (hok : OkL L t) (hQ : ∀ v H', Ext cx H H' → ThAt cx H' v (plt B (renT L t)) → Q v H') :
    mwpSs cx n m_law_handed [v, .ref pa] H (NQ Q) (RQ Q) := by
  obtain ⟨b, rfl, hb⟩ := hv
  refine S_cons ?_
  walk_at "st"
  refine W_t0 hb (onO_of (eqs (rd_str (ths_ok t) _) ok_number) ?_)
  rw [eqv_str, ths_n]
  refine ifB_of (fun q => S_cons ?_) fun q => S_nil (S_cons ?_)
  · have q' : ¬ t.1 = true := by simpa using q
    walk_at "st"
    refine RQ.here (hQ _ _ (Ext.refl _ _) ⟨b, rfl, ?_⟩)
    rw [hb, renT, if_neg q', plt, if_neg q']
  · have q' : t.1 = true := by simpa using q
    obtain ⟨j, hj, e⟩ := hok q'
    walk_at "st"
    refine W_t1 hb ?_
    rw [e]
    refine W_plc nd hp (idx_get hj) ⟨show 2 ≤ 16777216 by decide, new_abs fun tb H1 x1 _ e1 => RQ.here (hQ _ _ x1 ⟨tb, rfl, lk_of ?_⟩)⟩
    rw [e1, thV, plt_1, renT, if_pos q', plt, if_pos rfl, if_pos rfl, e, Int.toNat_natCast, Int.toNat_natCast]
noncomputable def HandedSpec (cx : Cx) (n : Nat) : Prop := ∀ (pa : Addr) (L : List Nat) (B : Bx) (v : V) (t : Th) (H : HP) (Q : V → HP → Prop), L.Nodup → ThAt cx H v t → H pa = some (.dct (plK L B L.length)) → OkL L t → (∀ v H', Ext cx H H' → ThAt cx H' v (plt B (renT L t)) → Q v H') → CallP cx n 354 [v, .ref pa] H Q
theorem many_ms {cell seed : Int} (hQ : ∀ m : Nat, m < 390 → Q (.int m) H) : mwpSs cx n m_law_many [.int cell, .int seed] H (NQ Q) (RQ Q) := by
  have fin : ∀ (b : Int), 0 < b → b ≤ 390 → RQ Q (.int (seed.fmod b)) H := fun b h1 h2 => by
    obtain ⟨b1, b2⟩ := fmod_pos_bounds seed h1
    have := hQ (seed.fmod b).toNat (by first | with_reducible exact Int.natCast_nonneg _ | with_reducible assumption | lia | omega)
    rw [show (((seed.fmod b).toNat : Nat) : Int) = seed.fmod b from by first | with_reducible exact Int.natCast_nonneg _ | with_reducible assumption | lia | omega] at this
    exact RQ.here this
  have rest : mwpSs cx n (.cons (.ite (.cmp (.bin .Mod (.loc 0) (.cint (8))) .Eq (.cint (7))) (.cons (.ret (.bin .Mod (.loc 1) (.cint (30)))) .nil) .nil) (.cons (.ret (.bin .Mod (.loc 1) (.cint (5)))) .nil)) [.int cell, .int seed] H (NQ Q) (RQ Q) := by
    refine S_cons ?_
    walk_at "st"
    refine ⟨by decide, ifB_of (fun _ => S_cons ?_) fun _ => S_nil (S_cons ?_)⟩
    · walk_at "st"
      exact ⟨by decide, fin 30 (by decide) (by decide)⟩
    · walk_at "st"
      exact ⟨by decide, fin 5 (by decide) (by decide)⟩
  refine S_cons ?_
  walk_at "st"
  refine ⟨by decide, ifB_of (fun _ => ⟨by decide, by decide, ifB_of (fun _ => S_cons ?_) fun _ => S_nil rest⟩) fun _ => S_nil rest⟩
  walk_at "st"
  exact ⟨by decide, fin 390 (by decide) (by decide)⟩
noncomputable def ManySpec (cx : Cx) (n : Nat) : Prop := ∀ (cell seed : Int) (H : HP) (Q : V → HP → Prop), (∀ m : Nat, m < 390 → Q (.int m) H) → CallP cx n 366 [.int cell, .int seed] H Q
end
end Mine
end

section
namespace Mine
open PySem PyProof.Rows
section
variable {B : Bx} {M W : List Nat} {ex : Nat → Prop} {k j : Nat}
theorem MK.popf (h : MK B M (k :: W) fun _ => False) : MK B M W (fun i => i = k) ∧ k ∈ M :=
  ⟨⟨h.nd, h.rc, h.z, fun i hi => h.sub i (List.mem_cons_of_mem _ hi), fun i hi hn he => h.cl i hi (fun hm => (List.mem_cons.mp hm).elim he hn) (fun q => q)⟩, h.sub k List.mem_cons_self⟩
theorem MK.snoc (h : MK B M W ex) (hr : Reach B j) (hj : j ∉ M) : MK B (M ++ [j]) (W ++ [j]) ex := by
  refine ⟨?_, fun i hi => ?_, List.mem_append_left _ h.z, fun i hi => ?_, fun i hi hn he f hf t ht => ?_⟩
  · rw [List.nodup_append]
    exact ⟨h.nd, by simp, fun a ha b hb => by rw [List.mem_singleton] at hb; subst hb; exact fun e => hj (e ▸ ha)⟩
  · rcases List.mem_append.mp hi with q | q
    · exact h.rc i q
    · rw [List.mem_singleton.mp q]; exact hr
  · rcases List.mem_append.mp hi with q | q
    · exact List.mem_append_left _ (h.sub i q)
    · exact List.mem_append_right _ q
  · rcases List.mem_append.mp hi with q | q
    · exact List.mem_append_left _ (h.cl i q (fun q => hn (List.mem_append_left _ q)) he f hf t ht)
    · exact absurd (List.mem_append_right _ q) hn
end
theorem mem_found {L M : List Nat} (nd : L.Nodup) (hM : ∀ m ∈ M, m < L.length) {k i : Nat} (hk : L[k]? = some i) : (i : Int) ∈ (M.map fun m => L.getD m 0).map (fun k : Nat => (k : Int)) ↔ k ∈ M := by
  rw [List.map_map, List.mem_map]
  constructor
  · rintro ⟨m, hm, e⟩
    have e : ((L.getD m 0 : Nat) : Int) = (i : Int) := e
    have hm' := hM m hm
    have hml : L[m]? = some L[m] := List.getElem?_eq_getElem hm'
    rw [getD_l hml] at e
    rw [Int.ofNat.inj e] at hml
    rw [← idx_of nd hk, idx_of nd hml]; exact hm
  · intro q
    exact ⟨k, q, by show ((L.getD k 0 : Nat) : Int) = _; rw [getD_l hk]⟩
section
variable {cx : Cx} {oa da : Addr} {L : List Nat} {F : Bx} {fl : List V} {H H' H1 K K' : HP} {n : Nat} {a b r : Addr} {o : O} {Q : V → HP → Prop} {v : V} {f : List Th} {t : Th}
noncomputable def m_law_come_to : MSs :=
  (.cons (.assign 2 (.list (.cons (.cint (0)) .nil)))
  (.cons (.forR 3 (.cint (0)) (.callb .len (.cons (.loc 0) .nil)) (.cons (.ite (.cmp (.loc 3) .Lt (.callb .len (.cons (.loc 2) .nil))) (.cons (.for_ 4 (.dsub (.loc 1) (.sub (.loc 2) (.loc 3))) (.cons (.ite (.bop .And (.cons (.cmp (.sub (.loc 4) (.cint (0))) .Eq (.cstr (Str.ofString "box"))) (.cons (.cmp (.sub (.loc 4) (.cint (1))) .NotIn (.loc 2)) .nil))) (.cons (.assign 2 (.bin .Add (.loc 2) (.list (.cons (.sub (.loc 4) (.cint (1))) .nil))))
          .nil) .nil)
        .nil))
      .nil) .nil)
    .nil))
  (.cons (.ret (.comp (.loc 5) (.loc 0) (.cmp (.loc 5) .In (.loc 2))))
  .nil)))
noncomputable abbrev LI1 (cx : Cx) (oa da : Addr) (L : List Nat) (F : Bx) (H : HP) (done μ : List V) (H' : HP) : Prop :=
  ∃ fa M z3 z4, μ = [.ref oa, .ref da, .ref fa, z3, z4] ∧ Ext cx H H' ∧ H' fa = some (.list (natsV (M.map fun m => L.getD m 0))) ∧ MK (bx L F) M (M.drop done.length) (fun _ => False)
noncomputable abbrev LI2 (cx : Cx) (oa da : Addr) (L : List Nat) (F : Bx) (H : HP) (k m : Nat) (f : List Th) (done μ : List V) (H' : HP) : Prop :=
  ∃ fa M z4, μ = [.ref oa, .ref da, .ref fa, .int (k : Int), z4] ∧ Ext cx H H' ∧ H' fa = some (.list (natsV (M.map fun m => L.getD m 0))) ∧ MK (bx L F) M (M.drop (k + 1)) (fun i => i = m) ∧ k + 1 ≤ M.length ∧
    ∀ e t (j : Nat), e < done.length → f[e]? = some t → renT L t = (true, (j : Int)) → j ∈ M
theorem lcome_ms (ho : H oa = some (.list (natsV L))) (hd : H da = some (.dct (enumV fl))) (hf : All2 (FldAt cx H) fl F) (P : Pn L F) (hle : pl (bx L F) (bx L F).length ≤ 1000)
    (hQ : ∀ r H' p, Ext cx H H' → Fresh cx H r → (∀ k, p k = true ↔ Reach (bx L F) k) → H' r = some (.list (natsV (keepL L p))) → Q (.ref r) H') :
    mwpSs cx n m_law_come_to [.ref oa, .ref da, .unb, .unb, .unb] H (NQ Q) (RQ Q) := by
  have hLl := Pn.small hle
  have w := P.wfb
  have hbl := bx_len L F
  have hlt : ∀ {M W : List Nat} {ex : Nat → Prop}, MK (bx L F) M W ex → ∀ m ∈ M, m < L.length := fun K m hm => by rw [← hbl]; exact (K.rc m hm).lt w
  have hln : ∀ {M W : List Nat} {ex : Nat → Prop}, MK (bx L F) M W ex → M.length ≤ L.length := fun K => by rw [← hbl]; exact K.len w
  refine S_cons ?_
  walk_at "st"
  refine ⟨show 1 ≤ 16777216 by decide, new_abs fun fa H1 x1 fr1 e1 => S_cons ?_⟩
  walk_at "st"
  refine W_len (sq_l (lk_of (x1.le _ _ ho))) (by first | exact nmil (by with_reducible assumption) | (rw [natsV_length]; first | lia | omega)) ?_
  rw [natsV_length]
  walk_at "st"
  refine ⟨by decide, by first | with_reducible exact Int.natCast_nonneg _ | with_reducible assumption | lia | omega, LI1 cx oa da L F H, ⟨fa, [0], _, _, rfl, x1, ?_, MK.start⟩, fun _ _ _ _ => trivial, ?_, ?_⟩
  · rw [e1, List.map_singleton, getD_l P.hd]; rfl
  · clear e1 x1 fr1 fa
    rintro done x rest μ H2 e ⟨fa, M, z3, z4, rfl, x1, e1, K⟩
    obtain ⟨rfl, _⟩ := rangeL_get (at_done e)
    rw [Int.zero_add]
    have hMl := hln K
    have hl1 : (done ++ [V.int (done.length : Int)]).length = done.length + 1 := by rw [List.length_append]; rfl
    refine S_cons ?_
    walk_at "st"
    refine W_len (sq_l (lk_of e1)) (by rw [natsV_length, List.length_map]; first | with_reducible exact Int.natCast_nonneg _ | with_reducible assumption | lia | omega) ?_
    rw [natsV_length, List.length_map]
    walk_at "st"
    refine ifB_of (fun q => S_cons ?_) fun q => S_nil (S_nil ⟨_, LE.refl _, fa, M, _, _, rfl, x1, e1, ?_⟩)
    · have hk : done.length < M.length := by have := decide_eq_true_iff.mp q; first | with_reducible exact Int.natCast_nonneg _ | with_reducible assumption | lia | omega
      generalize done.length = k at hk K hl1
      have hm : M[k]? = some M[k] := List.getElem?_eq_getElem hk
      rw [List.drop_eq_getElem_cons hk] at K
      generalize M[k] = m at hm K
      obtain ⟨K, hmM⟩ := K.popf
      have hml := hlt K m hmM
      have hLm : L[m]? = some L[m] := List.getElem?_eq_getElem hml
      have hmr := K.rc m hmM
      generalize L[m] = i at hLm
      obtain ⟨f, hfi⟩ := P.at_ hLm
      have hBm := bx_get hLm hfi
      walk_at "st"
      refine W_sub (sq_l (lk_of e1)) (by first | with_reducible exact Int.natCast_nonneg _ | with_reducible assumption | lia | omega) (by rw [natsV_length, List.length_map]; first | with_reducible exact Int.natCast_nonneg _ | with_reducible assumption | lia | omega) (v := .int (i : Int)) (by rw [natsV_get?, Int.toNat_natCast, List.getElem?_map, hm, Option.map_some, Option.map_some, getD_l hLm]) ?_
      obtain ⟨v, hv, a, ws, rfl, ha, hws⟩ := hf.get' hfi
      refine W_dsub (x1.le _ _ hd) (by rw [getK_enum]; exact hv) ?_
      have hwl : ws.length ≤ 1000 := by rw [hws.1]; exact Nat.le_of_lt (Pn.fsmall hle hLm hfi)
      refine W_iter (lk_of (x1.le _ _ ha)) (by first | with_reducible exact Int.natCast_nonneg _ | with_reducible assumption | lia | omega) ⟨LI2 cx oa da L F H k m f, ⟨fa, M, _, rfl, x1, e1, K, by first | with_reducible exact Int.natCast_nonneg _ | with_reducible assumption | lia | omega, fun e t j he => absurd he (by simp)⟩, ?_, ?_, ?_⟩
      · rintro _ _ _ ⟨_, _, _, _, x, _⟩; exact lk_of (x.le _ _ ha)
      · rintro d2 y rest2 μ H3 e2 ⟨fa, M, z4, rfl, x1, e1, K, hk, hall⟩
        obtain ⟨t, ht, b, rfl, hb⟩ := hws.get (at_done e2)
        have hb3 := x1.lk hb
        have hMl := hln K
        have keep : ∀ {M'' : List Nat}, (∀ j ∈ M, j ∈ M'') → (∀ j : Nat, renT L t = (true, (j : Int)) → j ∈ M'') → ∀ e u (j : Nat), e < (d2 ++ [V.ref b]).length → f[e]? = some u → renT L u = (true, (j : Int)) → j ∈ M'' := by
          intro M'' h1 h2 e u j he hu hj
          rw [List.length_append, List.length_singleton] at he
          by_cases q : e = d2.length
          · subst q; rw [ht] at hu; cases hu; exact h2 j hj
          · exact h1 _ (hall e u j (by first | with_reducible exact Int.natCast_nonneg _ | with_reducible assumption | lia | omega) hu hj)
        have stay : (∀ j : Nat, renT L t = (true, (j : Int)) → j ∈ M) → mwpSs cx n .nil [.ref oa, .ref da, .ref fa, .int (k : Int), .ref b] H3 (fun μ HH => mwpSs cx n .nil μ HH (fun μ' H' => ∃ H₃, LE H₃ H' ∧ LI2 cx oa da L F H k m f (d2 ++ [V.ref b]) μ' H₃) (RQ Q)) (RQ Q) := fun q =>
          S_nil (S_nil ⟨H3, LE.refl _, fa, M, _, rfl, x1, e1, K, hk, keep (fun _ q => q) q⟩)
        refine S_cons ?_
        walk_at "st"
        refine W_t0 hb3 (onO_of (eqs (rd_str (ths_ok t) _) ok_box) ?_)
        rw [eqv_str, ths_b]
        refine ifB_of (fun q => ?_) fun q => stay fun j hj => ?_
        · obtain ⟨j, p, ej, hp, hl⟩ := P.link hLm hfi (List.mem_of_getElem? ht) q
          have hrp : renT L t = (true, (p : Int)) := by rw [renT, if_pos q, ej, Int.toNat_natCast, idx_of P.nd hp]
          have hmf := mem_found P.nd (hlt K) hp
          walk_at "st"
          refine W_t1 hb3 ?_
          rw [ej]
          refine onO_of (ni_ints (lk_of e1)) (ifB_of (fun q2 => S_cons ?_) fun q2 => stay fun j' hj => ?_)
          · have hpM : p ∉ M := fun z => by rw [decide_eq_true (hmf.mpr z)] at q2; cases q2
            have K2 := K.snoc (Reach.step hmr hBm hl) hpM
            walk_at "st"
            refine W_t1 hb3 ⟨show 1 ≤ 16777216 by decide, new_abs fun r1 H4 x4 _ e4 => ?_⟩
            refine W_cat (lst_l (lk_of (x4.le _ _ e1))) (lst_l (lk_of e4)) (by rw [natsV_length, List.length_map]; show M.length + 1 ≤ _; first | with_reducible exact Int.natCast_nonneg _ | with_reducible assumption | lia | omega) (new_abs fun r2 H5 x5 _ e5 => ?_)
            refine S_nil (S_nil ⟨H5, LE.refl _, r2, M ++ [p], _, rfl, x1.trans (x4.trans x5), ?_, ?_, by rw [List.length_append]; first | with_reducible exact Int.natCast_nonneg _ | with_reducible assumption | lia | omega, keep (fun _ q => List.mem_append_left _ q) fun j' hj => ?_⟩)
            · rw [e5, ej, natsV_snoc, List.map_append, List.map_singleton, getD_l hp]
            · rw [List.drop_append_of_le_length hk]; exact K2
            · rw [hrp] at hj
              have : p = j' := by injection hj with _ hj; exact Int.ofNat.inj hj
              rw [this]; exact List.mem_append_right _ (List.mem_singleton.mpr rfl)
          · rw [hrp] at hj
            have : p = j' := by injection hj with _ hj; exact Int.ofNat.inj hj
            rw [← this]
            exact hmf.mp (of_decide_eq_true (by simpa using q2))
        · rw [renT, if_neg (by rw [q]; simp)] at hj
          rw [hj] at q; cases q
      · rintro μ H3 ⟨fa, M, z4, rfl, x1, e1, K, hk, hall⟩
        refine S_nil (S_nil ⟨H3, LE.refl _, fa, M, _, _, rfl, x1, e1, ?_⟩)
        rw [hl1]
        refine K.fin ?_
        intro f' hf' j hj
        rw [hBm] at hf'; cases hf'
        obtain ⟨t, ht, hj⟩ := List.mem_map.mp hj
        obtain ⟨e, he⟩ := List.getElem?_of_mem ht
        refine hall e t j ?_ he hj
        rw [hws.1]
        exact (List.getElem?_eq_some_iff.mp he).1
    · have hk : M.length ≤ done.length := by have := decide_eq_false_iff_not.mp q; first | with_reducible exact Int.natCast_nonneg _ | with_reducible assumption | lia | omega
      rw [hl1, List.drop_of_length_le (by first | with_reducible exact Int.natCast_nonneg _ | with_reducible assumption | lia | omega)]
      rw [List.drop_of_length_le hk] at K
      exact K
  · clear e1 x1 fr1 fa
    rintro μ H2 ⟨fa, M, z3, z4, rfl, x1, e1, K⟩
    have hMl := hln K
    rw [rangeL_len, List.drop_of_length_le (by first | with_reducible exact Int.natCast_nonneg _ | with_reducible assumption | lia | omega)] at K
    refine S_cons ?_
    walk_at "st"
    have ho2 := x1.le _ _ ho
    refine W_iter (lk_of ho2) (by first | exact nmil (by with_reducible assumption) | (rw [natsV_length]; first | lia | omega)) (C_same (by first | exact nmil (by with_reducible assumption) | (rw [natsV_length]; first | lia | omega)) (lk_of ho2) (fun k => natsV ((kl (fun k => decide (k ∈ M)) k).map fun m => L.getD m 0)) rfl ?_ ?_)
    · intro k x KK hx hK
      obtain ⟨i, hi, rfl⟩ := nats_item hx
      have hmf := mem_found P.nd (hlt K) hi
      walk_at "st"
      refine onO_of (in_ints (lk_of e1)) ?_
      rw [decide_eq_decide.mpr hmf]
      have g := fun (c : Bool) (e : decide (k ∈ M) = c) => hK (if c then some (V.int (i : Int)) else none) (by
        rw [kl_succ, List.map_append, show decide (k ∈ M) = c from e, ← nats_if]
        congr 2
        cases c
        · rfl
        · show [L.getD k 0] = [i]
          rw [getD_l hi])
      exact ifB_of (fun q => g true q) fun q => g false q
    · rw [natsV_length]
      intro r hr
      exact RQ.here (hQ r _ (fun k => decide (k ∈ M)) (x1.new' hr _) (x1.fresh hr) (fun k => by rw [decide_eq_true_iff]; exact K.done k) (upd_same _ _ _))
noncomputable def LComeSpec (cx : Cx) (n : Nat) : Prop := ∀ (oa da : Addr) (fl : List V) (L : List Nat) (F : Bx) (H : HP) (Q : V → HP → Prop), H oa = some (.list (natsV L)) → H da = some (.dct (enumV fl)) → All2 (FldAt cx H) fl F → Pn L F → pl (bx L F) (bx L F).length ≤ 1000 →
  (∀ r H' p, Ext cx H H' → Fresh cx H r → (∀ k, p k = true ↔ Reach (bx L F) k) → H' r = some (.list (natsV (keepL L p))) → Q (.ref r) H') → CallP cx n 359 [.ref oa, .ref da] H Q
end
end Mine
end

section
namespace Mine
open PySem PyProof.Rows
theorem rowOf_take {B : Bx} {g : Nat → Nat} {k : Nat} {f : List Th} (h : B[k]? = some f) : rowOf g (B.take (k + 1)) = rowOf g (B.take k) ++ cellsOf g f := by
  rw [List.take_add_one, h, rowOf_append]
  simp [rowOf]
theorem rowOf_take_len {B : Bx} {g : Nat → Nat} {k : Nat} (h : k ≤ B.length) : (rowOf g (B.take k)).length = pl B k := by
  rw [rowOf_length, List.length_take, Nat.min_eq_left h, pl, pl, List.take_take, Nat.min_self]
theorem ints_snoc (xs : List Int) (i : Int) : intsV xs ++ [.int i] = intsV (xs ++ [i]) := by simp [intsV]
section
variable {cx : Cx} {oa da : Addr} {N : Nat} {L : List Nat} {F : Bx} {fl : List V} {H H' H1 K K' : HP} {n : Nat} {a b r : Addr} {o : O} {Q : V → HP → Prop} {v : V} {f : List Th} {t : Th} {xs : List Int}
noncomputable def m_law_cells_of : MSs :=
  (.cons (.assign 3 (.callf 333 (.cons (.loc 0) (.cons (.loc 1) .nil))))
  (.cons (.assign 4 (.list .nil))
  (.cons (.for_ 5 (.loc 0) (.cons (.expr (.app false (.loc 4) (.bin .Mult (.cint (4)) (.callb .len (.cons (.dsub (.loc 1) (.loc 5)) .nil)))))
    (.cons (.for_ 6 (.dsub (.loc 1) (.loc 5)) (.cons (.ite (.cmp (.sub (.loc 6) (.cint (0))) .Eq (.cstr (Str.ofString "number"))) (.cons (.expr (.app false (.loc 4) (.bin .Mult (.cint (2)) (.sub (.loc 6) (.cint (1))))))
        .nil) (.cons (.expr (.app false (.loc 4) (.bin .Add (.bin .Mult (.cint (2)) (.dsub (.loc 3) (.sub (.loc 6) (.cint (1))))) (.cint (1)))))
        .nil))
      .nil))
    .nil)))
  (.cons (.ret (.bin .Add (.loc 4) (.bin .Mult (.list (.cons (.cint (0)) .nil)) (.bin .Sub (.loc 2) (.callb .len (.cons (.loc 4) .nil))))))
  .nil))))
theorem W_appI {i : Int} (h : H a = some (.list (intsV xs))) (hl : xs.length ≤ 1000) (q : Q .none (upd H a (.list (intsV (xs ++ [i]))))) : appP cx false (.ref a) (.int i) H Q :=
  W_app h (by first | exact imil (by with_reducible assumption) | (rw [ints_length]; first | lia | omega)) (by rw [ints_snoc]; exact q)
noncomputable abbrev CeI (cx : Cx) (oa da pr r : Addr) (N : Nat) (B : Bx) (H : HP) (done μ : List V) (H' : HP) : Prop :=
  ∃ z5 z6, μ = [.ref oa, .ref da, .int N, .ref pr, .ref r, z5, z6] ∧ Ext cx H H' ∧ H' r = some (.list (intsV (rowOf (pl B) (B.take done.length))))
noncomputable abbrev CeJ (cx : Cx) (oa da pr r : Addr) (N : Nat) (B : Bx) (H : HP) (z : V) (xs : List Int) (f : List Th) (done μ : List V) (H' : HP) : Prop :=
  ∃ z6, μ = [.ref oa, .ref da, .int N, .ref pr, .ref r, z, z6] ∧ Ext cx H H' ∧ H' r = some (.list (intsV (xs ++ (f.take done.length).map (word (pl B)))))
theorem cellsof_ms (hpo : PlacesOfSpec cx n) (ho : H oa = some (.list (natsV L))) (hd : H da = some (.dct (enumV fl))) (hf : All2 (FldAt cx H) fl F) (P : Pn L F) (hle : pl (bx L F) (bx L F).length ≤ N) (hN : N ≤ 400)
    (hQ : ∀ r H', Ext cx H H' → H' r = some (.list (intsV (rowN N (bx L F)))) → Q (.ref r) H') :
    mwpSs cx n m_law_cells_of [.ref oa, .ref da, .int N, .unb, .unb, .unb, .unb] H (NQ Q) (RQ Q) := by
  have hle1 : pl (bx L F) (bx L F).length ≤ 1000 := by first | with_reducible exact Int.natCast_nonneg _ | with_reducible assumption | lia | omega
  have hLl := Pn.small hle1
  have hbl := bx_len L F
  refine S_cons ?_
  walk_at "st"
  refine hpo _ _ _ L F _ _ ho hd hf P hle1 fun pr H1 x1 _ hpr => S_cons ?_
  replace ho := x1.le _ _ ho
  replace hd := x1.le _ _ hd
  replace hf := hf.fle x1.le
  replace hQ := fun r H' x => hQ r H' (x1.trans x)
  clear x1
  walk_at "st"
  refine ⟨Nat.zero_le _, new_abs fun r H2 x2 hr e2 => S_cons ?_⟩
  walk_at "st"
  refine W_iter (lk_of (x2.le _ _ ho)) (by first | exact nmil (by with_reducible assumption) | (rw [natsV_length]; first | lia | omega)) ⟨CeI cx oa da pr r N (bx L F) H1, ⟨_, _, rfl, x2, e2⟩, ?_, ?_, ?_⟩
  · rintro _ _ _ ⟨_, _, _, x, _⟩; exact lk_of (x.le _ _ ho)
  · clear e2 x2
    rintro done x rest μ H2 e ⟨z5, z6, rfl, x2, hr2⟩
    obtain ⟨i, hk, rfl⟩ := nats_item (at_done e)
    obtain ⟨f, hfi⟩ := P.at_ hk
    have hl1 : (done ++ [V.int (i : Int)]).length = done.length + 1 := by rw [List.length_append]; rfl
    have hkl := (List.getElem?_eq_some_iff.mp hk).1
    generalize done.length = k at hk hr2 hkl hl1
    have hBk := bx_get hk hfi
    have hrl := rowOf_take_len (B := bx L F) (g := pl (bx L F)) (show k ≤ (bx L F).length by first | with_reducible exact Int.natCast_nonneg _ | with_reducible assumption | lia | omega)
    have hpk := pl_mono (B := bx L F) (show k + 1 ≤ (bx L F).length by first | with_reducible exact Int.natCast_nonneg _ | with_reducible assumption | lia | omega)
    have hps := bx_pl_succ hk hfi
    have hfs := Pn.fsmall hle1 hk hfi
    have hrt := rowOf_take (g := pl (bx L F)) hBk
    generalize rowOf (pl (bx L F)) ((bx L F).take k) = xs at hr2 hrl hrt
    refine S_cons ?_
    walk_at "st"
    refine ⟨W_la hr2, W_flen (x2.le _ _ hd) (hf.fle x2.le) hfi (by first | with_reducible exact Int.natCast_nonneg _ | with_reducible assumption | lia | omega) ?_⟩
    walk_at "st"
    refine ⟨mulOk_l (by decide), W_appI hr2 (by first | with_reducible exact Int.natCast_nonneg _ | with_reducible assumption | lia | omega) (S_cons ?_)⟩
    have x3 := x2.upd hr.1 hr.2.2 (.list (intsV (xs ++ [4 * (f.length : Int)])))
    have hr3 : (upd H2 r (.list (intsV (xs ++ [4 * (f.length : Int)])))) r = some (.list (intsV (xs ++ [4 * (f.length : Int)]))) := upd_same _ _ _
    generalize upd H2 r (.list (intsV (xs ++ [4 * (f.length : Int)]))) = H3 at x3 hr3
    clear hr2 x2
    walk_at "st"
    obtain ⟨v, hv, a, ws, rfl, ha, hws⟩ := hf.get' hfi
    refine W_dsub (x3.le _ _ hd) (by rw [getK_enum]; exact hv) ?_
    have hwl := hws.1
    refine W_iter (lk_of (x3.le _ _ ha)) (by first | with_reducible exact Int.natCast_nonneg _ | with_reducible assumption | lia | omega) ⟨CeJ cx oa da pr r N (bx L F) H1 (.int (i : Int)) (xs ++ [4 * (f.length : Int)]) (f.map (renT L)), ⟨_, rfl, x3, by rw [List.length_nil, List.take_zero, List.map_nil, List.append_nil]; exact hr3⟩, ?_, ?_, ?_⟩
    · rintro _ _ _ ⟨_, _, x, _⟩; exact lk_of (x.le _ _ ha)
    · clear x3 hr3
      rintro d2 y rest2 μ H4 e2 ⟨z6, rfl, x4, hr4⟩
      obtain ⟨t, ht, b, rfl, hb⟩ := hws.get (at_done e2)
      have htl := (List.getElem?_eq_some_iff.mp ht).1
      have hb4 := x4.lk hb
      have hlr : (xs ++ [4 * (f.length : Int)] ++ ((f.map (renT L)).take d2.length).map (word (pl (bx L F)))).length ≤ 1000 := by
        simp only [List.length_append, List.length_cons, List.length_map, List.length_take, List.length_nil]; first | with_reducible exact Int.natCast_nonneg _ | with_reducible assumption | lia | omega
      have fin : ∀ w : Int, w = word (pl (bx L F)) (renT L t) → mwpSs cx n .nil [.ref oa, .ref da, .int N, .ref pr, .ref r, .int (i : Int), .ref b] (upd H4 r (.list (intsV (xs ++ [4 * (f.length : Int)] ++ ((f.map (renT L)).take d2.length).map (word (pl (bx L F))) ++ [w])))) (fun μ H => mwpSs cx n .nil μ H (fun μ' H' => ∃ H₃, LE H₃ H' ∧ CeJ cx oa da pr r N (bx L F) H1 (.int (i : Int)) (xs ++ [4 * (f.length : Int)]) (f.map (renT L)) (d2 ++ [V.ref b]) μ' H₃) (RQ Q)) (RQ Q) := by
        intro w hw
        refine S_nil (S_nil ⟨_, LE.refl _, _, rfl, x4.upd hr.1 hr.2.2 _, ?_⟩)
        rw [upd_same, List.length_append, List.length_singleton, List.take_add_one, List.getElem?_map, ht, List.map_append, hw, ← List.append_assoc]; rfl
      refine S_cons ?_
      walk_at "st"
      refine W_t0 hb4 (onO_of (eqs (rd_str (ths_ok t) _) ok_number) ?_)
      rw [eqv_str, ths_n]
      refine ifB_of (fun q => S_cons ?_) fun q => S_cons ?_
      · have q' : ¬ t.1 = true := by simpa using q
        walk_at "st"
        refine ⟨W_la hr4, W_t1 hb4 ?_⟩
        walk_at "st"
        refine ⟨mulOk_l (by decide), W_appI hr4 hlr (fin _ ?_)⟩
        rw [renT, if_neg q', word, if_neg q']
      · have q' : t.1 = true := by simpa using q
        obtain ⟨j, m, ej, hm, _⟩ := P.link hk hfi (List.mem_of_getElem? ht) q'
        walk_at "st"
        refine ⟨W_la hr4, W_t1 hb4 ?_⟩
        rw [ej]
        refine W_plc P.nd (x4.le _ _ hpr) hm ?_
        walk_at "st"
        refine ⟨mulOk_l (by decide), W_appI hr4 hlr (fin _ ?_)⟩
        rw [renT, if_pos q', word, if_pos rfl, ej, Int.toNat_natCast, Int.toNat_natCast, idx_of P.nd hm]
    · rintro μ H4 ⟨z6, rfl, x4, hr4⟩
      rw [hwl, ← List.length_map (f := renT L), List.take_length] at hr4
      refine S_nil ⟨_, LE.refl _, _, _, rfl, x4, ?_⟩
      rw [hl1, hrt, hr4, cellsOf, List.length_map, List.append_assoc]; rfl
  · clear e2 x2
    rintro μ H2 ⟨z5, z6, rfl, x2, hr2⟩
    rw [natsV_length, ← hbl, List.take_length] at hr2
    have hrl : (rowOf (pl (bx L F)) (bx L F)).length = pl (bx L F) (bx L F).length := rowOf_length _ _
    refine S_cons ?_
    walk_at "st"
    refine ⟨show 1 ≤ 16777216 by decide, new_abs fun r1 H3 x3 _ e3 => ?_⟩
    refine W_len (sq_l (lk_of (x3.le _ _ hr2))) (by first | exact imil (by with_reducible assumption) | (rw [ints_length]; first | lia | omega)) ?_
    rw [ints_length, hrl]
    walk_at "st"
    refine W_rep (lst_l (lk_of e3)) (by first | with_reducible exact Int.natCast_nonneg _ | with_reducible assumption | lia | omega) (by first | with_reducible exact Int.natCast_nonneg _ | with_reducible assumption | lia | omega) (by rw [List.length_singleton]; first | with_reducible exact Int.natCast_nonneg _ | with_reducible assumption | lia | omega) ?_
    rw [rep_zero, show ((N : Int) - (pl (bx L F) (bx L F).length : Int)).toNat = N - pl (bx L F) (bx L F).length from by first | with_reducible exact Int.natCast_nonneg _ | with_reducible assumption | lia | omega]
    refine new_abs fun r2 H4 x4 _ e4 => ?_
    refine W_cat (lst_l (lk_of (x4.le _ _ (x3.le _ _ hr2)))) (lst_l (lk_of e4)) (by rw [ints_length, ints_length, hrl, List.length_replicate]; first | with_reducible exact Int.natCast_nonneg _ | with_reducible assumption | lia | omega) ?_
    rw [ints_append]
    exact new_abs fun r3 H5 x5 _ e5 => RQ.here (hQ r3 H5 (x2.trans (x3.trans (x4.trans x5))) e5)
noncomputable def CellsOfSpec (cx : Cx) (n : Nat) : Prop := ∀ (oa da : Addr) (fl : List V) (L : List Nat) (F : Bx) (N : Nat) (H : HP) (Q : V → HP → Prop), H oa = some (.list (natsV L)) → H da = some (.dct (enumV fl)) → All2 (FldAt cx H) fl F → Pn L F → pl (bx L F) (bx L F).length ≤ N → N ≤ 400 →
  (∀ r H', Ext cx H H' → H' r = some (.list (intsV (rowN N (bx L F)))) → Q (.ref r) H') → CallP cx n 340 [.ref oa, .ref da, .int N] H Q
end
end Mine
end

section
namespace Mine
open PySem PyProof.Rows
theorem nat_sum (l : List Nat) : (l.map fun k : Nat => (k : Int)).sum = (l.sum : Int) := by
  induction l with
  | nil => rfl
  | cons a l ih => simp [ih]
theorem sum_take_le (l : List Nat) (j : Nat) : (l.take j).sum ≤ l.sum := by
  have : (l.take j ++ l.drop j).sum = l.sum := by rw [List.take_append_drop]
  rw [List.sum_append] at this; first | with_reducible exact Int.natCast_nonneg _ | with_reducible assumption | lia | omega
theorem fits_nat {l : List Nat} (h : l.sum ≤ 1000000) : PySem.SumFits (l.map fun k : Nat => (k : Int)) := by
  intro j hj
  rw [List.length_map] at hj
  have h2 := sum_take_le l (j + 1)
  have h3 : l[j] ≤ (l.take (j + 1)).sum := by
    rw [List.take_add_one, List.getElem?_eq_getElem hj, List.sum_append]; simp
  refine ⟨?_, ?_⟩
  · have : (l.map fun k : Nat => (k : Int)).getD j 0 = (l[j] : Int) := by simp [List.getD, hj]
    rw [this]; unfold PySem.InLong; first | with_reducible exact Int.natCast_nonneg _ | with_reducible assumption | lia | omega
  · rw [← List.map_take, nat_sum]; unfold PySem.InLong; first | with_reducible exact Int.natCast_nonneg _ | with_reducible assumption | lia | omega
noncomputable def thD (t : Th) : PyData := .tuple [.str (ths t), .int t.2]
theorem eqv_thD (t : Th) : PyData.eqv (thD t) (thD t) = true := by
  unfold thD
  rw [PyData.eqv, PyData.eqvAll, PyData.eqvAll, PyData.eqvAll]
  simp [PyData.eqv]
structure Ad where
  N : Nat
  rm : Addr
  st : Addr
  sa : Addr
  dx : Addr
  ra : Addr
  oa : Addr
  da : Addr
  fa : Addr
  pa : Addr
noncomputable def Ad.six (A : Ad) : List Addr := [A.dx, A.ra, A.oa, A.da, A.fa, A.pa]
noncomputable def frz (U : List Addr) (H : HP) : HP := fun a => if a ∈ U then none else H a
section
variable {cx : Cx} {H H' H1 K K' : HP} {n : Nat} {a b r : Addr} {o : O} {Q : V → HP → Prop} {v : V} {vs ws : List V} {t : Th} {U : List Addr}
theorem frz_le (U : List Addr) (H : HP) : LE (frz U H) H := fun a o e => by
  unfold frz at e; split at e
  · cases e
  · exact e
theorem frz_at (n : a ∉ U) (h : H a = some o) : frz U H a = some o := by unfold frz; rw [if_neg n]; exact h
theorem frz_in (n : a ∈ U) : frz U H a = none := if_pos n
theorem frz_ge (x : LE K H) (h : ∀ a ∈ U, K a = none) : LE K (frz U H) := fun a o e => frz_at (fun q => by rw [h a q] at e; cases e) (x a o e)
noncomputable def NoTup (U : List Addr) (H : HP) : Prop := ∀ a ∈ U, ∀ vs, H a ≠ some (.tup vs)
theorem frz_th (h : NoTup U H) : ThAt cx H v t → ThAt cx (frz U H) v t := fun ⟨b, h1, h2⟩ => ⟨b, h1, lk_of (frz_at (fun q => h b q _ (lk_tup h2)) (lk_tup h2))⟩
theorem rd_th {m : Nat} (h : ThAt cx H v t) : rdV cx H (m + 1) v = some (thD t) := by
  obtain ⟨b, rfl, hb⟩ := h
  show (match lk cx H b with | some (.list vs) => (vs.mapM (rdV cx H m)).map PyData.list | some (.tup vs) => (vs.mapM (rdV cx H m)).map PyData.tuple | _ => none) = _
  rw [hb]
  show Option.map PyData.tuple (List.mapM (rdV cx H m) [.str (ths t), .int t.2]) = _
  rw [List.mapM_cons, List.mapM_cons, List.mapM_nil, show rdV cx H m (.str (ths t)) = some (.str (ths t)) from by cases m <;> exact if_pos (ths_ok t), show rdV cx H m (.int t.2) = some (.int t.2) from by cases m <;> rfl]; rfl
noncomputable def Items (cx : Cx) (H : HP) (vs : List V) : Prop := ∀ v ∈ vs, (∃ i, v = .int i) ∨ ∃ t, ThAt cx H v t
theorem Items.le (x : LE H H') (h : Items cx H vs) : Items cx H' vs := fun v hv => (h v hv).imp id fun ⟨t, ht⟩ => ⟨t, ht.le x⟩
theorem Items.frz (h : NoTup U H) (hi : Items cx H vs) : Items cx (frz U H) vs := fun v hv => (hi v hv).imp id fun ⟨t, ht⟩ => ⟨t, frz_th h ht⟩
theorem Items.snoc (hi : Items cx H vs) (h : (∃ i, v = .int i) ∨ ∃ t, ThAt cx H v t) : Items cx H (vs ++ [v]) := fun u hu => (List.mem_append.mp hu).elim (hi u) fun q => by rw [List.mem_singleton.mp q]; exact h
theorem items_ints (xs : List Int) : Items cx H (intsV xs) := fun u hu => .inl (by obtain ⟨i, _, rfl⟩ := List.mem_map.mp hu; exact ⟨i, rfl⟩)
theorem items_of {ts : List Th} (h : All2 (ThAt cx H) vs ts) : Items cx H vs := fun v hv => by
  obtain ⟨i, hi⟩ := List.getElem?_of_mem hv
  obtain ⟨t, _, ht⟩ := h.get hi
  exact .inr ⟨t, ht⟩
noncomputable def Same (cx : Cx) (H : HP) (u v : V) : Prop := ∃ d, rdV cx H 2 u = some d ∧ rdV cx H 2 v = some d ∧ PyData.eqv d d = true
theorem Same.th {u : V} (h1 : ThAt cx H u t) (h2 : ThAt cx H v t) : Same cx H u v := ⟨_, rd_th h1, rd_th h2, eqv_thD t⟩
theorem rd_same : ∀ {vs ws : List V}, All2 (Same cx H) vs ws → ∃ ds, vs.mapM (rdV cx H 2) = some ds ∧ ws.mapM (rdV cx H 2) = some ds ∧ PyData.eqvAll ds ds = true
  | [], [], _ => ⟨[], rfl, rfl, rfl⟩
  | [], _ :: _, h => nomatch h.1
  | _ :: _, [], h => nomatch h.1
  | v :: vs, w :: ws, h => by
    obtain ⟨d, h1, h2, h3⟩ := h.2 0 v w rfl rfl
    obtain ⟨ds, g1, g2, g3⟩ := rd_same (vs := vs) (ws := ws) ⟨Nat.succ.inj h.1, fun i u v hu hv => h.2 (i + 1) u v hu hv⟩
    exact ⟨d :: ds, by rw [List.mapM_cons, h1, g1]; rfl, by rw [List.mapM_cons, h2, g2]; rfl, by rw [PyData.eqvAll, h3, g3]; rfl⟩
theorem eq_same (h1 : lk cx H a = some (.list vs)) (h2 : lk cx H b = some (.list ws)) (h : All2 (Same cx H) vs ws) : eqP cx (.ref a) (.ref b) H = some true := by
  obtain ⟨ds, g1, g2, g3⟩ := rd_same h
  have rl : ∀ {a vs}, lk cx H a = some (.list vs) → rdV cx H 3 (.ref a) = (vs.mapM (rdV cx H 2)).map .list := fun {a vs} h => by
    show (match lk cx H a with | some (.list vs) => (vs.mapM (rdV cx H 2)).map PyData.list | some (.tup vs) => (vs.mapM (rdV cx H 2)).map PyData.tuple | _ => none) = _
    rw [h]
  show eqG cx (.ref a) (.ref b) H = _
  unfold eqG
  rw [rl h1, rl h2, g1, g2]
  show some (PyData.eqv (.list ds) (.list ds)) = _
  rw [PyData.eqv, g3]
theorem ne_same (h1 : lk cx H a = some (.list vs)) (h2 : lk cx H b = some (.list ws)) (h : All2 (Same cx H) vs ws) : cmpP cx .NotEq (.ref a) (.ref b) H = some false := by
  show (eqP cx (.ref a) (.ref b) H).map _ = _
  rw [eq_same h1 h2 h]; rfl
theorem same_ths {ts : List Th} (a1 : All2 (ThAt cx H) vs ts) (a2 : All2 (ThAt cx H) ws ts) : All2 (Same cx H) vs ws :=
  ⟨a1.1.trans a2.1.symm, fun i u w hu hw => by
    obtain ⟨t, ht, h1⟩ := a1.get hu
    exact .th h1 (a2.2 i w t hw ht)⟩
theorem same_items (hi : Items cx H vs) : All2 (Same cx H) vs vs :=
  ⟨rfl, fun i u w hu hw => by
    rw [hu] at hw; cases hw
    rcases hi u (List.mem_of_getElem? hu) with ⟨i, rfl⟩ | ⟨t, ht⟩
    · exact ⟨.int i, rfl, rfl, by rw [eqv_int]; simp⟩
    · exact .th ht ht⟩
noncomputable def Pair (cx : Cx) (K : HP) (v : V) : Prop := ∃ b x y vs, v = .ref b ∧ K b = some (.tup [.ref x, .ref y]) ∧ K x = some (.list vs) ∧ K y = some (.list vs) ∧ Items cx K vs
theorem Pair.le (x : LE K K') : Pair cx K v → Pair cx K' v := fun ⟨b, x1, y1, vs, h1, h2, h3, h4, h5⟩ => ⟨b, x1, y1, vs, h1, x _ _ h2, x _ _ h3, x _ _ h4, h5.le x⟩
structure Sh (cx : Cx) (A : Ad) (B : Bx) (L : List Nat) (F : Bx) (nf : Nat) (fl ps : List V) (K H : HP) : Prop where
  R : RoomAt A.N A.rm A.dx A.ra B H
  o : H A.oa = some (.list (natsV L))
  d : H A.da = some (.dct (enumV fl))
  f : H A.fa = some (.list [.int nf])
  p : H A.pa = some (.list ps)
  t : H A.st = some (.tup [.ref A.oa, .ref A.da, .int A.N, .ref A.fa, .ref A.pa])
  s : H A.sa = none
  z : ∃ l, cx.Z A.sa = some l
  le : LE K H
  no : ∀ a ∈ A.six, K a = none
  fd : All2 (FldAt cx K) fl F
  pr : ∀ v ∈ ps, Pair cx K v
  n1 : A.ra ≠ A.oa
  n2 : A.ra ≠ A.fa
  n3 : A.ra ≠ A.pa
  n4 : A.oa ≠ A.fa
  n5 : A.oa ≠ A.pa
  n6 : A.fa ≠ A.pa
end
section
variable {cx : Cx} {A : Ad} {B B' : Bx} {L L' : List Nat} {F F' : Bx} {nf nf' : Nat} {fl fl' ps : List V} {H H' H1 K K' : HP} {n : Nat} {a b r : Addr} {o : O} {Q : V → HP → Prop} {v : V} {vs ws : List V} {t : Th} {U : List Addr}
theorem Sh.ext (S : Sh cx A B L F nf fl ps K H) (x : Ext cx H H') : Sh cx A B L F nf fl ps K H' :=
  { S with R := S.R.ext x.le, o := x.le _ _ S.o, d := x.le _ _ S.d, f := x.le _ _ S.f, p := x.le _ _ S.p, t := x.le _ _ S.t, s := S.z.elim fun l h => x.z _ l h S.s, le := S.le.trans x.le }
theorem Sh.any (S : Sh cx A B L F nf fl ps K H) (x : LE K K') (y : LE K' H) (h : ∀ a ∈ A.six, K' a = none) : Sh cx A B L F nf fl ps K' H := { S with le := y, no := h, fd := S.fd.fle x, pr := fun v hv => (S.pr v hv).le x }
theorem Sh.at_ (S : Sh cx A B L F nf fl ps K H) (h : a ∈ A.six) : ∃ o, H a = some o ∧ ∀ vs, o ≠ .tup vs := by
  unfold Ad.six at h
  simp only [List.mem_cons, List.not_mem_nil, or_false] at h
  rcases h with rfl | rfl | rfl | rfl | rfl | rfl
  · exact ⟨_, S.R.d, nofun⟩
  · exact ⟨_, S.R.r, nofun⟩
  · exact ⟨_, S.o, nofun⟩
  · exact ⟨_, S.d, nofun⟩
  · exact ⟨_, S.f, nofun⟩
  · exact ⟨_, S.p, nofun⟩
theorem Sh.out (S : Sh cx A B L F nf fl ps K H) (h : H r = none) : r ∉ A.six := fun q => by
  obtain ⟨o, e, _⟩ := S.at_ q
  rw [h] at e; cases e
theorem Sh.nt (S : Sh cx A B L F nf fl ps K H) : NoTup A.six H := fun a q vs e => by
  obtain ⟨o, e', h⟩ := S.at_ q
  rw [e] at e'; cases e'; exact h _ rfl
theorem Sh.knone (S : Sh cx A B L F nf fl ps K H) (h : H r = none) : K r = none := by
  cases e : K r with
  | none => rfl
  | some o => have := S.le _ _ e; rw [h] at this; cases this
theorem six_mem {P : Addr → Prop} (h : ∀ a ∈ A.six, P a) : P A.dx ∧ P A.ra ∧ P A.oa ∧ P A.da ∧ P A.fa ∧ P A.pa := by
  unfold Ad.six at h
  exact ⟨h _ (by simp), h _ (by simp), h _ (by simp), h _ (by simp), h _ (by simp), h _ (by simp)⟩
theorem Sh.all (S : Sh cx A B L F nf fl ps K H) (T : List Addr) (hT : ∀ a ∈ T, K a = none) : Sh cx A B L F nf fl ps (frz (T ++ A.six) H) H ∧ LE K (frz (T ++ A.six) H) := by
  have g : LE K (frz (T ++ A.six) H) := frz_ge S.le fun a ha => (List.mem_append.mp ha).elim (hT a) (S.no a)
  exact ⟨S.any g (frz_le _ _) fun a ha => frz_in (List.mem_append_right _ ha), g⟩
theorem Sh.poke (S : Sh cx A B L F nf fl ps K H) (hr : H r = some (.list vs)) (hk : K r = none) (hn : r ∉ A.six) (ws : List V) : Sh cx A B L F nf fl ps K (upd H r (.list ws)) := by
  obtain ⟨m1, m2, m3, m4, m5, m6⟩ := six_mem (P := fun a => a ≠ r) fun a ha e => hn (e ▸ ha)
  refine { S with R := ⟨?_, by rw [upd_ne _ m1]; exact S.R.d, by rw [upd_ne _ m2]; exact S.R.r, S.R.n4, S.R.le, S.R.w⟩, o := by rw [upd_ne _ m3]; exact S.o, d := by rw [upd_ne _ m4]; exact S.d, f := by rw [upd_ne _ m5]; exact S.f, p := by rw [upd_ne _ m6]; exact S.p, t := ?_, s := ?_, le := ?_ }
  · rw [upd_ne _ (fun q => by have := S.R.i; rw [q, hr] at this; cases this)]; exact S.R.i
  · rw [upd_ne _ (fun q => by have := S.t; rw [q, hr] at this; cases this)]; exact S.t
  · rw [upd_ne _ (fun q => by have := S.s; rw [q, hr] at this; cases this)]; exact S.s
  · intro a o e
    rw [upd_ne _ (fun q => by rw [q, hk] at e; cases e)]; exact S.le a o e
theorem Sh.six (S : Sh cx A B L F nf fl ps K H) (h : r ∈ A.six) (o : O) : (upd H r o) A.rm = some (.inst 296 A.dx) ∧ (upd H r o) A.st = some (.tup [.ref A.oa, .ref A.da, .int A.N, .ref A.fa, .ref A.pa]) ∧ (upd H r o) A.sa = none ∧ LE K (upd H r o) := by
  obtain ⟨o', e, hnt⟩ := S.at_ h
  refine ⟨?_, ?_, ?_, fun a o e => ?_⟩
  · rw [upd_ne _ (fun q => ?_)]
    · exact S.R.i
    · unfold Ad.six at h
      have hi := S.R.i
      rw [q] at hi
      simp only [List.mem_cons, List.not_mem_nil, or_false] at h
      rcases h with rfl | rfl | rfl | rfl | rfl | rfl
      · rw [S.R.d] at hi; cases hi
      · rw [S.R.r] at hi; cases hi
      · rw [S.o] at hi; cases hi
      · rw [S.d] at hi; cases hi
      · rw [S.f] at hi; cases hi
      · rw [S.p] at hi; cases hi
  · rw [upd_ne _ (fun q => by rw [← q, S.t] at e; cases e; exact hnt _ rfl)]; exact S.t
  · rw [upd_ne _ (fun q => by rw [← q, S.s] at e; cases e)]; exact S.s
  · rw [upd_ne _ (fun q => by rw [q, S.no _ h] at e; cases e)]; exact S.le a o e
theorem ne_of_obj {o o' : O} (h1 : H a = some o) (h2 : H b = some o') (h : o ≠ o') : a ≠ b := fun q => by
  rw [q, h2] at h1; exact h (Option.some.inj h1).symm
theorem Sh.setO (S : Sh cx A B L F nf fl ps K H) (L' : List Nat) : Sh cx A B L' F nf fl ps K (upd H A.oa (.list (natsV L'))) := by
  obtain ⟨h1, h2, h3, h4⟩ := S.six (r := A.oa) (by simp [Ad.six]) (.list (natsV L'))
  exact { S with R := ⟨h1, by rw [upd_ne _ (ne_of_obj S.R.d S.o nofun)]; exact S.R.d, by rw [upd_ne _ S.n1]; exact S.R.r, S.R.n4, S.R.le, S.R.w⟩, o := upd_same _ _ _, d := by rw [upd_ne _ (ne_of_obj S.d S.o nofun)]; exact S.d, f := by rw [upd_ne _ (Ne.symm S.n4)]; exact S.f, p := by rw [upd_ne _ (Ne.symm S.n5)]; exact S.p, t := h2, s := h3, le := h4 }
theorem Sh.setF (S : Sh cx A B L F nf fl ps K H) (nf' : Nat) : Sh cx A B L F nf' fl ps K (upd H A.fa (.list [.int nf'])) := by
  obtain ⟨h1, h2, h3, h4⟩ := S.six (r := A.fa) (by simp [Ad.six]) (.list [.int nf'])
  exact { S with R := ⟨h1, by rw [upd_ne _ (ne_of_obj S.R.d S.f nofun)]; exact S.R.d, by rw [upd_ne _ S.n2]; exact S.R.r, S.R.n4, S.R.le, S.R.w⟩, o := by rw [upd_ne _ S.n4]; exact S.o, d := by rw [upd_ne _ (ne_of_obj S.d S.f nofun)]; exact S.d, f := upd_same _ _ _, p := by rw [upd_ne _ (Ne.symm S.n6)]; exact S.p, t := h2, s := h3, le := h4 }
theorem Sh.setP (S : Sh cx A B L F nf fl ps K H) (hp : ∀ v ∈ ws, Pair cx K v) : Sh cx A B L F nf fl ws K (upd H A.pa (.list ws)) := by
  obtain ⟨h1, h2, h3, h4⟩ := S.six (r := A.pa) (by simp [Ad.six]) (.list ws)
  exact { S with R := ⟨h1, by rw [upd_ne _ (ne_of_obj S.R.d S.p nofun)]; exact S.R.d, by rw [upd_ne _ S.n3]; exact S.R.r, S.R.n4, S.R.le, S.R.w⟩, o := by rw [upd_ne _ S.n5]; exact S.o, d := by rw [upd_ne _ (ne_of_obj S.d S.p nofun)]; exact S.d, f := by rw [upd_ne _ S.n6]; exact S.f, p := upd_same _ _ _, t := h2, s := h3, le := h4, pr := hp }
theorem Sh.setD (S : Sh cx A B L F nf fl ps K H) (hf : All2 (FldAt cx K) fl' F') : Sh cx A B L F' nf fl' ps K (upd H A.da (.dct (enumV fl'))) := by
  obtain ⟨h1, h2, h3, h4⟩ := S.six (r := A.da) (by simp [Ad.six]) (.dct (enumV fl'))
  exact { S with R := ⟨h1, by rw [upd_ne _ (ne_of_obj S.R.d S.d nofun)]; exact S.R.d, by rw [upd_ne _ (ne_of_obj S.R.r S.d nofun)]; exact S.R.r, S.R.n4, S.R.le, S.R.w⟩, o := by rw [upd_ne _ (ne_of_obj S.o S.d nofun)]; exact S.o, d := upd_same _ _ _, f := by rw [upd_ne _ (ne_of_obj S.f S.d nofun)]; exact S.f, p := by rw [upd_ne _ (ne_of_obj S.p S.d nofun)]; exact S.p, t := h2, s := h3, le := h4, fd := hf }
theorem Sh.room (S : Sh cx A B L F nf fl ps K H) {ra' : Addr} (R : RoomAt A.N A.rm A.dx ra' B' H') (hr : ra' = A.ra ∨ H ra' = none) (hb : ∀ a o, a ≠ A.dx → a ≠ A.ra → H a = some o → H' a = some o) (hz : KZ cx H H') : Sh cx { A with ra := ra' } B' L F nf fl ps K H' := by
  have ne : ∀ {a o}, H a = some o → a ≠ A.ra → ra' ≠ a := fun {a o} e q => hr.elim (fun z => by rw [z]; exact Ne.symm q) fun z q2 => by rw [q2, e] at z; cases z
  have hk : ∀ a o, K a = some o → H' a = some o := fun a o e => hb a o (fun q => by rw [q, S.no _ (by simp [Ad.six])] at e; cases e) (fun q => by rw [q, S.no _ (by simp [Ad.six])] at e; cases e) (S.le _ _ e)
  have ndo := ne_of_obj S.o S.R.d nofun
  have ndp := ne_of_obj S.p S.R.d nofun
  have ndf := ne_of_obj S.f S.R.d nofun
  have h6 : ∀ a ∈ ({ A with ra := ra' } : Ad).six, K a = none := by
    intro a ha
    unfold Ad.six at ha
    simp only [List.mem_cons, List.not_mem_nil, or_false] at ha
    rcases ha with rfl | rfl | rfl | rfl | rfl | rfl
    · exact S.no _ (by simp [Ad.six])
    · exact hr.elim (fun z => by rw [z]; exact S.no _ (by simp [Ad.six])) S.knone
    · exact S.no _ (by simp [Ad.six])
    · exact S.no _ (by simp [Ad.six])
    · exact S.no _ (by simp [Ad.six])
    · exact S.no _ (by simp [Ad.six])
  exact { S with R := R, o := hb _ _ ndo (Ne.symm S.n1) S.o, d := hb _ _ (ne_of_obj S.d S.R.d nofun) (ne_of_obj S.d S.R.r nofun) S.d, f := hb _ _ ndf (Ne.symm S.n2) S.f, p := hb _ _ ndp (Ne.symm S.n3) S.p, t := hb _ _ (ne_of_obj S.t S.R.d nofun) (ne_of_obj S.t S.R.r nofun) S.t, s := S.z.elim fun l h => hz _ l h S.s, le := hk, no := h6, n1 := ne S.o (Ne.symm S.n1), n2 := ne S.f (Ne.symm S.n2), n3 := ne S.p (Ne.symm S.n3) }
theorem Sh.push (S : Sh cx A B L F nf fl ps K H) (T : List Addr) (hT : ∀ a ∈ T, K a = none ∧ ∃ vs, H a = some (.list vs)) {x y : Addr} (hb : H b = some (.tup [.ref x, .ref y])) (hx : H x = some (.list vs)) (hy : H y = some (.list vs)) (nx : x ∉ T ++ A.six) (ny : y ∉ T ++ A.six) (hi : Items cx H vs) :
    Sh cx A B L F nf fl (ps ++ [.ref b]) (frz (T ++ A.six) H) (upd H A.pa (.list (ps ++ [.ref b]))) ∧ LE K (frz (T ++ A.six) H) := by
  obtain ⟨S1, g⟩ := S.all T fun a ha => (hT a ha).1
  have nt : NoTup (T ++ A.six) H := fun a ha vs e => (List.mem_append.mp ha).elim (fun q => by
    obtain ⟨_, ws, hw⟩ := hT a q
    rw [e] at hw; cases hw) fun q => S.nt a q vs e
  refine ⟨S1.setP fun v hv => (List.mem_append.mp hv).elim (S1.pr v) fun q => ?_, g⟩
  rw [List.mem_singleton.mp q]
  exact ⟨b, x, y, vs, rfl, frz_at (fun q => nt b q _ hb) hb, frz_at nx hx, frz_at ny hy, hi.frz nt⟩
theorem Sh.s0 (S : Sh cx A B L F nf fl ps K H) (q : Q (.ref A.oa) H) : subP cx (.ref A.st) (.int 0) H Q := W_sub (sq_t (lk_of S.t)) (by decide) (show 5 ≤ 16777216 by decide) rfl q
theorem Sh.s1 (S : Sh cx A B L F nf fl ps K H) (q : Q (.ref A.da) H) : subP cx (.ref A.st) (.int 1) H Q := W_sub (sq_t (lk_of S.t)) (by decide) (show 5 ≤ 16777216 by decide) rfl q
theorem Sh.s2 (S : Sh cx A B L F nf fl ps K H) (q : Q (.int A.N) H) : subP cx (.ref A.st) (.int 2) H Q := W_sub (sq_t (lk_of S.t)) (by decide) (show 5 ≤ 16777216 by decide) rfl q
theorem Sh.s3 (S : Sh cx A B L F nf fl ps K H) (q : Q (.ref A.fa) H) : subP cx (.ref A.st) (.int 3) H Q := W_sub (sq_t (lk_of S.t)) (by decide) (show 5 ≤ 16777216 by decide) rfl q
theorem Sh.s4 (S : Sh cx A B L F nf fl ps K H) (q : Q (.ref A.pa) H) : subP cx (.ref A.st) (.int 4) H Q := W_sub (sq_t (lk_of S.t)) (by decide) (show 5 ≤ 16777216 by decide) rfl q
theorem Sh.fh (S : Sh cx A B L F nf fl ps K H) : All2 (FldAt cx H) fl F := S.fd.fle S.le
theorem Sh.l4 (S : Sh cx A B L F nf fl ps K H) : pl B B.length ≤ 1000 := by
  have := S.R.le
  have := S.R.n4
  first | lia | omega
end
end Mine
end

section
namespace Mine
open PySem PyProof.Rows
section
variable {cx : Cx} {A : Ad} {B : Bx} {L : List Nat} {F : Bx} {nf : Nat} {fl ps : List V} {H H' H1 K K' : HP} {n : Nat} {a b r pr : Addr} {o : O} {Q : V → HP → Prop} {v : V} {vs ws : List V} {f : List Th} {t : Th} {p : Nat → Bool} {st : HP → Prop} {turn : V → HP → (Option V → HP → Prop) → Prop}
theorem ToldSpec.ok (h : ToldSpec cx n) {N k : Nat} {rm dx ra : Addr} (R : RoomAt N rm dx ra B H) (hk : B[k]? = some f) (hQ : ∀ r vs H', Ext cx H H' → Fresh cx H r → H' r = some (.list vs) → All2 (ThAt cx H') vs (f.map (plt B)) → Q (.ref r) H') : CallP cx n 260 [.ref rm, .int (pl B k)] H Q := by
  have hkl := (List.getElem?_eq_some_iff.mp hk).1
  refine h _ _ _ _ _ _ _ _ R trivial (fun q => (q ⟨_, rfl, mem_plI.mpr ⟨k, hkl, rfl⟩⟩).elim) fun k' f' e hk' r vs H' x1 x2 x3 x4 => ?_
  have hkl' := (List.getElem?_eq_some_iff.mp hk').1
  have : k = k' := pl_inj hkl hkl' (by injection e with e; exact Int.ofNat.inj e)
  subst this
  rw [hk] at hk'; cases hk'
  exact hQ r vs H' x1 x2 x3 x4
theorem C_handed (hh : HandedSpec cx n) (nd : L.Nodup) (hpr : H pr = some (.dct (plK L B L.length))) (hws : All2 (ThAt cx H) ws f) (hok : ∀ t ∈ f, OkL L t) (hl : f.length ≤ 1000) (hst : ∀ H', Ext cx H H' → st H')
    (ht : ∀ b H1 KK, CallP cx n 354 [.ref b, .ref pr] H1 (fun v H2 => KK (some v) H2) → turn (.ref b) H1 KK) (fin : ∀ acc H1, Ext cx H H1 → All2 (ThAt cx H1) acc (f.map fun t => plt B (renT L t)) → new cx H1 (.list acc) Q) : CompP cx ws st H turn Q := by
  refine C_grow (by rw [hws.1]; first | with_reducible exact Int.natCast_nonneg _ | with_reducible assumption | lia | omega) hst (fun k acc H' => All2 (ThAt cx H') acc ((f.take k).map fun t => plt B (renT L t))) All2.nil ?_ fun acc H1 x1 h1 => fin acc H1 x1 ?_
  · intro k x acc H1 KK hx x1 h1 hK
    obtain ⟨t, hkt, b, rfl, hb⟩ := hws.get hx
    refine ht _ _ _ (hh _ L B _ t _ _ nd ⟨b, rfl, x1.lk hb⟩ (x1.le _ _ hpr) (hok t (List.mem_of_getElem? hkt)) fun v H2 x2 hv => hK v H2 x2 ?_)
    rw [List.take_add_one, hkt, List.map_append]
    exact (h1.imp fun _ _ q => q.ext x2).snoc hv
  · rw [hws.1, List.take_length] at h1
    exact h1
theorem W_sum {l : List Nat} (h : lk cx H a = some (.list (natsV l))) (hs : l.sum ≤ 1000000) (q : Q (.int l.sum) H) : callbP cx .sum [.ref a] H Q := onO_of (lst_l h) (onO_of (asInts_ints _) ⟨fits_nat hs, by rw [nat_sum]; exact q⟩)
theorem C_sum (q : Nat → Bool) (P : Pn L F) (hl : L.length ≤ 1000) (hst : st H) (ht : ∀ k i f KK, L[k]? = some i → F[i]? = some f → (∀ c, q k = c → KK (if c then some (.int (1 + (f.length : Int))) else none) H) → turn (.int (i : Nat)) H KK)
    (fin : ∀ r H', Ext cx H H' → H' r = some (.list (natsV (gl L F q L.length))) → Q (.ref r) H') : CompP cx (natsV L) st H turn Q := by
  refine C_same (by first | exact nmil (by with_reducible assumption) | (rw [natsV_length]; first | lia | omega)) hst (fun k => natsV (gl L F q k)) rfl ?_ (by rw [natsV_length]; exact new_abs fun r H' x _ e => fin r H' x e)
  intro k x KK hx hK
  obtain ⟨i, hk, rfl⟩ := nats_item hx
  obtain ⟨f, hf⟩ := P.at_ hk
  refine ht k i f KK hk hf fun c e => hK _ ?_
  rw [gl_succ q hk hf, e, nats_if, show ((1 + f.length : Nat) : Int) = 1 + (f.length : Int) by first | with_reducible exact Int.natCast_nonneg _ | with_reducible assumption | lia | omega]
theorem C_kept (nd : L.Nodup) (hl : L.length ≤ 1000) (hpr : H pr = some (.dct (plK L B L.length))) (hst : st H) (ht : ∀ i KK, dsubP (.ref pr) (.int (i : Nat)) H (fun v H2 => KK (some v) H2) → turn (.int (i : Nat)) H KK)
    (fin : ∀ r H', Ext cx H H' → Fresh cx H r → H' r = some (.list (natsV ((kl p L.length).map (pl B)))) → Q (.ref r) H') : CompP cx (natsV (keepL L p)) st H turn Q := by
  have hkl : (keepL L p).length = (kl p L.length).length := List.length_map _
  have hk2 : (kl p L.length).length ≤ L.length := Nat.le_trans (List.length_filter_le _ _) (by simp)
  refine C_same (by first | exact nmil (by with_reducible assumption) | (rw [natsV_length]; first | lia | omega)) hst (fun k => natsV (((kl p L.length).map (pl B)).take k)) rfl ?_ ?_
  · intro k x KK hx hK
    obtain ⟨i, hk, rfl⟩ := nats_item hx
    rw [keepL, List.getElem?_map] at hk
    obtain ⟨m, hm, e⟩ := Option.map_eq_some_iff.mp hk
    have hml := (kl_mem.mp (List.mem_of_getElem? hm)).1
    have hLm : L[m]? = some L[m] := List.getElem?_eq_getElem hml
    rw [getD_l hLm] at e
    rw [e] at hLm
    refine ht i KK (W_plc nd hpr hLm (hK (some (.int (pl B m))) ?_))
    rw [List.take_add_one, List.getElem?_map, hm, ← natsV_app]; rfl
  · rw [natsV_length, hkl, List.take_of_length_le (by rw [List.length_map]; exact Nat.le_refl _)]
    exact new_abs fun r H' x f e => fin r H' x f e
theorem kl_true (k : Nat) : kl (fun _ => true) k = List.range k := by rw [kl, List.filter_eq_self]; exact fun _ _ => rfl
theorem C_places (nd : L.Nodup) (hl : L.length ≤ 1000) (hb : B.length = L.length) (hpr : H pr = some (.dct (plK L B L.length))) (hst : st H) (ht : ∀ i KK, dsubP (.ref pr) (.int (i : Nat)) H (fun v H2 => KK (some v) H2) → turn (.int (i : Nat)) H KK)
    (fin : ∀ r H', Ext cx H H' → Fresh cx H r → H' r = some (.list (intsV (plI B))) → Q (.ref r) H') : CompP cx (natsV L) st H turn Q := by
  have := C_kept (p := fun _ => true) (cx := cx) (Q := Q) nd hl hpr hst ht
  rw [keep_all fun _ _ => rfl, kl_true, ← hb] at this
  exact this fin
noncomputable def m_law_told : MSs :=
  (.cons (.assign 2 (.callf 333 (.cons (.sub (.loc 1) (.cint (0))) (.cons (.sub (.loc 1) (.cint (1))) .nil))))
  (.cons (.for_ 3 (.sub (.loc 1) (.cint (0))) (.cons (.assign 4 (.comp (.callf 354 (.cons (.loc 7) (.cons (.loc 2) .nil))) (.dsub (.sub (.loc 1) (.cint (1))) (.loc 3)) (.cbool true)))
    (.cons (.assign 5 (.callm 296 (Str.ofString "told") 260 0 (.cons (.dsub (.loc 2) (.loc 3)) .nil)))
    (.cons (.ite (.bop .Or (.cons (.not (.isi (.loc 5) "list")) (.cons (.cmp (.loc 5) .NotEq (.loc 4)) .nil))) (.cons (.ret (.cbool false))
      .nil) .nil)
    (.cons (.for_ 6 (.loc 5) (.cons (.ite (.bop .Or (.cons (.not (.isi (.loc 6) "tuple")) (.cons (.not (.callf 314 (.cons (.sub (.loc 6) (.cint (1))) .nil))) .nil))) (.cons (.ret (.cbool false))
        .nil) .nil)
      .nil))
    (.cons (.expr (.app false (.loc 5) (.cint (3))))
    (.cons (.ite (.cmp (.callm 296 (Str.ofString "told") 260 0 (.cons (.dsub (.loc 2) (.loc 3)) .nil)) .NotEq (.loc 4)) (.cons (.ret (.cbool false))
      .nil) .nil)
    .nil)))))))
  (.cons (.expr (.app false (.sub (.loc 1) (.cint (4))) (.tup (.cons (.loc 5) (.cons (.callb .list (.cons (.loc 5) .nil)) .nil)))))
  (.cons (.ret (.cbool true))
  .nil))))
noncomputable abbrev TI (cx : Cx) (A : Ad) (pr : Addr) (H : HP) (done μ : List V) (H' : HP) : Prop :=
  ∃ z3 z4 z5 z6, μ = [.ref A.rm, .ref A.st, .ref pr, z3, z4, z5, z6] ∧ Ext cx H H' ∧ (0 < done.length → ∃ r vs, z5 = .ref r ∧ H r = none ∧ H' r = some (.list vs) ∧ Items cx H' vs ∧ vs.length ≤ 1001)
theorem ltold_ms (hpo : PlacesOfSpec cx n) (hh : HandedSpec cx n) (htd : ToldSpec cx n) (hi : IntSp cx n) (S : Sh cx A (bx L F) L F nf fl ps K H) (P : Pn L F) (hps : ps.length ≤ 100000)
    (hQ : ∀ v K' H', Sh cx A (bx L F) L F nf fl (ps ++ [v]) K' H' → LE K K' → Q (.bool true) H') :
    mwpSs cx n m_law_told [.ref A.rm, .ref A.st, .unb, .unb, .unb, .unb, .unb] H (NQ Q) (RQ Q) := by
  have hl4 := S.l4
  have hLl := Pn.small hl4
  have hpos := P.pos
  refine S_cons ?_
  walk_at "st"
  refine S.s0 (S.s1 (hpo _ _ _ L F _ _ S.o S.d S.fh P hl4 fun pr H1 x1 _ hpr => S_cons ?_))
  replace S := S.ext x1
  clear x1
  walk_at "st"
  refine S.s0 (W_iter (lk_of S.o) (by first | exact nmil (by with_reducible assumption) | (rw [natsV_length]; first | lia | omega)) ⟨TI cx A pr H1, ⟨_, _, _, _, rfl, Ext.refl _ _, fun q => absurd q (by simp)⟩, ?_, ?_, ?_⟩)
  · rintro _ _ _ ⟨_, _, _, _, _, x, _⟩; exact lk_of (x.le _ _ S.o)
  · rintro done x rest μ H2 e ⟨z3, z4, z5, z6, rfl, x2, _⟩
    obtain ⟨i, hk, rfl⟩ := nats_item (at_done e)
    obtain ⟨f, hfi⟩ := P.at_ hk
    have hBk := bx_get hk hfi
    have hfs := Pn.fsmall hl4 hk hfi
    have S2 := S.ext x2
    refine S_cons ?_
    walk_at "st"
    refine S2.s1 (W_fld S2.d S2.fh hfi fun a ws ha hws => W_iter (lk_of ha) (by rw [hws.1]; first | with_reducible exact Int.natCast_nonneg _ | with_reducible assumption | lia | omega) (C_handed hh P.nd (x2.le _ _ hpr) hws (P.cl i (List.mem_of_getElem? hk) f hfi) (by first | with_reducible exact Int.natCast_nonneg _ | with_reducible assumption | lia | omega) (fun H' x => lk_of (x.le _ _ ha)) (fun b H1 KK q => ?_) fun acc H3 x3 hacc => ?_))
    · walk_at "st"
      exact q
    refine new_abs fun r4 H4 x4 _ e4 => S_cons ?_
    have y4 := x2.trans (x3.trans x4)
    have S4 := S.ext y4
    replace hacc := hacc.imp fun _ _ q => q.ext x4
    clear S2 x3 x4 x2
    walk_at "st"
    refine ⟨S4.R.no fun _ _ => rfl, W_plc P.nd (y4.le _ _ hpr) hk (htd.ok S4.R hBk fun r5 vs H5 x5 f5 e5 hvs => S_cons ?_)⟩
    rw [List.map_map] at hvs
    have hvl : vs.length = f.length := by rw [hvs.1, List.length_map]
    walk_at "st"
    refine onO_of (isi_ll e5) ?_
    walk_at "st"
    refine onO_of (ne_same (lk_of e5) (lk_of (x5.le _ _ e4)) (same_ths hvs (hacc.imp fun _ _ q => q.ext x5))) ?_
    walk_at "st"
    refine S_nil (S_cons ?_)
    walk_at "st"
    refine W_iter (lk_of e5) (by first | with_reducible exact Int.natCast_nonneg _ | with_reducible assumption | lia | omega) ⟨fun done μ H' => (∃ z6, μ = [.ref A.rm, .ref A.st, .ref pr, .int (i : Int), .ref r4, .ref r5, z6]) ∧ H' = H5, ⟨⟨_, rfl⟩, rfl⟩, fun _ _ _ q => q.2 ▸ lk_of e5, ?_, ?_⟩
    · rintro d2 y rest2 μ H6 e2 ⟨⟨z6, rfl⟩, rfl⟩
      obtain ⟨t, _, b, rfl, hb⟩ := hvs.get (at_done e2)
      refine S_cons ?_
      walk_at "st"
      refine onO_of (isi_tt (lk_tup hb)) ?_
      walk_at "st"
      refine W_t1 hb (hi _ _ _ ?_)
      walk_at "st"
      exact S_nil (S_nil ⟨_, LE.refl _, ⟨_, rfl⟩, rfl⟩)
    rintro μ H6 ⟨⟨z6, rfl⟩, rfl⟩
    refine S_cons ?_
    walk_at "st"
    refine ⟨W_la e5, W_app e5 (by first | with_reducible exact Int.natCast_nonneg _ | with_reducible assumption | lia | omega) (S_cons ?_)⟩
    have x6 := x5.upd f5.1 f5.2.2 (.list (vs ++ [V.int 3]))
    have e6 : (upd H6 r5 (.list (vs ++ [V.int 3]))) r5 = some (.list (vs ++ [V.int 3])) := upd_same _ _ _
    have i6 : Items cx (upd H6 r5 (.list (vs ++ [V.int 3]))) (vs ++ [V.int 3]) := Items.snoc (items_of (hvs.imp fun _ _ q => ThAt.set e5 q)) (.inl ⟨3, rfl⟩)
    generalize upd H6 r5 (.list (vs ++ [V.int 3])) = H7 at x6 e6 i6
    have S7 := S.ext (y4.trans x6)
    walk_at "st"
    refine ⟨S7.R.no fun _ _ => rfl, W_plc P.nd ((y4.trans x6).le _ _ hpr) hk (htd.ok S7.R hBk fun r8 us H8 x8 f8 e8 hus => ?_)⟩
    rw [List.map_map] at hus
    walk_at "st"
    refine onO_of (ne_same (lk_of e8) (lk_of (x8.le _ _ (x6.le _ _ e4))) (same_ths hus (hacc.imp fun _ _ q => (q.ext x6).ext x8))) ?_
    walk_at "st"
    exact S_nil (S_nil ⟨_, LE.refl _, _, _, _, _, rfl, y4.trans (x6.trans x8), fun _ => ⟨r5, _, rfl, (y4.fresh f5).1, x8.le _ _ e6, i6.le x8.le, by simp; first | with_reducible exact Int.natCast_nonneg _ | with_reducible assumption | lia | omega⟩⟩)
  · rintro μ H2 ⟨z3, z4, z5, z6, rfl, x2, hz⟩
    obtain ⟨r, vs, rfl, hr1, hr2, hit, hvl⟩ := hz (by rw [natsV_length]; exact hpos)
    have S2 := S.ext x2
    refine S_cons ?_
    walk_at "st"
    refine S2.s4 ⟨W_la S2.p, W_list (sq_l (lk_of hr2)) (by first | with_reducible exact Int.natCast_nonneg _ | with_reducible assumption | lia | omega) (new_abs fun r2 H3 x3 f3 e3 => ⟨show 2 ≤ 16777216 by decide, new_abs fun b H4 x4 f4 e4 => ?_⟩)⟩
    have S4 := S2.ext (x3.trans x4)
    refine W_app S4.p (by first | with_reducible exact Int.natCast_nonneg _ | with_reducible assumption | lia | omega) (S_cons ?_)
    obtain ⟨S5, g⟩ := S4.push [] (fun _ q => nomatch q) e4 ((x3.trans x4).le _ _ hr2) (x4.le _ _ e3) (S.out hr1) (S2.out f3.1) (hit.le (x3.trans x4).le)
    walk_at "st"
    exact RQ.here (hQ _ _ _ S5 g)
noncomputable def LToldSpec (cx : Cx) (n : Nat) : Prop := ∀ (A : Ad) (L : List Nat) (F : Bx) (nf : Nat) (fl ps : List V) (K H : HP) (Q : V → HP → Prop), Sh cx A (bx L F) L F nf fl ps K H → Pn L F → ps.length ≤ 100000 →
  (∀ v K' H', Sh cx A (bx L F) L F nf fl (ps ++ [v]) K' H' → LE K K' → Q (.bool true) H') → CallP cx n 381 [.ref A.rm, .ref A.st] H Q
end
end Mine
end

section
namespace Mine
open PySem PyProof.Rows
theorem reach_eq {B : Bx} {p p' : Nat → Bool} (hp : ∀ k, p k = true ↔ Reach B k) (hp' : ∀ k, p' k = true ↔ Reach B k) : p = p' := by
  funext k
  rw [Bool.eq_iff_iff, hp, hp']
section
variable {cx : Cx} {A : Ad} {B : Bx} {L : List Nat} {F : Bx} {nf : Nat} {fl ps : List V} {H H' H1 K K' : HP} {n : Nat} {a b r pr : Addr} {o : O} {Q : V → HP → Prop} {v u z : V} {vs ws : List V} {f : List Th} {t : Th} {p : Nat → Bool} {N' : List V → HP → Prop} {RR : V → HP → Prop}
noncomputable def m_law_stands : MSs :=
  (.cons (.assign 2 (.callb .sum (.cons (.comp (.bin .Add (.cint (1)) (.callb .len (.cons (.dsub (.sub (.loc 1) (.cint (1))) (.loc 5)) .nil))) (.sub (.loc 1) (.cint (0))) (.cbool true)) .nil)))
  (.cons (.assign 3 (.callf 333 (.cons (.sub (.loc 1) (.cint (0))) (.cons (.sub (.loc 1) (.cint (1))) .nil))))
  (.cons (.ite (.bop .Or (.cons (.not (.callf 319 (.cons (.list (.cons (.callm 296 (Str.ofString "used") 286 0 .nil) .nil)) (.cons (.list (.cons (.loc 2) .nil)) .nil)))) (.cons (.not (.callf 381 (.cons (.loc 0) (.cons (.loc 1) .nil)))) .nil))) (.cons (.ret (.cbool false))
    .nil) .nil)
  (.cons (.ite (.not (.callf 319 (.cons (.callm 296 (Str.ofString "places") 267 0 .nil) (.cons (.comp (.dsub (.loc 3) (.loc 5)) (.sub (.loc 1) (.cint (0))) (.cbool true)) .nil)))) (.cons (.ret (.cbool false))
    .nil) .nil)
  (.cons (.ite (.not (.callf 319 (.cons (.callm 296 (Str.ofString "come_to") 272 0 .nil) (.cons (.comp (.dsub (.loc 3) (.loc 5)) (.callf 359 (.cons (.sub (.loc 1) (.cint (0))) (.cons (.sub (.loc 1) (.cint (1))) .nil))) (.cbool true)) .nil)))) (.cons (.ret (.cbool false))
    .nil) .nil)
  (.cons (.for_ 4 (.list (.cons (.callm 296 (Str.ofString "cells") 293 0 .nil) (.cons (.callm 296 (Str.ofString "places") 267 0 .nil) (.cons (.callm 296 (Str.ofString "come_to") 272 0 .nil) (.cons (.callm 296 (Str.ofString "told") 260 0 (.cons (.cint (0)) .nil)) .nil))))) (.cons (.expr (.app false (.loc 4) (.cint (3))))
    (.cons (.expr (.app false (.sub (.loc 1) (.cint (4))) (.tup (.cons (.loc 4) (.cons (.callb .list (.cons (.loc 4) .nil)) .nil)))))
    .nil)))
  (.cons (.ite (.not (.callf 319 (.cons (.callm 296 (Str.ofString "places") 267 0 .nil) (.cons (.comp (.dsub (.loc 3) (.loc 5)) (.sub (.loc 1) (.cint (0))) (.cbool true)) .nil)))) (.cons (.ret (.cbool false))
    .nil) .nil)
  (.cons (.ite (.not (.callf 381 (.cons (.loc 0) (.cons (.loc 1) .nil)))) (.cons (.ret (.cbool false))
    .nil) .nil)
  (.cons (.ite (.not (.callf 319 (.cons (.callm 296 (Str.ofString "cells") 293 0 .nil) (.cons (.callf 340 (.cons (.sub (.loc 1) (.cint (0))) (.cons (.sub (.loc 1) (.cint (1))) (.cons (.sub (.loc 1) (.cint (2))) .nil)))) .nil)))) (.cons (.ret (.cbool false))
    .nil) .nil)
  (.cons (.ret (.cmp (.callb .len (.cons (.comp (.loc 5) (.sub (.loc 1) (.cint (4))) (.cmp (.sub (.loc 5) (.cint (0))) .NotEq (.sub (.loc 5) (.cint (1))))) .nil)) .Eq (.cint (0))))
  .nil))))))))))
theorem st_places (hwd : WordsSpec cx n) (hpl : PlSpec cx n) (S : Sh cx A (bx L F) L F nf fl ps K H) (P : Pn L F) (hpr : H pr = some (.dct (plK L (bx L F) L.length))) (hN : ∀ H', Ext cx H H' → N' [.ref A.rm, .ref A.st, u, .ref pr, z] H') :
    mwpS cx n (.ite (.not (.callf 319 (.cons (.callm 296 (Str.ofString "places") 267 0 .nil) (.cons (.comp (.dsub (.loc 3) (.loc 5)) (.sub (.loc 1) (.cint (0))) (.cbool true)) .nil)))) (.cons (.ret (.cbool false)) .nil) .nil) [.ref A.rm, .ref A.st, u, .ref pr, z] H N' RR := by
  have hLl := Pn.small S.l4
  walk_at "st"
  refine ⟨S.R.no fun _ _ => rfl, hpl _ _ _ _ _ _ _ S.R fun q1 H1 x1 _ hq1 => ?_⟩
  have S1 := S.ext x1
  refine S1.s0 (W_iter (lk_of S1.o) (by first | exact nmil (by with_reducible assumption) | (rw [natsV_length]; first | lia | omega)) (C_places P.nd hLl (bx_len L F) (x1.le _ _ hpr) (lk_of S1.o) (fun i KK q => ?_) fun q2 H2 x2 _ hq2 => ?_))
  · walk_at "st"
    exact q
  refine hwd _ _ _ _ _ (x2.le _ _ hq1) (lk_of hq2) (by simp [plI, bx_len]; first | with_reducible exact Int.natCast_nonneg _ | with_reducible assumption | lia | omega) ?_
  walk_at "st"
  exact S_nil (hN _ (x1.trans x2))
theorem st_come (hwd : WordsSpec cx n) (hct : ComeSpec cx n) (hlc : LComeSpec cx n) (S : Sh cx A (bx L F) L F nf fl ps K H) (P : Pn L F) (hpr : H pr = some (.dct (plK L (bx L F) L.length))) (hN : ∀ H', Ext cx H H' → N' [.ref A.rm, .ref A.st, u, .ref pr, z] H') :
    mwpS cx n (.ite (.not (.callf 319 (.cons (.callm 296 (Str.ofString "come_to") 272 0 .nil) (.cons (.comp (.dsub (.loc 3) (.loc 5)) (.callf 359 (.cons (.sub (.loc 1) (.cint (0))) (.cons (.sub (.loc 1) (.cint (1))) .nil))) (.cbool true)) .nil)))) (.cons (.ret (.cbool false)) .nil) .nil) [.ref A.rm, .ref A.st, u, .ref pr, z] H N' RR := by
  have hl4 := S.l4
  have hLl := Pn.small hl4
  have hbl := bx_len L F
  walk_at "st"
  refine ⟨S.R.no fun _ _ => rfl, hct _ _ _ _ _ _ _ S.R fun q1 H1 p x1 _ hp hq1 => ?_⟩
  have S1 := S.ext x1
  refine S1.s0 (S1.s1 (hlc _ _ _ L F _ _ S1.o S1.d S1.fh P hl4 fun q2 H2 p' x2 _ hp' hq2 => ?_))
  have e := reach_eq hp hp'
  subst e
  have hkk : (kl p L.length).length ≤ L.length := Nat.le_trans (List.length_filter_le _ _) (by simp)
  have hkl : (keepL L p).length ≤ L.length := by rw [keepL, List.length_map]; exact hkk
  refine W_iter (lk_of hq2) (by first | exact nmil (by with_reducible assumption) | (rw [natsV_length]; first | lia | omega)) (C_kept P.nd hLl (x2.le _ _ (x1.le _ _ hpr)) (lk_of hq2) (fun i KK q => ?_) fun q3 H3 x3 _ hq3 => ?_)
  · walk_at "st"
    exact q
  rw [hbl] at hq1
  refine hwd _ _ _ _ _ (x3.le _ _ (x2.le _ _ hq1)) (lk_of hq3) (by rw [List.length_map, List.length_map]; first | with_reducible exact Int.natCast_nonneg _ | with_reducible assumption | lia | omega) ?_
  walk_at "st"
  exact S_nil (hN _ (x1.trans (x2.trans x3)))
noncomputable def Pend (cx : Cx) (A : Ad) (K H : HP) (c : Addr) : Prop := K c = none ∧ c ∉ A.six ∧ ∃ vs, H c = some (.list vs) ∧ Items cx K vs ∧ vs.length ≤ 1000
noncomputable abbrev SI (cx : Cx) (A : Ad) (L : List Nat) (F : Bx) (nf m : Nat) (fl : List V) (pr lr : Addr) (u : V) (cs : List Addr) (K0 : HP) (done μ : List V) (H' : HP) : Prop :=
  ∃ z ps' K', μ = [.ref A.rm, .ref A.st, u, .ref pr, z] ∧ Sh cx A (bx L F) L F nf fl ps' K' H' ∧ LE K0 K' ∧ ps'.length = m + done.length ∧ K' lr = some (.list (cs.map V.ref)) ∧ ∀ i c, done.length ≤ i → cs[i]? = some c → Pend cx A K' H' c
theorem four_ms {m : Nat} {lr : Addr} {cs : List Addr} {K0 : HP} (S : Sh cx A (bx L F) L F nf fl ps K H) (hm : ps.length = m) (hps : m ≤ 100000) (hK : LE K0 K) (hlr : K lr = some (.list (cs.map V.ref))) (hcl : cs.length = 4) (hnd : cs.Nodup) (hp : ∀ c ∈ cs, Pend cx A K H c)
    (hN : ∀ z ps' K' H', Sh cx A (bx L F) L F nf fl ps' K' H' → LE K0 K' → ps'.length = m + 4 → N' [.ref A.rm, .ref A.st, u, .ref pr, z] H') :
    ForP (cs.map V.ref) (fun H' => lk cx H' lr = some (.list (cs.map V.ref))) [.ref A.rm, .ref A.st, u, .ref pr, z] H (fun x μ H KK => mwpSs cx n (.cons (.expr (.app false (.loc 4) (.cint (3)))) (.cons (.expr (.app false (.sub (.loc 1) (.cint (4))) (.tup (.cons (.loc 4) (.cons (.callb .list (.cons (.loc 4) .nil)) .nil))))) .nil)) (setL μ 4 x) H KK RR) N' := by
  refine ⟨SI cx A L F nf m fl pr lr u cs K0, ⟨_, ps, K, rfl, S, hK, by rw [hm]; rfl, hlr, fun i c _ hc => hp c (List.mem_of_getElem? hc)⟩, ?_, ?_, ?_⟩
  · rintro _ _ _ ⟨_, _, _, _, S, _, _, h, _⟩; exact lk_of (S.le _ _ h)
  · clear hp hlr hK S
    rintro done x rest μ H1 e ⟨z, ps', K1, rfl, S, hK, hpl, hlr, hp⟩
    have hx := at_done e
    rw [List.getElem?_map] at hx
    obtain ⟨c, hc, rfl⟩ := Option.map_eq_some_iff.mp hx
    have hdl := (List.getElem?_eq_some_iff.mp hc).1
    obtain ⟨c1, c2, vs, hv, hi, hvl⟩ := hp _ c (Nat.le_refl _) hc
    have hl1 : (done ++ [V.ref c]).length = done.length + 1 := by rw [List.length_append]; rfl
    refine S_cons ?_
    walk_at "st"
    refine ⟨W_la hv, W_app hv (by first | with_reducible exact Int.natCast_nonneg _ | with_reducible assumption | lia | omega) (S_cons ?_)⟩
    have S2 := S.poke hv c1 c2 (vs ++ [.int 3])
    have hv2 : (upd H1 c (.list (vs ++ [.int 3]))) c = some (.list (vs ++ [.int 3])) := upd_same _ _ _
    have ho2 : ∀ c', c' ≠ c → (upd H1 c (.list (vs ++ [.int 3]))) c' = H1 c' := fun c' q => upd_ne _ q
    have hi2 : Items cx K1 (vs ++ [.int 3]) := hi.snoc (.inl ⟨3, rfl⟩)
    have hl2 : (vs ++ [V.int 3]).length ≤ 1001 := by rw [List.length_append]; show vs.length + 1 ≤ _; first | with_reducible exact Int.natCast_nonneg _ | with_reducible assumption | lia | omega
    generalize upd H1 c (.list (vs ++ [.int 3])) = H2 at S2 hv2 ho2
    generalize vs ++ [V.int 3] = ws at hv2 hi2 hl2
    walk_at "st"
    refine S2.s4 ⟨W_la S2.p, W_list (sq_l (lk_of hv2)) (by first | with_reducible exact Int.natCast_nonneg _ | with_reducible assumption | lia | omega) (new_abs fun r1 H3 x3 f3 e3 => ⟨show 2 ≤ 16777216 by decide, new_abs fun tb H4 x4 f4 e4 => ?_⟩)⟩
    have x5 := x3.trans x4
    have S4 := S2.ext x5
    refine W_app S4.p (by first | with_reducible exact Int.natCast_nonneg _ | with_reducible assumption | lia | omega) (S_nil ?_)
    have hne : ∀ i c', done.length + 1 ≤ i → cs[i]? = some c' → c' ≠ c := fun i c' h1 h2 q => by
      subst q
      have := (List.getElem?_inj hdl hnd).mp (hc.trans h2.symm)
      first | lia | omega
    have hT : ∀ c' ∈ cs.drop (done.length + 1), ∃ i, done.length + 1 ≤ i ∧ cs[i]? = some c' := fun c' h => by
      obtain ⟨i, hi⟩ := List.getElem?_of_mem h
      rw [List.getElem?_drop] at hi
      exact ⟨_, by first | with_reducible exact Int.natCast_nonneg _ | with_reducible assumption | lia | omega, hi⟩
    have hH4 : ∀ i c', done.length + 1 ≤ i → cs[i]? = some c' → K1 c' = none ∧ c' ∉ A.six ∧ ∃ us, H4 c' = some (.list us) ∧ Items cx K1 us ∧ us.length ≤ 1000 := fun i c' h1 h2 => by
      obtain ⟨d1, d2, us, d3, d4, d5⟩ := hp i c' (by first | with_reducible exact Int.natCast_nonneg _ | with_reducible assumption | lia | omega) h2
      exact ⟨d1, d2, us, x5.le _ _ (by rw [ho2 c' (hne i c' h1 h2)]; exact d3), d4, d5⟩
    have nin : ∀ {r : Addr}, r ∉ A.six → (∀ i c', done.length + 1 ≤ i → cs[i]? = some c' → c' ≠ r) → r ∉ cs.drop (done.length + 1) ++ A.six := fun h1 h2 q => (List.mem_append.mp q).elim (fun q => by
      obtain ⟨i, g1, g2⟩ := hT _ q
      exact h2 i _ g1 g2 rfl) h1
    obtain ⟨S5, g⟩ := S4.push (cs.drop (done.length + 1)) (fun c' h => by
      obtain ⟨i, g1, g2⟩ := hT c' h
      obtain ⟨d1, _, us, d3, _⟩ := hH4 i c' g1 g2
      exact ⟨d1, us, d3⟩) e4 (x5.le _ _ hv2) (x4.le _ _ e3) (nin c2 hne) (nin (S2.out f3.1) fun i c' g1 g2 q => by
        subst q
        obtain ⟨_, _, us, d3, _⟩ := hp i c' (by first | with_reducible exact Int.natCast_nonneg _ | with_reducible assumption | lia | omega) g2
        have := ho2 c' (hne i c' g1 g2)
        rw [f3.1, d3] at this; cases this) (hi2.le S4.le)
    refine ⟨_, LE.refl _, _, _, _, rfl, S5, hK.trans g, ?_, g _ _ hlr, fun i c' h1 h2 => ?_⟩
    · rw [List.length_append, hl1, hpl]; rfl
    · rw [hl1] at h1
      obtain ⟨d1, d2, us, d3, d4, d5⟩ := hH4 i c' h1 h2
      refine ⟨frz_in (List.mem_append_left _ ?_), d2, us, ?_, d4.le g, d5⟩
      · rw [List.mem_iff_getElem?]
        exact ⟨i - (done.length + 1), by rw [List.getElem?_drop, show done.length + 1 + (i - (done.length + 1)) = i by first | with_reducible exact Int.natCast_nonneg _ | with_reducible assumption | lia | omega]; exact h2⟩
      · rw [upd_ne _ (fun q => d2 (by rw [q]; simp [Ad.six]))]; exact d3
  · rintro μ H1 ⟨z, ps', K1, rfl, S, hK, hpl, _, _⟩
    rw [List.length_map, hcl] at hpl
    exact hN z ps' K1 H1 S hK hpl
end
end Mine
end

section
namespace Mine
open PySem PyProof.Rows
section
variable {cx : Cx} {A : Ad} {B : Bx} {L : List Nat} {F : Bx} {nf : Nat} {fl ps : List V} {H H' H1 K K' : HP} {n : Nat} {a b r pr : Addr} {o : O} {Q : V → HP → Prop} {v u z : V} {vs ws : List V} {f : List Th} {t : Th} {p : Nat → Bool} {N' : List V → HP → Prop} {RR : V → HP → Prop}
noncomputable def dropS : Nat → MSs → MSs
  | 0, s => s
  | _ + 1, .nil => .nil
  | k + 1, .cons _ r => dropS k r
structure LS (cx : Cx) (n : Nat) : Prop where
  po : PlacesOfSpec cx n
  wd : WordsSpec cx n
  us : UsedSpec cx n
  lt : LToldSpec cx n
  pl : PlSpec cx n
  ct : ComeSpec cx n
  lc : LComeSpec cx n
  ce : CellsSpec cx n
  td : ToldSpec cx n
  co : CellsOfSpec cx n
theorem stands2 (W : LS cx n) (S : Sh cx A (bx L F) L F nf fl ps K H) (P : Pn L F) (hps : ps.length ≤ 100000) (hpr : K pr = some (.dct (plK L (bx L F) L.length)))
    (hQ : ∀ ps' K' H', Sh cx A (bx L F) L F nf fl ps' K' H' → ps'.length = ps.length + 1 → LE K K' → Q (.bool true) H') :
    mwpSs cx n (dropS 6 m_law_stands) [.ref A.rm, .ref A.st, u, .ref pr, z] H (NQ Q) (RQ Q) := by
  have hl4 := S.l4
  refine S_cons (st_places W.wd W.pl S P (S.le _ _ hpr) fun H1 x1 => S_cons ?_)
  replace S := S.ext x1
  clear x1
  walk_at "st"
  refine W.lt _ _ _ _ _ _ _ _ _ S P hps fun v K1 H2 S2 g => ?_
  walk_at "st"
  refine S_nil (S_cons ?_)
  walk_at "st"
  refine ⟨S2.R.no fun _ _ => rfl, W.ce _ _ _ _ _ _ _ S2.R fun q1 H3 x3 _ hq1 => ?_⟩
  have S3 := S2.ext x3
  refine S3.s0 (S3.s1 (S3.s2 (W.co _ _ _ L F A.N _ _ S3.o S3.d S3.fh P S3.R.le S3.R.n4 fun q2 H4 x4 hq2 => ?_)))
  have hn4 := S3.R.n4
  refine W.wd _ _ _ _ _ (x4.le _ _ hq1) (lk_of hq2) (by rw [rowN_length S3.R.le]; first | with_reducible exact Int.natCast_nonneg _ | with_reducible assumption | lia | omega) ?_
  have S4 := S3.ext x4
  walk_at "st"
  refine S_nil (S_cons ?_)
  walk_at "st"
  have hpl : (ps ++ [v]).length = ps.length + 1 := by rw [List.length_append]; rfl
  refine S4.s4 (W_iter (lk_of S4.p) (by first | with_reducible exact Int.natCast_nonneg _ | with_reducible assumption | lia | omega) (C_same (by first | with_reducible exact Int.natCast_nonneg _ | with_reducible assumption | lia | omega) (lk_of S4.p) (fun _ => []) rfl ?_ (new_abs fun r H5 x5 _ e5 => ?_)))
  · intro k x KK hx hK
    obtain ⟨b, y1, y2, vs, rfl, h2, h3, h4, h5⟩ := S4.pr x (List.mem_of_getElem? hx)
    have sq := sq_t (lk_of (cx := cx) (S4.le _ _ h2))
    walk_at "st"
    refine W_sub sq (by decide) (show 2 ≤ 16777216 by decide) (v := .ref y1) rfl (W_sub sq (by decide) (show 2 ≤ 16777216 by decide) (v := .ref y2) rfl ?_)
    refine onO_of (ne_same (lk_of (S4.le _ _ h3)) (lk_of (S4.le _ _ h4)) (same_items (h5.le S4.le))) ?_
    walk_at "st"
    exact hK none rfl
  · walk_at "st"
    refine W_len (sq_l (lk_of e5)) (Nat.zero_le _) ?_
    walk_at "st"
    rw [eqv_int]
    exact ⟨H5, LE.refl _, hQ _ _ _ (S4.ext x5) hpl g⟩
theorem stands_ms (W : LS cx n) (S : Sh cx A (bx L F) L F nf fl ps K H) (P : Pn L F) (hps : ps.length ≤ 90000)
    (hQ : ∀ ps' K' H', Sh cx A (bx L F) L F nf fl ps' K' H' → ps'.length = ps.length + 6 → Q (.bool true) H') :
    mwpSs cx n m_law_stands [.ref A.rm, .ref A.st, .unb, .unb, .unb] H (NQ Q) (RQ Q) := by
  have hl4 := S.l4
  have hLl := Pn.small hl4
  have hpos := P.pos
  have hbl := bx_len L F
  have hn4 := S.R.n4
  have hle := S.R.le
  refine S_cons ?_
  walk_at "st"
  refine S.s0 (W_iter (lk_of S.o) (by first | exact nmil (by with_reducible assumption) | (rw [natsV_length]; first | lia | omega)) (C_sum (fun _ => true) P hLl (lk_of S.o) (fun k i f KK hk hf hK => ?_) fun r1 H1 x1 e1 => ?_))
  · walk_at "st"
    refine S.s1 (W_flen S.d S.fh hf (Nat.le_of_lt (Pn.fsmall hl4 hk hf)) ?_)
    walk_at "st"
    exact hK true rfl
  refine W_sum (lk_of e1) (by rw [gl_all P]; first | with_reducible exact Int.natCast_nonneg _ | with_reducible assumption | lia | omega) ?_
  rw [gl_all P]
  replace S := S.ext x1
  clear e1 x1
  refine S_cons ?_
  walk_at "st"
  refine S.s0 (S.s1 (W.po _ _ _ L F _ _ S.o S.d S.fh P hl4 fun pr H2 x2 f2 hpr0 => S_cons ?_))
  obtain ⟨S2, _⟩ := (S.ext x2).all [] fun _ q => nomatch q
  have hpr := frz_at (U := [] ++ A.six) (S.out f2) hpr0
  generalize frz ([] ++ A.six) H2 = K2 at S2 hpr
  clear S x2 f2 hpr0
  walk_at "st"
  refine ⟨S2.R.no fun _ _ => rfl, W.us _ _ _ _ _ _ _ S2.R ⟨show 1 ≤ 16777216 by decide, new_abs fun r3 H3 x3 _ e3 => ⟨show 1 ≤ 16777216 by decide, new_abs fun r4 H4 x4 _ e4 => W.wd _ _ [(pl (bx L F) (bx L F).length : Int)] _ _ (x4.le _ _ e3) (lk_of e4) (by simp) ?_⟩⟩⟩
  replace S2 := S2.ext (x3.trans x4)
  clear x3 x4 e3 e4
  walk_at "st"
  refine W.lt _ _ _ _ _ _ _ _ _ S2 P (by first | with_reducible exact Int.natCast_nonneg _ | with_reducible assumption | lia | omega) fun v K5 H5 S5 g5 => ?_
  replace hpr := g5 _ _ hpr
  walk_at "st"
  refine S_nil (S_cons (st_places W.wd W.pl S5 P (S5.le _ _ hpr) fun H6 x6 => S_cons (st_come W.wd W.ct W.lc (S5.ext x6) P (x6.le _ _ (S5.le _ _ hpr)) fun H7 x7 => S_cons ?_)))
  have S7 := S5.ext (x6.trans x7)
  clear S2 S5 x6 x7 g5
  have hL0 := P.hd
  obtain ⟨f0, hf0⟩ := P.at_ hL0
  have hfs := Pn.fsmall hl4 hL0 hf0
  walk_at "st"
  refine ⟨S7.R.no fun _ _ => rfl, W.ce _ _ _ _ _ _ _ S7.R fun c1 Ha xa fa ea => ?_⟩
  have Sa := S7.ext xa
  refine ⟨Sa.R.no fun _ _ => rfl, W.pl _ _ _ _ _ _ _ Sa.R fun c2 Hb xb fb eb => ?_⟩
  have Sb := Sa.ext xb
  refine ⟨Sb.R.no fun _ _ => rfl, W.ct _ _ _ _ _ _ _ Sb.R fun c3 Hc pc xc fc _ ec => ?_⟩
  have Sc := Sb.ext xc
  have hkl : (kl pc (bx L F).length).length ≤ L.length := by rw [hbl]; exact Nat.le_trans (List.length_filter_le _ _) (by simp)
  refine ⟨Sc.R.no fun _ _ => rfl, ?_⟩
  have ht0 := fun Q => W.td.ok (Q := Q) (k := 0) Sc.R (bx_get hL0 hf0)
  rw [pl_zero] at ht0
  refine ht0 _ fun c4 ws Hd xd fd ed hws => ⟨show 4 ≤ 16777216 by decide, new_abs fun lr He xl f4 el => W_iter (lk_of el) (show 4 ≤ 16777216 by decide) ?_⟩
  have Se := Sc.ext (xd.trans xl)
  have hwl := hws.1
  rw [List.length_map, List.length_map] at hwl
  have ye := xd.trans xl
  have yd := xc.trans ye
  have yc := xb.trans yd
  have hnd : [c1, c2, c3, c4].Nodup := by
    have n12 := fb.ne' ea
    have n13 := fc.ne' (xb.le _ _ ea)
    have n14 := fd.ne' (xc.le _ _ (xb.le _ _ ea))
    have n23 := fc.ne' eb
    have n24 := fd.ne' (xc.le _ _ eb)
    have n34 := fd.ne' ec
    simp only [List.nodup_cons, List.mem_cons, List.not_mem_nil, or_false, not_or, not_false_eq_true, List.nodup_nil, and_true]
    exact ⟨⟨n12, n13, n14⟩, ⟨n23, n24⟩, n34⟩
  have g1 : K5 c1 = none ∧ c1 ∉ A.six ∧ ∃ vs, He c1 = some (.list vs) ∧ Items cx He vs ∧ vs.length ≤ 1000 := ⟨S7.knone fa.1, S7.out fa.1, _, yc.le _ _ ea, items_ints _, by rw [ints_length, rowN_length hle]; first | with_reducible exact Int.natCast_nonneg _ | with_reducible assumption | lia | omega⟩
  have g2 : K5 c2 = none ∧ c2 ∉ A.six ∧ ∃ vs, He c2 = some (.list vs) ∧ Items cx He vs ∧ vs.length ≤ 1000 := ⟨Sa.knone fb.1, Sa.out fb.1, _, yd.le _ _ eb, items_ints _, by simp [intsV, plI, hbl]; first | with_reducible exact Int.natCast_nonneg _ | with_reducible assumption | lia | omega⟩
  have g3 : K5 c3 = none ∧ c3 ∉ A.six ∧ ∃ vs, He c3 = some (.list vs) ∧ Items cx He vs ∧ vs.length ≤ 1000 := ⟨Sb.knone fc.1, Sb.out fc.1, _, ye.le _ _ ec, items_ints _, by rw [natsV_length, List.length_map]; first | with_reducible exact Int.natCast_nonneg _ | with_reducible assumption | lia | omega⟩
  have g4 : K5 c4 = none ∧ c4 ∉ A.six ∧ ∃ vs, He c4 = some (.list vs) ∧ Items cx He vs ∧ vs.length ≤ 1000 := ⟨Sc.knone fd.1, Sc.out fd.1, _, xl.le _ _ ed, (items_of hws).le xl.le, by first | with_reducible exact Int.natCast_nonneg _ | with_reducible assumption | lia | omega⟩
  have hpe : ∀ c ∈ [c1, c2, c3, c4], K5 c = none ∧ c ∉ A.six ∧ ∃ vs, He c = some (.list vs) ∧ Items cx He vs ∧ vs.length ≤ 1000 := by
    intro c hc
    simp only [List.mem_cons, List.not_mem_nil, or_false] at hc
    rcases hc with rfl | rfl | rfl | rfl
    · exact g1
    · exact g2
    · exact g3
    · exact g4
  have hlr : lr ∉ [c1, c2, c3, c4] ++ A.six := fun q => (List.mem_append.mp q).elim (fun q => by
    have n1 := f4.ne' (xd.le _ _ (xc.le _ _ (xb.le _ _ ea)))
    have n2 := f4.ne' (xd.le _ _ (xc.le _ _ eb))
    have n3 := f4.ne' (xd.le _ _ ec)
    have n4 := f4.ne' ed
    simp only [List.mem_cons, List.not_mem_nil, or_false] at q
    rcases q with q | q | q | q
    · exact n1 q.symm
    · exact n2 q.symm
    · exact n3 q.symm
    · exact n4 q.symm) ((Sc.ext xd).out f4.1)
  have hcl : [c1, c2, c3, c4].length = 4 := rfl
  have el : He lr = some (.list ([c1, c2, c3, c4].map V.ref)) := el
  show ForP ([c1, c2, c3, c4].map V.ref) (fun H' => lk cx H' lr = some (.list ([c1, c2, c3, c4].map V.ref))) _ _ _ _
  clear g1 g2 g3 g4 S7 Sa Sb Sc ea eb ec ed xa xb xc xd xl yc yd ye fa fb fc fd f4 hws hwl ht0
  generalize [c1, c2, c3, c4] = cs at hnd hpe hlr hcl el
  have nt : NoTup (cs ++ A.six) He := fun a ha vs e => (List.mem_append.mp ha).elim (fun q => by
    obtain ⟨_, _, ws, hw, _⟩ := hpe a q
    rw [e] at hw; cases hw) fun q => Se.nt a q vs e
  obtain ⟨S8, g8⟩ := Se.all cs fun a ha => (hpe a ha).1
  have hv1 : (ps ++ [v]).length = ps.length + 1 := by rw [List.length_append]; rfl
  refine four_ms S8 rfl (by first | with_reducible exact Int.natCast_nonneg _ | with_reducible assumption | lia | omega) (LE.refl _) (frz_at hlr el) hcl hnd (fun c hc => ?_) fun z ps' K' H' S' g hl => ?_
  · obtain ⟨_, h2, vs, h3, h4, h5⟩ := hpe c hc
    exact ⟨frz_in (List.mem_append_left _ hc), h2, vs, h3, h4.frz nt, h5⟩
  · exact stands2 W S' P (by first | with_reducible exact Int.natCast_nonneg _ | with_reducible assumption | lia | omega) (g _ _ (g8 _ _ hpr)) fun ps2 K2 H2 S2 hl2 _ => hQ ps2 K2 H2 S2 (by first | with_reducible exact Int.natCast_nonneg _ | with_reducible assumption | lia | omega)
noncomputable def St (cx : Cx) (N : Nat) (rm st sa : Addr) (al : Bool) (c : Nat) (H : HP) : Prop := ∃ A L F fl ps K, A.N = N ∧ A.rm = rm ∧ A.st = st ∧ A.sa = sa ∧ Sh cx A (bx L F) L F F.length fl ps K H ∧ Pn L F ∧ F.length + ps.length ≤ c ∧ (al = true → ∀ k, k < (bx L F).length → Reach (bx L F) k)
noncomputable def StandsSpec (cx : Cx) (n : Nat) : Prop := ∀ (N : Nat) (rm st sa : Addr) (al : Bool) (c : Nat) (H : HP) (Q : V → HP → Prop), St cx N rm st sa al c H → c ≤ 90000 → (∀ H', St cx N rm st sa al (c + 20) H' → Q (.bool true) H') → CallP cx n 386 [.ref rm, .ref st] H Q
theorem stands_st {N c : Nat} {rm st sa : Addr} {al : Bool} (W : LS cx n) (S : St cx N rm st sa al c H) (hc : c ≤ 90000) (hQ : ∀ H', St cx N rm st sa al (c + 20) H' → Q (.bool true) H') : mwpSs cx n m_law_stands [.ref rm, .ref st, .unb, .unb, .unb] H (NQ Q) (RQ Q) := by
  obtain ⟨A, L, F, fl, ps, K, rfl, rfl, rfl, rfl, S, P, hl, ha⟩ := S
  exact stands_ms W S P (by first | with_reducible exact Int.natCast_nonneg _ | with_reducible assumption | lia | omega) fun ps' K' H' S' hp => hQ H' ⟨A, L, F, fl, ps', K', rfl, rfl, rfl, rfl, S', P, by first | with_reducible exact Int.natCast_nonneg _ | with_reducible assumption | lia | omega, ha⟩
end
end Mine
end

section
namespace Mine
open PySem PyProof.Rows
section
variable {cx : Cx} {A : Ad} {B : Bx} {L : List Nat} {F : Bx} {nf c : Nat} {fl ps : List V} {H H' H1 K K' : HP} {n : Nat} {a b r pr : Addr} {o : O} {Q : V → HP → Prop} {v u z : V} {vs ws : List V} {f ts us : List Th} {t t' : Th}
theorem thV_inj (h : thV t = thV t') : t = t' := by
  have h1 : ths t = ths t' := V.str.inj (List.cons.inj h).1
  have h2 : t.2 = t'.2 := V.int.inj (List.cons.inj (List.cons.inj h).2).1
  exact Prod.ext (by rw [← ths_b t, ← ths_b t', h1]) h2
theorem ThAt.uniq (h1 : ThAt cx H v t) (h2 : ThAt cx H v t') : t = t' := by
  obtain ⟨b, rfl, h1⟩ := h1
  obtain ⟨b', e, h2⟩ := h2
  cases e
  rw [h1] at h2
  exact thV_inj (by injection h2 with h2; injection h2)
theorem ths_uniq (h1 : All2 (ThAt cx H) vs ts) (h2 : All2 (ThAt cx H) vs us) : ts = us := by
  apply List.ext_getElem?
  intro i
  by_cases q : i < vs.length
  · have hv : vs[i]? = some vs[i] := List.getElem?_eq_getElem q
    obtain ⟨t, ht, g1⟩ := h1.get hv
    obtain ⟨u, hu, g2⟩ := h2.get hv
    rw [ht, hu, g1.uniq g2]
  · rw [List.getElem?_eq_none (by rw [← h1.1]; first | with_reducible exact Int.natCast_nonneg _ | with_reducible assumption | lia | omega), List.getElem?_eq_none (by rw [← h2.1]; first | with_reducible exact Int.natCast_nonneg _ | with_reducible assumption | lia | omega)]
theorem plts_inj : ∀ {ts us : List Th}, (∀ t ∈ ts, OkT B t) → (∀ t ∈ us, OkT B t) → ts.map (plt B) = us.map (plt B) → ts = us
  | [], [], _, _, _ => rfl
  | [], _ :: _, _, _, h => nomatch h
  | _ :: _, [], _, _, h => nomatch h
  | t :: ts, u :: us, h1, h2, h => by
    obtain ⟨e1, e2⟩ := List.cons.inj h
    rw [plt_inj (h1 t List.mem_cons_self) (h2 u List.mem_cons_self) e1, plts_inj (fun t q => h1 t (List.mem_cons_of_mem _ q)) (fun t q => h2 t (List.mem_cons_of_mem _ q)) e2]
theorem plt_in (h : OkT B t) (e : (plt B t).1 = true) : (plt B t).2 ∈ plI B := by
  rw [plt_1] at e
  obtain ⟨j, ej, hj⟩ := h e
  rw [plt, if_pos e, ej, Int.toNat_natCast]
  exact mem_plI.mpr ⟨j, hj, rfl⟩
theorem MadeSpec.ok (h : MadeSpec cx n) {N : Nat} {rm dx ra la : Addr} (R : RoomAt N rm dx ra B H) (hl : lk cx H la = some (.list vs)) (hts : All2 (ThAt cx H) vs (ts.map (plt B))) (hok : ∀ t ∈ ts, OkT B t) (hle : ts.length ≤ 1000)
    (x3 : N < pl B B.length + 1 + ts.length → Q (.exc 85) H) (hQ : pl B B.length + 1 + ts.length ≤ N → ∀ ra' H', RoomAt N rm dx ra' (B ++ [ts]) H' → Fresh cx H ra' → But dx H H' → KZ cx H H' → Q (.int (pl B B.length)) H') : CallX cx n 246 [.ref rm, .ref la] H Q := by
  have hth : ∀ v ∈ vs, ∃ t, ThAt cx H v t := fun v hv => by
    obtain ⟨i, hi⟩ := List.getElem?_of_mem hv
    obtain ⟨t, _, g⟩ := hts.get hi
    exact ⟨t, g⟩
  have key : ∀ us : List Th, All2 (ThAt cx H) vs (us.map (plt B)) → (∀ t ∈ us, OkT B t) → us = ts := fun us a1 a2 => plts_inj a2 hok (ths_uniq a1 hts)
  refine h _ _ _ _ _ _ _ _ _ R hl (by rw [hts.1, List.length_map]; exact hle) (fun v hv => .inl (hth v hv)) (fun ⟨v, hv, g⟩ => ?_) (fun us a1 ⟨t, ht, g1, g2⟩ => ?_) (fun us a1 a2 g => ?_) fun us a1 a2 g => ?_
  · obtain ⟨t, g'⟩ := hth v hv
    exact (g.notTh g').elim
  · rw [ths_uniq a1 hts] at ht
    obtain ⟨u, hu, rfl⟩ := List.mem_map.mp ht
    exact (g2 (plt_in (hok u hu) g1)).elim
  · rw [key us a1 a2] at g; exact x3 g
  · rw [key us a1 a2] at g ⊢; exact hQ g
noncomputable def m_law_made : MSs :=
  (.cons (.assign 4 (.sub (.loc 1) (.cint (0))))
  (.cons (.assign 5 (.sub (.loc 1) (.cint (1))))
  (.cons (.assign 6 (.compR (.bin .Mod (.bin .Mult (.bin .Add (.loc 3) (.bin .Mult (.cint (977)) (.loc 14))) (.cint (16807))) (.cint (999979))) (.cint (0)) (.callf 366 (.cons (.loc 2) (.cons (.loc 3) .nil))) (.cbool true)))
  (.cons (.assign 7 (.comp (.callf 347 (.cons (.loc 14) (.cons (.loc 4) .nil))) (.loc 6) (.cbool true)))
  (.cons (.assign 8 (.callf 333 (.cons (.loc 4) (.cons (.loc 5) .nil))))
  (.cons (.assign 9 (.callb .sum (.cons (.comp (.bin .Add (.cint (1)) (.callb .len (.cons (.dsub (.loc 5) (.loc 14)) .nil))) (.loc 4) (.cbool true)) .nil)))
  (.cons (.assign 10 (.comp (.callf 354 (.cons (.loc 14) (.cons (.loc 8) .nil))) (.loc 7) (.cbool true)))
  (.cons (.assign 11 (.callb .list (.cons (.loc 10) .nil)))
  (.cons (.try_ (.act (some 12) (.mt 296 (Str.ofString "made") 246 0) (.cons (.loc 11) .nil)) 85 (.bop .And (.cons (.cmp (.bin .Add (.bin .Add (.loc 9) (.cint (1))) (.callb .len (.cons (.loc 7) .nil))) .Gt (.sub (.loc 1) (.cint (2)))) (.cons (.cmp (.loc 11) .Eq (.loc 10)) .nil))))
  (.cons (.ite (.cmp (.loc 11) .NotEq (.loc 10)) (.cons (.ret (.cbool false))
    .nil) .nil)
  (.cons (.expr (.app false (.loc 11) (.tup (.cons (.cstr (Str.ofString "number")) (.cons (.cint (7)) .nil)))))
  (.cons (.expr (.app false (.sub (.loc 1) (.cint (4))) (.tup (.cons (.loc 11) (.cons (.callb .list (.cons (.loc 11) .nil)) .nil)))))
  (.cons (.ite (.bop .Or (.cons (.cmp (.bin .Add (.bin .Add (.loc 9) (.cint (1))) (.callb .len (.cons (.loc 7) .nil))) .Gt (.sub (.loc 1) (.cint (2)))) (.cons (.not (.callf 314 (.cons (.loc 12) .nil))) (.cons (.cmp (.loc 12) .NotEq (.loc 9)) .nil)))) (.cons (.ret (.cbool false))
    .nil) .nil)
  (.cons (.assign 13 (.sub (.sub (.loc 1) (.cint (3))) (.cint (0))))
  (.cons (.setSub (.sub (.loc 1) (.cint (3))) (.cint (0)) (.bin .Add (.loc 13) (.cint (1))))
  (.cons (.expr (.app false (.loc 4) (.loc 13)))
  (.cons (.setD (.loc 5) (.loc 13) (.loc 7))
  (.cons (.ret (.cbool true))
  .nil))))))))))))))))))
theorem made2 {du hh lt : Addr} {z2 z3 z6 z8 z13 : V} (hi : IntSp cx n) (P : Pn L F) (hc : F.length + ps.length ≤ 90000) (hts : ∀ t ∈ ts, OkL L t) (hfit : pl (bx L F) (bx L F).length + 1 + ts.length ≤ A.N)
    (S : Sh cx A (bx L F ++ [ts.map (renT L)]) L F F.length fl ps K H) (hLl : L.length ≤ 1000)
    (h1 : H hh = some (.list vs)) (hk : K hh = none) (hn : hh ∉ A.six) (h2 : H du = some (.list vs)) (hv : Items cx H vs) (hvl : vs.length ≤ 1000) (h3 : H lt = some (.list ws)) (hw : All2 (ThAt cx H) ws ts) (ln : lt ∉ A.six) (hne : lt ≠ hh)
    (hQ : ∀ fl' v K' H', Sh cx A (bx (L ++ [F.length]) (F ++ [ts])) (L ++ [F.length]) (F ++ [ts]) (F ++ [ts]).length fl' (ps ++ [v]) K' H' → Q (.bool true) H') :
    mwpSs cx n (dropS 9 m_law_made) [.ref A.rm, .ref A.st, z2, z3, .ref A.oa, .ref A.da, z6, .ref lt, z8, .int (pl (bx L F) (bx L F).length), .ref du, .ref hh, .int (pl (bx L F) (bx L F).length), z13] H (NQ Q) (RQ Q) := by
  have hfl := S.fd.1
  have hn4 := S.R.n4
  have hwl := hw.1
  refine S_cons ?_
  walk_at "st"
  refine onO_of (ne_same (lk_of h1) (lk_of h2) (same_items hv)) ?_
  walk_at "st"
  refine S_nil (S_cons ?_)
  walk_at "st"
  refine ⟨W_la h1, show 2 ≤ 16777216 by decide, new_abs fun tb H1 x1 f1 e1 => W_app (x1.le _ _ h1) (by first | with_reducible exact Int.natCast_nonneg _ | with_reducible assumption | lia | omega) (S_cons ?_)⟩
  have S2 := (S.ext x1).poke (x1.le _ _ h1) hk hn (vs ++ [.ref tb])
  have hset : ∀ {v t}, ThAt cx H v t → ThAt cx (upd H1 hh (.list (vs ++ [.ref tb]))) v t := fun q => ThAt.set (x1.le _ _ h1) (q.ext x1)
  have i2 : Items cx (upd H1 hh (.list (vs ++ [.ref tb]))) (vs ++ [.ref tb]) := Items.snoc (fun v q => (hv v q).imp id fun ⟨t, q⟩ => ⟨t, hset q⟩) (.inr ⟨(false, 7), ThAt.set (x1.le _ _ h1) ⟨tb, rfl, lk_of e1⟩⟩)
  have g1 : (upd H1 hh (.list (vs ++ [.ref tb]))) hh = some (.list (vs ++ [.ref tb])) := upd_same _ _ _
  have g3 : (upd H1 hh (.list (vs ++ [.ref tb]))) lt = some (.list ws) := by rw [upd_ne _ hne]; exact x1.le _ _ h3
  replace hw := hw.imp fun _ _ q => hset q
  have gl : (vs ++ [V.ref tb]).length ≤ 1001 := by rw [List.length_append]; show vs.length + 1 ≤ _; first | with_reducible exact Int.natCast_nonneg _ | with_reducible assumption | lia | omega
  generalize upd H1 hh (.list (vs ++ [.ref tb])) = H2 at S2 i2 g1 g3 hw
  generalize vs ++ [V.ref tb] = vs2 at i2 g1 gl
  clear hset S h1 h2 h3 hv hk
  walk_at "st"
  refine S2.s4 ⟨W_la S2.p, W_list (sq_l (lk_of g1)) (by first | with_reducible exact Int.natCast_nonneg _ | with_reducible assumption | lia | omega) (new_abs fun r2 H3 x3 f3 e3 => ⟨show 2 ≤ 16777216 by decide, new_abs fun b H4 x4 f4 e4 => ?_⟩)⟩
  have x5 := x3.trans x4
  have S4 := S2.ext x5
  refine W_app S4.p (by first | with_reducible exact Int.natCast_nonneg _ | with_reducible assumption | lia | omega) (S_cons ?_)
  have hf : FldAt cx (frz ([] ++ A.six) H4) (.ref lt) ts := ⟨lt, ws, rfl, frz_at ln (x5.le _ _ g3), hw.imp fun _ _ q => frz_th S4.nt (q.ext x5)⟩
  obtain ⟨S5, _⟩ := S4.push [] (fun _ q => nomatch q) e4 (x5.le _ _ g1) (x4.le _ _ e3) hn (S2.out f3.1) (i2.le x5.le)
  generalize frz ([] ++ A.six) H4 = K5 at S5 hf
  have h5 : (upd H4 A.pa (.list (ps ++ [.ref b]))) lt = some (.list ws) := by
    rw [upd_ne _ (fun q => ln (by rw [q]; simp [Ad.six]))]; exact x5.le _ _ g3
  generalize upd H4 A.pa (.list (ps ++ [.ref b])) = H5 at S5 h5
  clear S4 S2 x5 x3 x4 e3 e4 g1 g3 i2
  walk_at "st"
  refine W_len (sq_l (lk_of h5)) (by first | with_reducible exact Int.natCast_nonneg _ | with_reducible assumption | lia | omega) ?_
  walk_at "st"
  refine S5.s2 ?_
  walk_at "st"
  refine ifB_f' (decide_eq_false (by first | with_reducible exact Int.natCast_nonneg _ | with_reducible assumption | lia | omega)) (hi _ _ _ ?_)
  walk_at "st"
  refine ifB_f' (by rw [eqv_int]; simp) (S_nil (S_cons ?_))
  walk_at "st"
  refine S5.s3 (W_sub (sq_l (lk_of S5.f)) (by decide) (show 1 ≤ 16777216 by decide) (v := .int (F.length : Int)) rfl (S_cons ?_))
  walk_at "st"
  refine S5.s3 (W_setSub S5.f (by decide) (show 1 ≤ 16777216 by decide) (show 0 < 1 by decide) (S_cons ?_))
  have S6 : Sh cx A (bx L F ++ [ts.map (renT L)]) L F (F.length + 1) fl (ps ++ [.ref b]) K5 (upd H5 A.fa (.list ([V.int (F.length : Int)].set (Int.toNat 0) (.int ((F.length : Int) + 1))))) := S5.setF (F.length + 1)
  generalize upd H5 A.fa (.list ([V.int (F.length : Int)].set (Int.toNat 0) (.int ((F.length : Int) + 1)))) = H6 at S6
  walk_at "st"
  refine ⟨W_la S6.o, W_app S6.o (by first | exact nmil (by with_reducible assumption) | (rw [natsV_length]; first | lia | omega)) (S_cons ?_)⟩
  rw [natsV_snoc]
  have S7 := S6.setO (L ++ [F.length])
  generalize upd H6 A.oa (.list (natsV (L ++ [F.length]))) = H7 at S7
  walk_at "st"
  refine W_setD S7.d (by rw [enumV, enumF_length]; first | with_reducible exact Int.natCast_nonneg _ | with_reducible assumption | lia | omega) (S_cons ?_)
  rw [← hfl, putK_new]
  have S8 := S7.setD (S7.fd.snoc hf)
  generalize upd H7 A.da (.dct (enumV (fl ++ [.ref lt]))) = H8 at S8
  walk_at "st"
  rw [← bx_app P hts] at S8
  exact RQ.here (hQ _ _ _ _ (by rw [List.length_append]; exact S8))
end
end Mine
end

section
namespace Mine
open PySem PyProof.Rows
section
variable {cx : Cx} {A : Ad} {B : Bx} {L : List Nat} {F : Bx} {nf c : Nat} {fl ps : List V} {H H' H1 K K' : HP} {n : Nat} {a b r pr : Addr} {o : O} {Q : V → HP → Prop} {v u z : V} {vs ws : List V} {f ts us : List Th} {t t' : Th}
structure LD (cx : Cx) (n : Nat) : Prop extends LS cx n where
  int : IntSp cx n
  mn : ManySpec cx n
  th : ThingSpec cx n
  hd : HandedSpec cx n
  md : MadeSpec cx n
  pt : PutSpec cx n
  rp : RPushSpec cx n
noncomputable def seedL (seed : Int) (k : Nat) : List Int := (List.range k).map fun j : Nat => ((seed + 977 * (j : Int)) * 16807).fmod 999979
theorem seedL_mem {seed x : Int} {k : Nat} (h : x ∈ seedL seed k) : 0 ≤ x ∧ x < 1000000 := by
  obtain ⟨j, _, rfl⟩ := List.mem_map.mp h
  have := fmod_pos_bounds ((seed + 977 * (j : Int)) * 16807) (b := 999979) (by decide)
  first | lia | omega
theorem lmade_ms {cell seed : Int} (W : LD cx n) (S : Sh cx A (bx L F) L F F.length fl ps K H) (P : Pn L F) (hc : F.length + ps.length ≤ 90000) (h0 : 0 ≤ seed) (h1 : seed < 1000000)
    (hQ1 : ∀ H', Sh cx A (bx L F) L F F.length fl ps K H' → Q (.bool true) H')
    (hQ2 : ∀ ra' ts fl' v K' H', Sh cx { A with ra := ra' } (bx (L ++ [F.length]) (F ++ [ts])) (L ++ [F.length]) (F ++ [ts]) (F ++ [ts]).length fl' (ps ++ [v]) K' H' → Pn (L ++ [F.length]) (F ++ [ts]) → Q (.bool true) H') :
    mwpSs cx n m_law_made [.ref A.rm, .ref A.st, .int cell, .int seed, .unb, .unb, .unb, .unb, .unb, .unb, .unb, .unb, .unb, .unb] H (NQ Q) (RQ Q) := by
  have hl4 := S.l4
  have hLl := Pn.small hl4
  have hpos := P.pos
  have hn4 := S.R.n4
  have hle := S.R.le
  refine S_cons ?_
  walk_at "st"
  refine S.s0 (S_cons ?_)
  walk_at "st"
  refine S.s1 (S_cons ?_)
  walk_at "st"
  refine W.mn _ _ _ _ fun m hm => ?_
  walk_at "st"
  refine ⟨by decide, by first | with_reducible exact Int.natCast_nonneg _ | with_reducible assumption | lia | omega, C_same (by rw [rangeL_len]; first | with_reducible exact Int.natCast_nonneg _ | with_reducible assumption | lia | omega) trivial (fun k => intsV (seedL seed k)) rfl (fun k x KK hx hK => ?_) (new_abs fun r6 H1 x1 _ e6 => S_cons ?_)⟩
  · obtain ⟨rfl, _⟩ := rangeL_get hx
    rw [Int.zero_add]
    walk_at "st"
    refine ⟨mulOk_l (by decide), mulOk_r (by decide), by decide, hK (some _) ?_⟩
    rw [seedL, List.range_succ, List.map_append, ← ints_append]; rfl
  rw [rangeL_len, show ((m : Int) - 0).toNat = m by first | with_reducible exact Int.natCast_nonneg _ | with_reducible assumption | lia | omega] at e6
  have S1 := S.ext x1
  have hsl : (seedL seed m).length = m := by rw [seedL, List.length_map, List.length_range]
  walk_at "st"
  refine W_iter (lk_of e6) (by first | exact imil (by with_reducible assumption) | (rw [ints_length]; first | lia | omega)) (C_grow (by first | exact imil (by with_reducible assumption) | (rw [ints_length]; first | lia | omega)) (fun H' x => lk_of (x.le _ _ e6)) (fun k acc H' => ∃ ts, All2 (ThAt cx H') acc ts ∧ ts.length = k ∧ ∀ t ∈ ts, OkL L t) ⟨[], All2.nil, rfl, fun _ q => nomatch q⟩ ?_ ?_)
  · rintro k x acc H2 KK hx x2 ⟨ts, ha, htl, hok⟩ hK
    rw [ints_get?] at hx
    obtain ⟨s, hs, rfl⟩ := Option.map_eq_some_iff.mp hx
    obtain ⟨s0, s1⟩ := seedL_mem (List.mem_of_getElem? hs)
    walk_at "st"
    refine W.th _ L _ _ _ ((S1.ext x2).o) hpos hLl s0 s1 fun t tb H3 ht x3 e3 => hK _ H3 x3 ⟨ts ++ [t], (ha.imp fun _ _ q => q.ext x3).snoc ⟨tb, rfl, lk_of e3⟩, by rw [List.length_append, htl]; rfl, fun u hu => (List.mem_append.mp hu).elim (hok u) fun q => by rw [List.mem_singleton.mp q]; exact ht⟩
  rintro acc H2 x2 ⟨ts, ha, htl, hok⟩
  rw [ints_length, hsl] at htl
  refine new_abs fun lt H3 x3 f3 e3 => S_cons ?_
  have y3 := x1.trans (x2.trans x3)
  have S3 := S.ext y3
  have hlt : K lt = none ∧ lt ∉ A.six := ⟨(S1.ext x2).knone f3.1, (S1.ext x2).out f3.1⟩
  replace ha := ha.imp fun _ _ q => q.ext x3
  clear S1 x1 x2 x3 f3 e6
  have hwl := ha.1
  walk_at "st"
  refine W.po _ _ _ L F _ _ S3.o S3.d S3.fh P hl4 fun pr H4 x4 _ hpr => S_cons ?_
  have S4 := S3.ext x4
  replace e3 := x4.le _ _ e3
  replace ha := ha.imp fun _ _ q => q.ext x4
  clear S3 x4
  walk_at "st"
  refine W_iter (lk_of S4.o) (by first | exact nmil (by with_reducible assumption) | (rw [natsV_length]; first | lia | omega)) (C_sum (fun _ => true) P hLl (lk_of S4.o) (fun k i f KK hk hf hK => ?_) fun r5 H5 x5 e5 => ?_)
  · walk_at "st"
    refine W_flen S4.d S4.fh hf (Nat.le_of_lt (Pn.fsmall hl4 hk hf)) ?_
    walk_at "st"
    exact hK true rfl
  refine W_sum (lk_of e5) (by rw [gl_all P]; first | with_reducible exact Int.natCast_nonneg _ | with_reducible assumption | lia | omega) ?_
  rw [gl_all P]
  have S5 := S4.ext x5
  replace e3 := x5.le _ _ e3
  replace ha := ha.imp fun _ _ q => q.ext x5
  replace hpr := x5.le _ _ hpr
  clear S4 x5 e5
  refine S_cons ?_
  walk_at "st"
  refine W_iter (lk_of e3) (by first | with_reducible exact Int.natCast_nonneg _ | with_reducible assumption | lia | omega) (C_handed W.hd P.nd hpr ha hok (by first | with_reducible exact Int.natCast_nonneg _ | with_reducible assumption | lia | omega) (fun H' x => lk_of (x.le _ _ e3)) (fun b H1 KK q => ?_) fun vs H6 x6 hvs => ?_)
  · walk_at "st"
    exact q
  refine new_abs fun du H7 x7 _ e7 => S_cons ?_
  have hvl : vs.length = m := by rw [hvs.1, List.length_map]; first | with_reducible exact Int.natCast_nonneg _ | with_reducible assumption | lia | omega
  walk_at "st"
  refine W_list (sq_l (lk_of e7)) (by first | with_reducible exact Int.natCast_nonneg _ | with_reducible assumption | lia | omega) (new_abs fun hh H8 x8 f8 e8 => S_cons ?_)
  have y8 := x6.trans (x7.trans x8)
  have S8 := S5.ext y8
  have hk8 : K hh = none ∧ hh ∉ A.six := ⟨(S5.ext (x6.trans x7)).knone f8.1, (S5.ext (x6.trans x7)).out f8.1⟩
  have hne : lt ≠ hh := f8.ne' ((x6.trans x7).le _ _ e3)
  replace e3 := y8.le _ _ e3
  replace ha := ha.imp fun _ _ q => q.ext y8
  replace e7 := x8.le _ _ e7
  replace hvs := hvs.imp fun _ _ q => q.ext (x7.trans x8)
  clear S5 x6 x7 x8 f8 y8 hpr
  rw [show (ts.map fun t => plt (bx L F) (renT L t)) = (ts.map (renT L)).map (plt (bx L F)) from (List.map_map (f := renT L) (g := plt (bx L F))).symm] at hvs
  have hrl : (ts.map (renT L)).length = ts.length := List.length_map _
  walk_at "st"
  refine ⟨S8.R.no fun _ _ => rfl, W.md.ok S8.R (lk_of e8) hvs (fun t ht => ?_) (by first | with_reducible exact Int.natCast_nonneg _ | with_reducible assumption | lia | omega) (fun q => ?_) fun q ra' H9 R9 f9 b9 k9 => ?_⟩
  · obtain ⟨u, hu, rfl⟩ := List.mem_map.mp ht
    exact okl_ok (hok u hu)
  · walk_at "st"
    refine ⟨rfl, W_len (sq_l (lk_of e3)) (by first | with_reducible exact Int.natCast_nonneg _ | with_reducible assumption | lia | omega) ?_⟩
    walk_at "st"
    refine S8.s2 ?_
    walk_at "st"
    refine ifB_t' (decide_eq_true (by first | with_reducible exact Int.natCast_nonneg _ | with_reducible assumption | lia | omega)) ?_
    walk_at "st"
    exact onO_of (show cmpP cx .Eq (.ref hh) (.ref du) H8 = some true from eq_same (lk_of e8) (lk_of e7) (same_items (items_of hvs))) (RQ.here (hQ1 _ S8))
  · have S9 := S8.room R9 (.inr f9.1) (fun a o h1 _ h3 => b9 a o h1 h3) k9
    have ndx : ∀ {a vs}, H8 a = some (.list vs) → a ≠ A.dx := fun {a vs} e q => by rw [q, S8.R.d] at e; cases e
    have nsix : ∀ {a vs}, H8 a = some (.list vs) → a ∉ A.six → a ∉ ({ A with ra := ra' } : Ad).six := fun {a vs} e q q2 => by
      unfold Ad.six at q q2
      simp only [List.mem_cons, List.not_mem_nil, or_false, not_or] at q q2
      obtain ⟨q1, _, q3, q4, q5, q6⟩ := q
      rcases q2 with q2 | q2 | q2 | q2 | q2 | q2
      · exact q1 q2
      · rw [q2, f9.1] at e; cases e
      · exact q3 q2
      · exact q4 q2
      · exact q5 q2
      · exact q6 q2
    have hth : ∀ {v t}, ThAt cx H8 v t → ThAt cx H9 v t := fun ⟨b, h1, h2⟩ => ⟨b, h1, lk_of (b9 _ _ (fun q => by have h4 := lk_tup h2; rw [q, S8.R.d] at h4; cases h4) (lk_tup h2))⟩
    walk_at "st"
    exact made2 (A := { A with ra := ra' }) W.int P hc hok (show _ ≤ A.N by first | with_reducible exact Int.natCast_nonneg _ | with_reducible assumption | lia | omega) S9 hLl (b9 _ _ (ndx e8) e8) hk8.1 (nsix e8 hk8.2) (b9 _ _ (ndx e7) e7) (fun v hv => by
      rcases items_of hvs v hv with q | ⟨t, q⟩
      · exact .inl q
      · exact .inr ⟨t, hth q⟩) (by first | with_reducible exact Int.natCast_nonneg _ | with_reducible assumption | lia | omega) (b9 _ _ (ndx e3) e3) (ha.imp fun _ _ => hth) (nsix e3 hlt.2) hne fun fl' v K' H' S' => hQ2 ra' ts fl' v K' H' S' (pn_app P hok)
noncomputable def LMadeSpec (cx : Cx) (n : Nat) : Prop := ∀ (N : Nat) (rm st sa : Addr) (al : Bool) (c : Nat) (cell seed : Int) (H : HP) (Q : V → HP → Prop), St cx N rm st sa al c H → c ≤ 90000 → 0 ≤ seed → seed < 1000000 → (∀ H', St cx N rm st sa false (c + 20) H' → Q (.bool true) H') → CallP cx n 371 [.ref rm, .ref st, .int cell, .int seed] H Q
theorem lmade_st {N : Nat} {rm st sa : Addr} {al : Bool} {cell seed : Int} (W : LD cx n) (S : St cx N rm st sa al c H) (hc : c ≤ 90000) (h0 : 0 ≤ seed) (h1 : seed < 1000000) (hQ : ∀ H', St cx N rm st sa false (c + 20) H' → Q (.bool true) H') :
    mwpSs cx n m_law_made [.ref rm, .ref st, .int cell, .int seed, .unb, .unb, .unb, .unb, .unb, .unb, .unb, .unb, .unb, .unb] H (NQ Q) (RQ Q) := by
  obtain ⟨A, L, F, fl, ps, K, rfl, rfl, rfl, rfl, S, P, hl, ha⟩ := S
  refine lmade_ms W S P (by first | with_reducible exact Int.natCast_nonneg _ | with_reducible assumption | lia | omega) h0 h1 (fun H' S' => hQ H' ⟨A, L, F, fl, ps, K, rfl, rfl, rfl, rfl, S', P, by first | with_reducible exact Int.natCast_nonneg _ | with_reducible assumption | lia | omega, nofun⟩) fun ra' ts fl' v K' H' S' P' => hQ H' ⟨{ A with ra := ra' }, _, _, _, _, _, rfl, rfl, rfl, rfl, S', P', ?_, nofun⟩
  rw [List.length_append, List.length_append, List.length_singleton, List.length_singleton]; first | with_reducible exact Int.natCast_nonneg _ | with_reducible assumption | lia | omega
end
end Mine
end

section
namespace Mine
open PySem PyProof.Rows
section
variable {cx : Cx} {A : Ad} {B : Bx} {L : List Nat} {F : Bx} {nf c : Nat} {fl ps : List V} {H H' H1 K K' : HP} {n : Nat} {a b r pr : Addr} {o : O} {Q : V → HP → Prop} {v u z : V} {vs ws : List V} {f ts us : List Th} {t t' : Th} {N' : List V → HP → Prop} {RR : V → HP → Prop}
theorem All2.set {α β : Type} {R : α → β → Prop} {xs : List α} {ys : List β} (h : All2 R xs ys) {x : α} {y : β} (i : Nat) (hr : R x y) : All2 R (xs.set i x) (ys.set i y) := by
  refine ⟨by simp [h.1], fun j u w hu hw => ?_⟩
  rw [List.getElem?_set] at hu hw
  by_cases q : i = j
  · subst q
    rw [if_pos rfl] at hu hw
    split at hu
    · split at hw
      · cases hu; cases hw; exact hr
      · cases hw
    · cases hu
  · rw [if_neg q] at hu hw
    exact h.2 j u w hu hw
theorem PutSpec.ok (h : PutSpec cx n) {N k j : Nat} {rm dx ra : Addr} (R : RoomAt N rm dx ra B H) (hk : B[k]? = some f) (hj : j < f.length) (ht : ThAt cx H v (plt B t)) (hok : OkT B t)
    (hQ : ∀ H', RoomAt N rm dx ra (B.set k (f.set j t)) H' → But ra H H' → KZ cx H H' → Q .none H') : CallP cx n 253 [.ref rm, .int (pl B k), .int j, v] H Q := by
  have hkl := (List.getElem?_eq_some_iff.mp hk).1
  have key : ∀ {k' f'}, (V.int (pl B k : Int)) = .int (pl B k') → B[k']? = some f' → k = k' ∧ f = f' := fun {k' f'} e hk' => by
    have : k = k' := pl_inj hkl (List.getElem?_eq_some_iff.mp hk').1 (by injection e with e; exact Int.ofNat.inj e)
    subst this
    rw [hk] at hk'; cases hk'
    exact ⟨rfl, rfl⟩
  refine h _ _ _ _ _ _ _ _ _ _ R trivial trivial (.inl ⟨_, ht⟩) (fun q => (q ⟨_, rfl, mem_plI.mpr ⟨k, hkl, rfl⟩⟩).elim) (fun k' f' e hk' q => ?_) (fun _ _ _ _ _ _ _ q => (q.notTh ht).elim) (fun _ _ _ t2 _ _ _ _ q1 q2 q3 => ?_) fun k' f' j' t2 e hk' ej hj' q1 q2 => ?_
  · obtain ⟨rfl, rfl⟩ := key e hk'
    exact (q ⟨j, rfl, hj⟩).elim
  · rw [q1.uniq ht] at q2 q3
    exact (q3 (plt_in hok q2)).elim
  · obtain ⟨rfl, rfl⟩ := key e hk'
    have : j = j' := by injection ej with ej; exact Int.ofNat.inj ej
    subst this
    rw [plt_inj q2 hok (q1.uniq ht)]
    exact hQ
noncomputable def m_law_put : MSs :=
  (.cons (.assign 3 (.sub (.loc 1) (.cint (0))))
  (.cons (.assign 4 (.sub (.loc 1) (.cint (1))))
  (.cons (.assign 5 (.sub (.loc 3) (.bin .Mod (.loc 2) (.callb .len (.cons (.loc 3) .nil)))))
  (.cons (.ite (.cmp (.bin .Mod (.bin .FloorDiv (.loc 2) (.cint (7))) (.cint (3))) .Eq (.cint (0))) (.cons (.assign 5 (.cint (0)))
    .nil) .nil)
  (.cons (.ite (.cmp (.callb .len (.cons (.dsub (.loc 4) (.loc 5)) .nil)) .Eq (.cint (0))) (.cons (.ret (.cbool true))
    .nil) .nil)
  (.cons (.assign 6 (.bin .Mod (.bin .FloorDiv (.loc 2) (.cint (21))) (.callb .len (.cons (.dsub (.loc 4) (.loc 5)) .nil))))
  (.cons (.assign 7 (.callf 347 (.cons (.bin .Mod (.bin .Mult (.bin .FloorDiv (.loc 2) (.cint (500))) (.cint (16807))) (.cint (999979))) (.cons (.loc 3) .nil))))
  (.cons (.assign 8 (.callf 333 (.cons (.loc 3) (.cons (.loc 4) .nil))))
  (.cons (.ite (.not (.callf 319 (.cons (.callm 296 (Str.ofString "come_to") 272 0 .nil) (.cons (.comp (.dsub (.loc 8) (.loc 11)) (.callf 359 (.cons (.loc 3) (.cons (.loc 4) .nil))) (.cbool true)) .nil)))) (.cons (.ret (.cbool false))
    .nil) .nil)
  (.cons (.assign 9 (.callm 296 (Str.ofString "put") 253 0 (.cons (.dsub (.loc 8) (.loc 5)) (.cons (.loc 6) (.cons (.callf 354 (.cons (.loc 7) (.cons (.loc 8) .nil))) .nil)))))
  (.cons (.assign 10 (.callb .list (.cons (.dsub (.loc 4) (.loc 5)) .nil)))
  (.cons (.setSub (.loc 10) (.loc 6) (.loc 7))
  (.cons (.setD (.loc 4) (.loc 5) (.loc 10))
  (.cons (.ite (.not (.callf 319 (.cons (.callm 296 (Str.ofString "come_to") 272 0 .nil) (.cons (.comp (.dsub (.loc 8) (.loc 11)) (.callf 359 (.cons (.loc 3) (.cons (.loc 4) .nil))) (.cbool true)) .nil)))) (.cons (.ret (.cbool false))
    .nil) .nil)
  (.cons (.ret (.cmp (.loc 9) .Is .cnone))
  .nil)))))))))))))))
theorem pt_come {z2 z5 z6 z7 z9 z10 : V} (W : LD cx n) (S : Sh cx A (bx L F) L F nf fl ps K H) (P : Pn L F) (hpr : H pr = some (.dct (plK L (bx L F) L.length))) (hN : ∀ H', Ext cx H H' → N' [.ref A.rm, .ref A.st, z2, .ref A.oa, .ref A.da, z5, z6, z7, .ref pr, z9, z10] H') :
    mwpS cx n (.ite (.not (.callf 319 (.cons (.callm 296 (Str.ofString "come_to") 272 0 .nil) (.cons (.comp (.dsub (.loc 8) (.loc 11)) (.callf 359 (.cons (.loc 3) (.cons (.loc 4) .nil))) (.cbool true)) .nil)))) (.cons (.ret (.cbool false)) .nil) .nil) [.ref A.rm, .ref A.st, z2, .ref A.oa, .ref A.da, z5, z6, z7, .ref pr, z9, z10] H N' RR := by
  have hl4 := S.l4
  have hLl := Pn.small hl4
  have hbl := bx_len L F
  walk_at "st"
  refine ⟨S.R.no fun _ _ => rfl, W.ct _ _ _ _ _ _ _ S.R fun q1 H1 p x1 _ hp hq1 => ?_⟩
  have S1 := S.ext x1
  refine W.lc _ _ _ L F _ _ S1.o S1.d S1.fh P hl4 fun q2 H2 p' x2 _ hp' hq2 => ?_
  have e := reach_eq hp hp'
  subst e
  have hkk : (kl p L.length).length ≤ L.length := Nat.le_trans (List.length_filter_le _ _) (by simp)
  have hkl : (keepL L p).length ≤ L.length := by rw [keepL, List.length_map]; exact hkk
  refine W_iter (lk_of hq2) (by first | exact nmil (by with_reducible assumption) | (rw [natsV_length]; first | lia | omega)) (C_kept P.nd hLl (x2.le _ _ (x1.le _ _ hpr)) (lk_of hq2) (fun i KK q => ?_) fun q3 H3 x3 _ hq3 => ?_)
  · walk_at "st"
    exact q
  rw [hbl] at hq1
  refine W.wd _ _ _ _ _ (x3.le _ _ (x2.le _ _ hq1)) (lk_of hq3) (by rw [List.length_map, List.length_map]; first | with_reducible exact Int.natCast_nonneg _ | with_reducible assumption | lia | omega) ?_
  walk_at "st"
  exact S_nil (hN _ (x1.trans (x2.trans x3)))
theorem plK_set {k : Nat} {g : List Th} (hk : B[k]? = some f) (hg : g.length = f.length) (m : Nat) : plK L (B.set k g) m = plK L B m := by
  unfold plK
  exact List.map_congr_left fun j _ => by rw [pl_set hk hg]
theorem lput2 {seed : Int} {i k : Nat} (W : LD cx n) (S : Sh cx A (bx L F) L F F.length fl ps K H) (P : Pn L F) (hc : F.length + ps.length ≤ 90000) (hk : L[k]? = some i)
    (hQ1 : ∀ H', Sh cx A (bx L F) L F F.length fl ps K H' → Q (.bool true) H')
    (hQ2 : ∀ F' fl' K' H', Sh cx A (bx L F') L F' F'.length fl' ps K' H' → Pn L F' → F'.length = F.length → Q (.bool true) H') :
    mwpSs cx n (dropS 4 m_law_put) [.ref A.rm, .ref A.st, .int seed, .ref A.oa, .ref A.da, .int i, .unb, .unb, .unb, .unb, .unb] H (NQ Q) (RQ Q) := by
  have hl4 := S.l4
  have hLl := Pn.small hl4
  have hpos := P.pos
  obtain ⟨f, hf⟩ := P.at_ hk
  have hfs := Pn.fsmall hl4 hk hf
  have hfl := S.fd.1
  have hil := (List.getElem?_eq_some_iff.mp hf).1
  refine S_cons ?_
  walk_at "st"
  refine W_flen S.d S.fh hf (by first | with_reducible exact Int.natCast_nonneg _ | with_reducible assumption | lia | omega) ?_
  walk_at "st"
  rw [eqv_int]
  refine ifB_of (fun q => S_cons ?_) fun q => S_nil (S_cons ?_)
  · walk_at "st"
    exact RQ.here (hQ1 _ S)
  have hf0 : 0 < f.length := by
    have := beq_eq_false_iff_ne.mp q
    first | lia | omega
  clear q
  walk_at "st"
  refine ⟨by decide, W_flen S.d S.fh hf (by first | with_reducible exact Int.natCast_nonneg _ | with_reducible assumption | lia | omega) ?_⟩
  walk_at "st"
  obtain ⟨j, hj1, hj2⟩ : ∃ j : Nat, (seed.fdiv 21).fmod (f.length : Int) = (j : Int) ∧ j < f.length := by
    obtain ⟨b1, b2⟩ := fmod_pos_bounds (seed.fdiv 21) (b := (f.length : Int)) (by first | with_reducible exact Int.natCast_nonneg _ | with_reducible assumption | lia | omega)
    exact ⟨_, (Int.toNat_of_nonneg b1).symm, by first | with_reducible exact Int.natCast_nonneg _ | with_reducible assumption | lia | omega⟩
  rw [hj1]
  refine ⟨by first | with_reducible exact Int.natCast_nonneg _ | with_reducible assumption | lia | omega, S_cons ?_⟩
  walk_at "st"
  obtain ⟨s0, s1⟩ := fmod_pos_bounds (seed.fdiv 500 * 16807) (b := 999979) (by decide)
  refine ⟨by decide, mulOk_r (by decide), by decide, W.th _ L _ _ _ S.o hpos hLl s0 (by first | with_reducible exact Int.natCast_nonneg _ | with_reducible assumption | lia | omega) fun t tb H1 hok x1 e1 => S_cons ?_⟩
  have S1 := S.ext x1
  walk_at "st"
  refine W.po _ _ _ L F _ _ S1.o S1.d S1.fh P hl4 fun pr H2 x2 f2 hpr => S_cons (pt_come W (S1.ext x2) P hpr fun H3 x3 => S_cons ?_)
  have y3 := x2.trans x3
  have S3 := S1.ext y3
  have nda : pr ≠ A.ra := fun q => by rw [q, S1.R.r] at f2; cases f2
  have ndd : pr ≠ A.da := fun q => by rw [q, S1.d] at f2; cases f2
  replace hpr := x3.le _ _ hpr
  replace e1 := y3.le _ _ e1
  clear S1 x2 x3 y3 f2
  walk_at "st"
  refine ⟨S3.R.no fun _ _ => rfl, W_plc P.nd hpr hk (W.hd _ L (bx L F) _ t _ _ P.nd ⟨tb, rfl, lk_of e1⟩ hpr hok fun v H4 x4 hv => ?_)⟩
  have S4 := S3.ext x4
  obtain ⟨bv, rfl, hbv⟩ := hv
  walk_at "st"
  refine W.pt.ok S4.R (bx_get hk hf) (by rw [List.length_map]; exact hj2) ⟨bv, rfl, hbv⟩ (okl_ok hok) fun H5 R5 b5 k5 => S_cons ?_
  have S5 := S4.room R5 (.inl rfl) (fun a o _ h2 h3 => b5 a o h2 h3) k5
  rw [← bx_set (j := j) (t := t) P hk hf] at S5
  have hpr5 := b5 _ _ nda (x4.le _ _ hpr)
  have e5 : H5 tb = some (.tup (thV t)) := b5 _ _ (fun q => by have h6 := x4.le _ _ e1; rw [q, S4.R.r] at h6; cases h6) (x4.le _ _ e1)
  clear S3 S4 x4 b5 k5 R5 hpr e1 hbv
  walk_at "st"
  refine W_fld S5.d S5.fh hf fun a ws ha hws => W_list (sq_l (lk_of ha)) (by rw [hws.1]; first | with_reducible exact Int.natCast_nonneg _ | with_reducible assumption | lia | omega) (new_abs fun r6 H6 x6 f6 e6 => S_cons ?_)
  have S6 := S5.ext x6
  have hwl := hws.1
  replace hws := hws.imp fun _ _ q => q.ext x6
  have t6 := x6.le _ _ e5
  have n6 := S5.out f6.1
  have k6 := S5.knone f6.1
  have hpr6 := x6.le _ _ hpr5
  have npr : pr ≠ r6 := fun q => by rw [q, f6.1] at hpr5; cases hpr5
  clear S5 x6 e5 hpr5
  walk_at "st"
  refine W_setSub e6 (by first | with_reducible exact Int.natCast_nonneg _ | with_reducible assumption | lia | omega) (by first | with_reducible exact Int.natCast_nonneg _ | with_reducible assumption | lia | omega) (by rw [Int.toNat_natCast, hwl]; exact hj2) (S_cons ?_)
  rw [Int.toNat_natCast]
  have S7 := S6.poke e6 k6 n6 (ws.set j (.ref tb))
  have e7 : (upd H6 r6 (.list (ws.set j (.ref tb)))) r6 = some (.list (ws.set j (.ref tb))) := upd_same _ _ _
  have h7 : All2 (ThAt cx (upd H6 r6 (.list (ws.set j (.ref tb))))) (ws.set j (.ref tb)) (f.set j t) := (hws.imp fun _ _ q => ThAt.set e6 q).set j (ThAt.set e6 ⟨tb, rfl, lk_of t6⟩)
  have hpr7 : (upd H6 r6 (.list (ws.set j (.ref tb)))) pr = some (.dct (plK L (bx L F) L.length)) := by rw [upd_ne _ npr]; exact hpr6
  generalize upd H6 r6 (.list (ws.set j (.ref tb))) = H7 at S7 e7 h7 hpr7
  clear S6 e6 hws t6 k6 hpr6
  walk_at "st"
  refine W_setD S7.d (by rw [enumV, enumF_length]; first | with_reducible exact Int.natCast_nonneg _ | with_reducible assumption | lia | omega) (S_cons ?_)
  rw [putK_set (by first | with_reducible exact Int.natCast_nonneg _ | with_reducible assumption | lia | omega)]
  have nt := S7.nt
  obtain ⟨S7a, _⟩ := S7.all [] fun _ q => nomatch q
  have S8 := S7a.setD (S7a.fd.set i (x := .ref r6) (y := f.set j t) ⟨r6, _, rfl, frz_at n6 e7, h7.imp fun _ _ q => frz_th nt q⟩)
  have hpr8 : (upd H7 A.da (.dct (enumV (fl.set i (.ref r6))))) pr = some (.dct (plK L (bx L (F.set i (f.set j t))) L.length)) := by
    rw [bx_set P hk hf, plK_set (bx_get hk hf) (by simp), upd_ne _ ndd]
    exact hpr7
  generalize upd H7 A.da (.dct (enumV (fl.set i (.ref r6)))) = H8 at S8 hpr8
  have P8 := pn_set (j := j) P hf hok
  refine pt_come W S8 P8 hpr8 fun H9 x9 => S_cons ?_
  walk_at "st"
  exact RQ.here (hQ2 _ _ _ _ (by rw [List.length_set]; exact S8.ext x9) P8 (List.length_set ..))
end
end Mine
end

section
namespace Mine
open PySem PyProof.Rows
section
variable {cx : Cx} {A : Ad} {B : Bx} {L : List Nat} {F : Bx} {nf c N : Nat} {fl ps : List V} {H H' H1 K K' : HP} {n : Nat} {a b r pr rm dx ra st sa : Addr} {o : O} {Q : V → HP → Prop} {v u z : V} {vs ws : List V} {f ts us : List Th} {t t' : Th} {al : Bool} {i seed : Int}
noncomputable def LPutSpec (cx : Cx) (n : Nat) : Prop := ∀ (N : Nat) (rm st sa : Addr) (al : Bool) (c : Nat) (seed : Int) (H : HP) (Q : V → HP → Prop), St cx N rm st sa al c H → c ≤ 90000 → (∀ H', St cx N rm st sa false (c + 20) H' → Q (.bool true) H') → CallP cx n 376 [.ref rm, .ref st, .int seed] H Q
theorem lput_st (W : LD cx n) (S : St cx N rm st sa al c H) (hc : c ≤ 90000) (hQ : ∀ H', St cx N rm st sa false (c + 20) H' → Q (.bool true) H') :
    mwpSs cx n m_law_put [.ref rm, .ref st, .int seed, .unb, .unb, .unb, .unb, .unb, .unb, .unb, .unb] H (NQ Q) (RQ Q) := by
  obtain ⟨A, L, F, fl, ps, K, rfl, rfl, rfl, rfl, S, P, hl, ha⟩ := S
  have hl4 := S.l4
  have hLl := Pn.small hl4
  have hpos := P.pos
  have go := fun (i k : Nat) (hk : L[k]? = some i) => lput2 (Q := Q) (seed := seed) W S P (by first | with_reducible exact Int.natCast_nonneg _ | with_reducible assumption | lia | omega) hk (fun H' S' => hQ H' ⟨A, L, F, fl, ps, K, rfl, rfl, rfl, rfl, S', P, by first | with_reducible exact Int.natCast_nonneg _ | with_reducible assumption | lia | omega, nofun⟩) fun F' fl' K' H' S' P' hl' => hQ H' ⟨A, L, F', fl', ps, K', rfl, rfl, rfl, rfl, S', P', by first | with_reducible exact Int.natCast_nonneg _ | with_reducible assumption | lia | omega, nofun⟩
  refine S_cons ?_
  walk_at "st"
  refine S.s0 (S_cons ?_)
  walk_at "st"
  refine S.s1 (S_cons ?_)
  walk_at "st"
  refine W_len (sq_l (lk_of S.o)) (by first | exact nmil (by with_reducible assumption) | (rw [natsV_length]; first | lia | omega)) ?_
  rw [natsV_length]
  walk_at "st"
  obtain ⟨b1, b2⟩ := fmod_pos_bounds seed (b := (L.length : Int)) (by first | with_reducible exact Int.natCast_nonneg _ | with_reducible assumption | lia | omega)
  have hk : L[(seed.fmod (L.length : Int)).toNat]? = some _ := List.getElem?_eq_getElem (show (seed.fmod (L.length : Int)).toNat < L.length by first | with_reducible exact Int.natCast_nonneg _ | with_reducible assumption | lia | omega)
  refine ⟨by first | with_reducible exact Int.natCast_nonneg _ | with_reducible assumption | lia | omega, W_sub (sq_l (lk_of S.o)) b1 (by first | exact nmil (by with_reducible assumption) | (rw [natsV_length]; first | lia | omega)) (by rw [natsV_get?, hk]; rfl) (S_cons ?_)⟩
  walk_at "st"
  refine ⟨by decide, by decide, ?_⟩
  refine ifB_of (fun _ => S_cons ?_) fun _ => S_nil (go _ _ hk)
  walk_at "st"
  exact S_nil (go 0 0 P.hd)
noncomputable def m_law_refused : MSs :=
  (.cons (.try_ (.ite (.cmp (.loc 1) .Eq (.cint (0))) (.act none (.mt 296 (Str.ofString "told") 260 0) (.cons (.loc 2) .nil)) (.ite (.cmp (.loc 1) .Eq (.cint (1))) (.act none (.mt 296 (Str.ofString "made") 246 0) (.cons (.list (.cons (.tup (.cons (.cstr (Str.ofString "number")) (.cons (.cint (1)) .nil))) (.cons (.tup (.cons (.cstr (Str.ofString "box")) (.cons (.loc 2) .nil))) .nil))) .nil)) (.act none (.mt 296 (Str.ofString "put") 253 0) (.cons (.loc 2) (.cons (.cint (0)) (.cons (.tup (.cons (.cstr (Str.ofString "number")) (.cons (.cint (1)) .nil))) .nil)))))) 61 (.cbool true))
  (.cons (.ret (.cbool false))
  .nil))
noncomputable def m_law_no_boxes : MSs :=
  (.cons (.assign 4 (.callf 333 (.cons (.sub (.loc 1) (.cint (0))) (.cons (.sub (.loc 1) (.cint (1))) .nil))))
  (.cons (.assign 5 (.comp (.dsub (.loc 4) (.loc 8)) (.sub (.loc 1) (.cint (0))) (.cbool true)))
  (.cons (.assign 6 (.bin .Add (.bin .Add (.compR (.bin .Sub (.bin .Mod (.bin .Add (.loc 2) (.bin .Mult (.cint (31)) (.loc 8))) (.bin .Add (.sub (.loc 1) (.cint (2))) (.cint (3)))) (.cint (1))) (.cint (0)) (.cint (6)) (.cbool true)) (.slice (.slice (.loc 3) (.bin .Mod (.loc 2) (.callb .len (.cons (.loc 3) .nil))) .cnone) .cnone (.cint (6)))) (.slice (.loc 3) (.neg (.cint (2))) .cnone)))
  (.cons (.forR 7 (.cint (0)) (.callb .len (.cons (.loc 6) .nil)) (.cons (.ite (.bop .And (.cons (.cmp (.sub (.loc 6) (.loc 7)) .NotIn (.loc 5)) (.cons (.not (.callf 400 (.cons (.loc 0) (.cons (.bin .Mod (.bin .Add (.loc 2) (.loc 7)) (.cint (3))) (.cons (.sub (.loc 6) (.loc 7)) .nil))))) .nil))) (.cons (.ret (.cbool false))
      .nil) .nil)
    .nil))
  (.cons (.ret (.cbool true))
  .nil)))))
noncomputable def m_law_pushed : MSs :=
  (.cons (.assign 2 (.callf 359 (.cons (.sub (.loc 1) (.cint (0))) (.cons (.sub (.loc 1) (.cint (1))) .nil))))
  (.cons (.assign 3 (.callb .sum (.cons (.comp (.bin .Add (.cint (1)) (.callb .len (.cons (.dsub (.sub (.loc 1) (.cint (1))) (.loc 7)) .nil))) (.sub (.loc 1) (.cint (0))) (.cmp (.loc 7) .NotIn (.loc 2))) .nil)))
  (.cons (.assign 4 (.callf 333 (.cons (.sub (.loc 1) (.cint (0))) (.cons (.sub (.loc 1) (.cint (1))) .nil))))
  (.cons (.assign 5 (.comp (.dsub (.loc 4) (.loc 7)) (.sub (.loc 1) (.cint (0))) (.cbool true)))
  (.cons (.assign 6 (.callm 296 (Str.ofString "pushed") 279 0 .nil))
  (.cons (.expr (.pop true (.sub (.loc 1) (.cint (0)))))
  (.cons (.expr (.app true (.sub (.loc 1) (.cint (0))) (.loc 2)))
  (.cons (.ite (.bop .Or (.cons (.not (.callf 319 (.cons (.list (.cons (.loc 6) .nil)) (.cons (.list (.cons (.loc 3) .nil)) .nil)))) (.cons (.not (.callf 405 (.cons (.loc 0) (.cons (.loc 1) (.cons (.bin .Add (.bin .Mult (.loc 3) (.cint (977))) (.callb .len (.cons (.loc 2) .nil))) (.cons (.loc 5) .nil)))))) .nil))) (.cons (.ret (.cbool false))
    .nil) .nil)
  (.cons (.ret (.callf 386 (.cons (.loc 0) (.cons (.loc 1) .nil))))
  .nil)))))))))
theorem refused_ms (htd : ToldSpec cx n) (hmd : MadeSpec cx n) (hpt : PutSpec cx n) (R : RoomAt N rm dx ra B H) (hi : i ∉ plI B) {cc : Int} (hQ : Q (.bool true) H) :
    mwpSs cx n m_law_refused [.ref rm, .int cc, .int i] H (NQ Q) (RQ Q) := by
  have no : ∀ {k f}, V.int i = .int (pl B k) → B[k]? = some f → False := fun {k f} e hk => hi (by injection e with e; rw [e]; exact mem_plI.mpr ⟨k, (List.getElem?_eq_some_iff.mp hk).1, rfl⟩)
  refine S_cons ?_
  walk_at "st"
  rw [eqv_int]
  refine ifB_of (fun _ => ?_) fun _ => ?_
  · exact ⟨R.no fun _ _ => rfl, htd _ _ _ _ _ _ _ _ R trivial (fun _ => ⟨rfl, RQ.here hQ⟩) fun k f e hk => (no e hk).elim⟩
  rw [eqv_int]
  refine ifB_of (fun _ => ?_) fun _ => ?_
  · refine ⟨R.no fun _ _ => rfl, show 2 ≤ 16777216 by decide, new_abs fun b1 H1 x1 _ e1 => ⟨show 2 ≤ 16777216 by decide, new_abs fun b2 H2 x2 _ e2 => ⟨show 2 ≤ 16777216 by decide, new_abs fun l H3 x3 _ e3 => ?_⟩⟩⟩
    have x := x1.trans (x2.trans x3)
    have hts : All2 (ThAt cx H3) [.ref b1, .ref b2] [(false, 1), (true, i)] := (All2.nil.cons ⟨b2, rfl, lk_of (x3.le _ _ e2)⟩).cons ⟨b1, rfl, lk_of (x3.le _ _ (x2.le _ _ e1))⟩
    have hth : ∀ v ∈ ([.ref b1, .ref b2] : List V), ∃ t, ThAt cx H3 v t := fun v hv => by
      obtain ⟨i, hi⟩ := List.getElem?_of_mem hv
      obtain ⟨t, _, g⟩ := hts.get hi
      exact ⟨t, g⟩
    have bad : ∀ us : List Th, All2 (ThAt cx H3) [.ref b1, .ref b2] (us.map (plt B)) → (∀ t ∈ us, OkT B t) → False := fun us a1 a2 => by
      have e := ths_uniq a1 hts
      have hm : (true, i) ∈ us.map (plt B) := by rw [e]; simp
      obtain ⟨u, hu, e2⟩ := List.mem_map.mp hm
      have := plt_in (a2 u hu) (by rw [e2])
      rw [e2] at this
      exact hi this
    refine hmd _ _ _ _ _ _ _ _ _ (R.ext x.le) (lk_of e3) (show 2 ≤ 1000 by decide) (fun v hv => .inl (hth v hv)) (fun ⟨v, hv, g⟩ => ?_) (fun _ _ _ => ⟨rfl, H, x.le, hQ⟩) (fun us a1 a2 _ => (bad us a1 a2).elim) fun us a1 a2 _ => (bad us a1 a2).elim
    obtain ⟨t, g'⟩ := hth v hv
    exact (g.notTh g').elim
  · refine ⟨R.no fun _ _ => rfl, show 2 ≤ 16777216 by decide, new_abs fun b1 H1 x1 _ e1 => ?_⟩
    exact hpt _ _ _ _ _ _ _ _ _ _ (R.ext x1.le) trivial trivial (.inl ⟨(false, 1), b1, rfl, lk_of e1⟩) (fun _ => ⟨rfl, H, x1.le, hQ⟩) (fun k f e hk _ => (no e hk).elim) (fun k f _ e hk _ _ _ => (no e hk).elim) (fun k f _ _ e hk _ _ _ _ _ => (no e hk).elim) fun k f _ _ e hk _ _ _ _ => (no e hk).elim
noncomputable def RefusedSpec (cx : Cx) (n : Nat) : Prop := ∀ (N : Nat) (rm dx ra : Addr) (B : Bx) (cc i : Int) (H : HP) (Q : V → HP → Prop), RoomAt N rm dx ra B H → i ∉ plI B → Q (.bool true) H → CallP cx n 400 [.ref rm, .int cc, .int i] H Q
theorem noboxes_ms {be : Addr} {bs : List Int} (hpo : PlacesOfSpec cx n) (hrf : RefusedSpec cx n) (S : Sh cx A (bx L F) L F nf fl ps K H) (P : Pn L F) (hb : H be = some (.list (intsV bs))) (hb1 : 0 < bs.length) (hb2 : bs.length ≤ 1000)
    (hQ : ∀ H', Ext cx H H' → Q (.bool true) H') :
    mwpSs cx n m_law_no_boxes [.ref A.rm, .ref A.st, .int seed, .ref be, .unb, .unb, .unb, .unb] H (NQ Q) (RQ Q) := by
  have hl4 := S.l4
  have hLl := Pn.small hl4
  refine S_cons ?_
  walk_at "st"
  refine S.s0 (S.s1 (hpo _ _ _ L F _ _ S.o S.d S.fh P hl4 fun pr H1 x1 _ hpr => S_cons ?_))
  have S1 := S.ext x1
  walk_at "st"
  refine S1.s0 (W_iter (lk_of S1.o) (by first | exact nmil (by with_reducible assumption) | (rw [natsV_length]; first | lia | omega)) (C_places P.nd hLl (bx_len L F) hpr (lk_of S1.o) (fun i KK q => ?_) fun ev H2 x2 _ e2 => S_cons ?_))
  · walk_at "st"
    exact q
  have S2 := S1.ext x2
  have y2 := x1.trans x2
  clear S1 x1 x2 hpr
  walk_at "st"
  refine ⟨by decide, by decide, C_same (by rw [rangeL_len]; decide) trivial (fun k => intsV ((List.range k).map fun j : Nat => (seed + 31 * (j : Int)).fmod ((A.N : Int) + 3) - 1)) rfl (fun k x KK hx hK => ?_) (new_abs fun r3 H3 x3 _ e3 => ?_)⟩
  · obtain ⟨rfl, _⟩ := rangeL_get hx
    rw [Int.zero_add]
    walk_at "st"
    refine ⟨mulOk_l (by decide), S2.s2 ?_⟩
    walk_at "st"
    refine ⟨by first | with_reducible exact Int.natCast_nonneg _ | with_reducible assumption | lia | omega, hK (some _) ?_⟩
    rw [List.range_succ, List.map_append, ← ints_append]; rfl
  generalize hx6 : (List.range (intsV (rangeL 0 6)).length).map (fun j : Nat => (seed + 31 * (j : Int)).fmod ((A.N : Int) + 3) - 1) = xs at e3
  have hxl : xs.length = 6 := by rw [← hx6, List.length_map, List.length_range, rangeL_len]; decide
  have hb3 := (y2.trans x3).le _ _ hb
  have hbl : (intsV bs).length ≤ 16777216 := by rw [ints_length]; first | with_reducible exact Int.natCast_nonneg _ | with_reducible assumption | lia | omega
  refine W_len (sq_l (lk_of hb3)) hbl ?_
  rw [ints_length]
  walk_at "st"
  obtain ⟨b1, b2⟩ := fmod_pos_bounds seed (b := (bs.length : Int)) (by first | with_reducible exact Int.natCast_nonneg _ | with_reducible assumption | lia | omega)
  refine ⟨by first | with_reducible exact Int.natCast_nonneg _ | with_reducible assumption | lia | omega, W_slice (lk_of hb3) (cutLo_nn b1) (show cutHi _ .none = some _ from rfl) hbl ?_⟩
  rw [cut_ints]
  generalize hys : (bs.take (intsV bs).length).drop (min (seed.fmod (bs.length : Int)).toNat (intsV bs).length) = ys
  have hyl : ys.length ≤ 1000 := by rw [← hys, List.length_drop, List.length_take]; first | with_reducible exact Int.natCast_nonneg _ | with_reducible assumption | lia | omega
  refine new_abs fun r4 H4 x4 _ e4 => W_slice (lk_of e4) (show cutLo _ .none = some 0 from rfl) (cutHi_nn (by decide)) (by first | exact imil (by with_reducible assumption) | (rw [ints_length]; first | lia | omega)) ?_
  rw [cut_ints]
  generalize hzs : (ys.take (min (Int.toNat 6) (intsV ys).length)).drop 0 = zs
  have hzl : zs.length ≤ 1000 := by rw [← hzs, List.length_drop, List.length_take]; first | with_reducible exact Int.natCast_nonneg _ | with_reducible assumption | lia | omega
  refine new_abs fun r5 H5 x5 _ e5 => W_cat (lst_l (lk_of (x5.le _ _ (x4.le _ _ e3)))) (lst_l (lk_of e5)) (by rw [ints_length, ints_length]; first | with_reducible exact Int.natCast_nonneg _ | with_reducible assumption | lia | omega) ?_
  rw [ints_append]
  refine new_abs fun r6 H6 x6 _ e6 => W_slice (lk_of (x6.le _ _ (x5.le _ _ (x4.le _ _ hb3)))) (show cutLo _ (.int (-2)) = some _ from rfl) (show cutHi _ .none = some _ from rfl) hbl ?_
  rw [cut_ints]
  generalize hws : (bs.take (intsV bs).length).drop (cutN (intsV bs).length (-2)) = ws
  have hwl : ws.length ≤ 1000 := by rw [← hws, List.length_drop, List.length_take]; first | with_reducible exact Int.natCast_nonneg _ | with_reducible assumption | lia | omega
  refine new_abs fun r7 H7 x7 _ e7 => W_cat (lst_l (lk_of (x7.le _ _ e6))) (lst_l (lk_of e7)) (by rw [ints_length, ints_length, List.length_append]; first | with_reducible exact Int.natCast_nonneg _ | with_reducible assumption | lia | omega) ?_
  rw [ints_append]
  refine new_abs fun r8 H8 x8 _ e8 => S_cons ?_
  have y8 := x3.trans (x4.trans (x5.trans (x6.trans (x7.trans x8))))
  have S8 := S2.ext y8
  replace e2 := y8.le _ _ e2
  have y := y2.trans y8
  have hal : (xs ++ zs ++ ws).length ≤ 3000 := by rw [List.length_append, List.length_append]; first | with_reducible exact Int.natCast_nonneg _ | with_reducible assumption | lia | omega
  generalize xs ++ zs ++ ws = as at e8 hal
  clear S2 x3 x4 x5 x6 x7 x8 e3 e4 e5 e6 e7 y8 y2 hx6 hys hzs hws hxl hyl hzl hwl
  walk_at "st"
  refine W_len (sq_l (lk_of e8)) (by first | exact imil (by with_reducible assumption) | (rw [ints_length]; first | lia | omega)) ?_
  rw [ints_length]
  walk_at "st"
  refine ⟨by decide, by first | with_reducible exact Int.natCast_nonneg _ | with_reducible assumption | lia | omega, fun done μ H' => (∃ z, μ = [.ref A.rm, .ref A.st, .int seed, .ref be, .ref pr, .ref ev, .ref r8, z]) ∧ H' = H8, ⟨⟨_, rfl⟩, rfl⟩, fun _ _ _ _ => trivial, ?_, ?_⟩
  · rintro done x rest μ H9 e ⟨⟨z, rfl⟩, rfl⟩
    obtain ⟨rfl, hk⟩ := rangeL_get (at_done e)
    rw [Int.zero_add]
    have hg : (intsV as)[((done.length : Nat) : Int).toNat]? = some (.int as[done.length]) := by rw [ints_get?, Int.toNat_natCast, List.getElem?_eq_getElem]; rfl
    refine S_cons ?_
    walk_at "st"
    refine W_sub (sq_l (lk_of e8)) (Int.natCast_nonneg _) (by first | exact imil (by with_reducible assumption) | (rw [ints_length]; first | lia | omega)) hg (onO_of (ni_ints (lk_of e2)) (ifB_of (fun q => ?_) fun q => S_nil (S_nil ⟨_, LE.refl _, ⟨_, rfl⟩, rfl⟩)))
    walk_at "st"
    refine ⟨by decide, W_sub (sq_l (lk_of e8)) (Int.natCast_nonneg _) (by first | exact imil (by with_reducible assumption) | (rw [ints_length]; first | lia | omega)) hg (hrf _ _ _ _ _ _ _ _ _ S8.R (by simpa using q) ?_)⟩
    walk_at "st"
    exact S_nil (S_nil ⟨_, LE.refl _, ⟨_, rfl⟩, rfl⟩)
  · rintro μ H9 ⟨⟨z, rfl⟩, rfl⟩
    refine S_cons ?_
    walk_at "st"
    exact RQ.here (hQ _ y)
noncomputable def NoBoxesSpec (cx : Cx) (n : Nat) : Prop := ∀ (A : Ad) (L : List Nat) (F : Bx) (nf : Nat) (fl ps : List V) (K H : HP) (be : Addr) (bs : List Int) (seed : Int) (Q : V → HP → Prop), Sh cx A (bx L F) L F nf fl ps K H → Pn L F → H be = some (.list (intsV bs)) → 0 < bs.length → bs.length ≤ 1000 →
  (∀ H', Ext cx H H' → Q (.bool true) H') → CallP cx n 405 [.ref A.rm, .ref A.st, .int seed, .ref be] H Q
end
end Mine
end

section
namespace Mine
open PySem PyProof.Rows
section
variable {cx : Cx} {A : Ad} {B : Bx} {L : List Nat} {F : Bx} {nf c N : Nat} {fl ps : List V} {H H' H1 K K' : HP} {n : Nat} {a b r pr rm dx ra st sa : Addr} {o : O} {Q : V → HP → Prop} {v u z : V} {vs ws : List V} {f ts us : List Th} {t t' : Th} {al : Bool} {i seed : Int} {ns : List Int}
noncomputable def LPushSpec (cx : Cx) (n : Nat) : Prop := ∀ (N : Nat) (rm st sa : Addr) (al : Bool) (c : Nat) (H : HP) (Q : V → HP → Prop), St cx N rm st sa al c H → c ≤ 90000 → (∀ H', St cx N rm st sa true (c + 20) H' → Q (.bool true) H') → CallP cx n 410 [.ref rm, .ref st] H Q
theorem lpush_st (W : LD cx n) (hnb : NoBoxesSpec cx n) (hsd : StandsSpec cx n) (S : St cx N rm st sa al c H) (hc : c ≤ 90000) (hQ : ∀ H', St cx N rm st sa true (c + 20) H' → Q (.bool true) H') :
    mwpSs cx n m_law_pushed [.ref rm, .ref st, .unb, .unb, .unb, .unb, .unb] H (NQ Q) (RQ Q) := by
  obtain ⟨A, L, F, fl, ps, K, rfl, rfl, rfl, rfl, S, P, hl, _⟩ := S
  have hl4 := S.l4
  have hLl := Pn.small hl4
  have hpos := P.pos
  have hbl := bx_len L F
  refine S_cons ?_
  walk_at "st"
  refine S.s0 (S.s1 (W.lc _ _ _ L F _ _ S.o S.d S.fh P hl4 fun kr H1 p x1 f1 hp e1 => S_cons ?_))
  have kn : kr ∉ A.six := S.out f1.1
  replace S := S.ext x1
  clear x1 f1
  have hkk : (keepL L p).length ≤ L.length := by rw [keepL, List.length_map]; exact Nat.le_trans (List.length_filter_le _ _) (by simp)
  have hgone := gl_gone P p
  walk_at "st"
  refine S.s0 (W_iter (lk_of S.o) (by first | exact nmil (by with_reducible assumption) | (rw [natsV_length]; first | lia | omega)) (C_sum (fun m => !p m) P hLl (lk_of S.o) (fun k i f KK hk hf hK => ?_) fun r2 H2 x2 e2 => ?_))
  · walk_at "st"
    refine onO_of (ni_ints (lk_of e1)) ?_
    have hm : decide ((i : Int) ∈ (keepL L p).map fun k : Nat => (k : Int)) = p k := by
      rw [Bool.eq_iff_iff, decide_eq_true_iff, ← keep_at P.nd hk, List.mem_map]
      exact ⟨fun ⟨y, hy, ey⟩ => Int.ofNat.inj ey ▸ hy, fun hy => ⟨i, hy, rfl⟩⟩
    rw [hm]
    refine ifB_of (fun q => ?_) fun q => hK false q
    refine S.s1 (W_flen S.d S.fh hf (Nat.le_of_lt (Pn.fsmall hl4 hk hf)) ?_)
    walk_at "st"
    exact hK true q
  refine W_sum (lk_of e2) (by first | with_reducible exact Int.natCast_nonneg _ | with_reducible assumption | lia | omega) (S_cons ?_)
  generalize (gl L F (fun m => !p m) L.length).sum = gone at hgone
  replace S := S.ext x2
  replace e1 := x2.le _ _ e1
  clear x2 e2
  walk_at "st"
  refine S.s0 (S.s1 (W.po _ _ _ L F _ _ S.o S.d S.fh P hl4 fun pr H3 x3 _ hpr => S_cons ?_))
  replace S := S.ext x3
  replace e1 := x3.le _ _ e1
  clear x3
  walk_at "st"
  refine S.s0 (W_iter (lk_of S.o) (by first | exact nmil (by with_reducible assumption) | (rw [natsV_length]; first | lia | omega)) (C_places P.nd hLl hbl hpr (lk_of S.o) (fun i KK q => ?_) fun be H4 x4 f4 e4 => S_cons ?_))
  · walk_at "st"
    exact q
  have bn : be ∉ A.six := S.out f4.1
  replace S := S.ext x4
  replace e1 := x4.le _ _ e1
  clear x4 f4 hpr
  walk_at "st"
  refine ⟨S.R.no fun _ _ => rfl, W.rp _ _ _ _ _ _ _ S.R fun p' ra' H5 hp' R5 f5 b5 k5 => S_cons ?_⟩
  have e := reach_eq hp hp'
  subst e
  have S5 := S.room R5 (.inr f5.1) (fun a o h1 _ h3 => b5 a o h1 h3) k5
  have ndx : ∀ {a vs}, H4 a = some (.list vs) → a ≠ A.dx := fun {a vs} e q => by rw [q, S.R.d] at e; cases e
  replace e1 := b5 _ _ (ndx e1) e1
  replace e4 := b5 _ _ (ndx e4) e4
  have P5 := pn_keep P hp
  have hw := S.R.w
  have h2 := fun k => all2 hp hw (i := k)
  rw [← bx_keep P hp] at S5 hgone h2
  have nko : kr ≠ A.oa := fun q => kn (by rw [q]; simp [Ad.six])
  have nbo : be ≠ A.oa := fun q => bn (by rw [q]; simp [Ad.six])
  clear R5 S f5 b5 k5 ndx
  walk_at "st"
  refine S5.s0 (W_clr S5.o (by first | exact nmil (by with_reducible assumption) | (rw [natsV_length]; first | lia | omega)) (S_cons ?_))
  have S6 := S5.setO []
  have e6 : (upd H5 A.oa (.list [])) kr = some (.list (natsV (keepL L p))) := by rw [upd_ne _ nko]; exact e1
  have g6 : (upd H5 A.oa (.list [])) be = some (.list (intsV (plI (bx L F)))) := by rw [upd_ne _ nbo]; exact e4
  have S6 : Sh cx { A with ra := ra' } (bx (keepL L p) F) [] F F.length fl ps K (upd H5 A.oa (.list [])) := S6
  generalize upd H5 A.oa (.list []) = H6 at S6 e6 g6
  walk_at "st"
  refine S6.s0 ⟨W_la S6.o, W_ext S6.o (lk_of e6) (by rw [natsV_length, natsV_length]; show 0 + _ ≤ _; first | with_reducible exact Int.natCast_nonneg _ | with_reducible assumption | lia | omega) (S_cons ?_)⟩
  have S7 : Sh cx { A with ra := ra' } (bx (keepL L p) F) (keepL L p) F F.length fl ps K (upd H6 A.oa (.list (natsV [] ++ natsV (keepL L p)))) := S6.setO (keepL L p)
  have e7 : (upd H6 A.oa (.list (natsV [] ++ natsV (keepL L p)))) kr = some (.list (natsV (keepL L p))) := by rw [upd_ne _ nko]; exact e6
  have g7 : (upd H6 A.oa (.list (natsV [] ++ natsV (keepL L p)))) be = some (.list (intsV (plI (bx L F)))) := by rw [upd_ne _ nbo]; exact g6
  have hpi : (plI (bx L F)).length = L.length := by simp [plI, hbl]
  generalize plI (bx L F) = bs at g7 hpi
  generalize upd H6 A.oa (.list (natsV [] ++ natsV (keepL L p))) = H7 at S7 e7 g7
  clear S5 S6 e6 g6 e1 e4
  walk_at "st"
  refine ⟨show 1 ≤ 16777216 by decide, new_abs fun r8 H8 x8 _ e8 => ⟨show 1 ≤ 16777216 by decide, new_abs fun r9 H9 x9 _ e9 => ?_⟩⟩
  rw [← bx_keep P hp, show ((pl (bx L F) (bx L F).length : Nat) : Int) - ((pl (bx (keepL L p) F) (bx (keepL L p) F).length : Nat) : Int) = (gone : Int) by first | with_reducible exact Int.natCast_nonneg _ | with_reducible assumption | lia | omega] at e8
  refine W.wd _ _ [(gone : Int)] _ _ (x9.le _ _ e8) (lk_of e9) (by simp) ?_
  have x := x8.trans x9
  walk_at "st"
  refine ⟨mulOk_r (by decide), W_len (sq_l (lk_of (x.le _ _ e7))) (by first | exact nmil (by with_reducible assumption) | (rw [natsV_length]; first | lia | omega)) ?_⟩
  walk_at "st"
  refine hnb { A with ra := ra' } _ _ _ _ _ _ _ _ bs _ _ (S7.ext x) P5 (x.le _ _ g7) (by first | with_reducible exact Int.natCast_nonneg _ | with_reducible assumption | lia | omega) (by first | with_reducible exact Int.natCast_nonneg _ | with_reducible assumption | lia | omega) fun H10 x10 => ?_
  walk_at "st"
  refine S_nil (S_cons ?_)
  walk_at "st"
  exact hsd A.N A.rm A.st A.sa true c _ _ ⟨{ A with ra := ra' }, _, _, _, _, _, rfl, rfl, rfl, rfl, (S7.ext x).ext x10, P5, hl, fun _ k hk => h2 k hk⟩ hc fun H' S' => RQ.here (hQ H' S')
theorem St.again (hrp : RPushSpec cx n) (S : St cx N rm st sa true c H) (hQ : ∀ H', St cx N rm st sa true c H' → Q (.int 0) H') : instP 296 (.ref rm) (Str.ofString "pushed") H ∧ CallP cx n 279 [.ref rm] H Q := by
  obtain ⟨A, L, F, fl, ps, K, rfl, rfl, rfl, rfl, S, P, hl, ha⟩ := S
  have ha := ha rfl
  refine ⟨S.R.no fun _ _ => rfl, hrp _ _ _ _ _ _ _ S.R fun p ra' H5 hp R5 f5 b5 k5 => ?_⟩
  have S5 := S.room R5 (.inr f5.1) (fun a o h1 _ h3 => b5 a o h1 h3) k5
  have hall : ∀ k, k < (bx L F).length → p k = true := fun k hk => (hp k).mpr (ha k hk)
  have hk : keepL L p = L := keep_all fun k hk => hall k (by rw [bx_len]; exact hk)
  rw [np_all hall, Int.sub_self]
  rw [← bx_keep P hp, hk] at S5
  exact hQ H5 ⟨{ A with ra := ra' }, L, F, fl, ps, K, rfl, rfl, rfl, rfl, S5, P, hl, fun _ => ha⟩
end
end Mine
end

section
namespace Mine
open PySem PyProof.Rows
section
variable {cx : Cx} {A : Ad} {B : Bx} {L : List Nat} {F : Bx} {nf c N : Nat} {fl ps : List V} {H H' H1 K K' : HP} {n : Nat} {a b r pr rm dx ra st sa : Addr} {o : O} {Q : V → HP → Prop} {v u z : V} {vs ws : List V} {f ts us : List Th} {t t' : Th} {al : Bool} {i seed : Int} {ns : List Int}
noncomputable def m_law_begun : MSs :=
  (.cons (.assign 1 (.bin .Mod (.callf 307 (.cons (.loc 0) (.cons (.cint (0)) .nil))) (.cint (21))))
  (.cons (.assign 2 (.bin .Add (.bin .Add (.cint (1)) (.loc 1)) (.bin .Mod (.bin .Mod (.bin .Mult (.callf 307 (.cons (.loc 0) (.cons (.cint (0)) .nil))) (.cint (48271))) (.cint (999983))) (.cint (100)))))
  (.cons (.ite (.cmp (.bin .Mod (.bin .FloorDiv (.callf 307 (.cons (.loc 0) (.cons (.cint (0)) .nil))) (.cint (21))) (.cint (3))) .Eq (.cint (0))) (.cons (.assign 2 (.bin .Sub (.cint (400)) (.bin .Mod (.bin .Mod (.bin .Mult (.callf 307 (.cons (.loc 0) (.cons (.cint (0)) .nil))) (.cint (48271))) (.cint (999983))) (.cint (370)))))
    .nil) .nil)
  (.cons (.assign 3 (.done (0) (.bin .Mult (.list (.cons (.tup (.cons (.cstr (Str.ofString "number")) (.cons (.cint (0)) .nil))) .nil)) (.loc 1))))
  (.cons (.ret (.tup (.cons (.mk 296 227 (.cons (.loc 2) (.cons (.loc 1) .nil))) (.cons (.tup (.cons (.list (.cons (.cint (0)) .nil)) (.cons (.loc 3) (.cons (.loc 2) (.cons (.list (.cons (.cint (1)) .nil)) (.cons (.list .nil) .nil)))))) .nil))))
  .nil)))))
theorem rep_one (d : Nat) (v : V) : (List.replicate d [v]).flatten = List.replicate d v := by
  induction d with
  | zero => rfl
  | succ d ih => rw [List.replicate_succ, List.flatten_cons, ih]; rfl
theorem bx_one (d : Nat) : bx [0] [List.replicate d (false, 0)] = [List.replicate d (false, 0)] := by
  simp [bx, renT]
theorem pn_one (d : Nat) : Pn [0] [List.replicate d (false, 0)] := by
  refine ⟨by simp, rfl, fun i hi => by rw [List.mem_singleton.mp hi]; exact Nat.zero_lt_one, fun i hi f hf t ht e => ?_⟩
  rw [List.mem_singleton.mp hi] at hf
  cases hf
  rw [List.eq_of_mem_replicate ht] at e; cases e
theorem scr (hz : cx.Z sa = some (intsV ns)) (h : H sa = none) : lk cx H sa = some (.list (intsV ns)) := by
  unfold lk
  rw [h, hz]; rfl
theorem begun2 {z0 : V} {d : Nat} {D la tb : Addr} (hini : InitSpec cx (n - 1)) (hn : 0 < n) (hz : ∃ l, cx.Z sa = some l) (hs : H sa = none) (hd : d ≤ 20) (hN : d + 1 ≤ N) (hN4 : N ≤ 400)
    (hD : H D = some (.dct [(0, .ref la)])) (hl : H la = some (.list (List.replicate d (.ref tb)))) (ht : H tb = some (.tup (thV (false, 0))))
    (hQ : ∀ t rm st H', H' t = some (.tup [.ref rm, .ref st]) → St cx N rm st sa false 1 H' → Q (.ref t) H') :
    mwpE cx n (.tup (.cons (.mk 296 227 (.cons (.loc 2) (.cons (.loc 1) .nil))) (.cons (.tup (.cons (.list (.cons (.cint (0)) .nil)) (.cons (.loc 3) (.cons (.loc 2) (.cons (.list (.cons (.cint (1)) .nil)) (.cons (.list .nil) .nil)))))) .nil))) [z0, .int d, .int N, .ref D] H (RQ Q) := by
  rw [e_tup, es_cons, e_mk, es_cons, e_loc]
  dsimp only [getL, l_i]
  rw [es_cons, e_loc]
  dsimp only [getL, l_i]
  rw [es_nil]
  refine ⟨hn, fun dx hdx rm hrm => ?_⟩
  have e1 := Ext.new hdx (.flds [])
  have e2 := e1.new' hrm (.inst 296 dx)
  have ndx : dx ≠ rm := hrm.ne' (upd_same _ _ _)
  have hd2 : (upd (upd H dx (.flds [])) rm (.inst 296 dx)) dx = some (.flds []) := by rw [upd_ne _ ndx]; exact upd_same _ _ _
  have hr2 : (upd (upd H dx (.flds [])) rm (.inst 296 dx)) rm = some (.inst 296 dx) := upd_same _ _ _
  generalize upd (upd H dx (.flds [])) rm (.inst 296 dx) = H2 at e2 hd2 hr2
  refine hini rm dx _ _ _ _ hr2 hd2 trivial trivial (fun q => absurd ⟨N, d, rfl, rfl, hd, hN, hN4⟩ q) fun N' d' ew ed _ _ _ ra H3 R f3 b3 k3 => ⟨rfl, ?_⟩
  obtain rfl : N = N' := by injection ew with ew; exact Int.ofNat.inj ew
  obtain rfl : d = d' := by injection ed with ed; exact Int.ofNat.inj ed
  have nb : ∀ {a o}, H a = some o → H3 a = some o := fun {a o} h => b3 a o (fun q => by rw [q, hdx.1] at h; cases h) (e2.le _ _ h)
  have nra : la ≠ ra := f3.ne' (e2.le _ _ hl)
  replace hD := nb hD
  replace hl := nb hl
  replace ht := nb ht
  have hs3 : H3 sa = none := hz.elim fun l hz => k3 _ _ hz (e2.z _ _ hz hs)
  clear nb e1 e2 hd2 hr2 f3 b3 k3 hs hdx hrm
  dsimp only [nx]
  rw [es_cons, e_tup, es_cons, e_list, es_cons, e_cint, es_nil]
  refine ⟨show 1 ≤ 16777216 by decide, new_abs fun oa H4 x4 f4 e4 => ?_⟩
  rw [es_cons, e_loc]
  dsimp only [getL, l_r]
  rw [es_cons, e_loc]
  dsimp only [getL, l_i]
  rw [es_cons, e_list, es_cons, e_cint, es_nil]
  refine ⟨show 1 ≤ 16777216 by decide, new_abs fun fa H5 x5 f5 e5 => ?_⟩
  rw [es_cons, e_list, es_nil]
  refine ⟨Nat.zero_le _, new_abs fun pa H6 x6 f6 e6 => ?_⟩
  rw [es_nil]
  refine ⟨show 5 ≤ 16777216 by decide, new_abs fun st H7 x7 f7 e7 => ?_⟩
  rw [es_nil]
  refine ⟨show 2 ≤ 16777216 by decide, new_abs fun tt H8 x8 f8 e8 => RQ.here (hQ tt rm st H8 e8 ?_)⟩
  have x48 := x4.trans (x5.trans (x6.trans (x7.trans x8)))
  have x58 := x5.trans (x6.trans (x7.trans x8))
  have x68 := x6.trans (x7.trans x8)
  have x78 := x7.trans x8
  have h8 := x48.le _ _ hl
  have t8 := x48.le _ _ ht
  have D8 := x48.le _ _ hD
  have R8 := R.ext x48.le
  have o8 := x58.le _ _ e4
  have g8 := x68.le _ _ e5
  have p8 := x78.le _ _ e6
  have six : ∀ a ∈ (Ad.mk N rm st sa dx ra oa D fa pa).six, a = dx ∨ a = ra ∨ a = oa ∨ a = D ∨ a = fa ∨ a = pa := fun a ha => by
    simpa [Ad.six] using ha
  have nla : la ∉ (Ad.mk N rm st sa dx ra oa D fa pa).six := fun q => by
    rcases six la q with q | q | q | q | q | q
    · rw [q, R.d] at hl; cases hl
    · exact nra q
    · exact f4.ne' hl q
    · rw [q, hD] at hl; cases hl
    · exact f5.ne' (x4.le _ _ hl) q
    · exact f6.ne' (x5.le _ _ (x4.le _ _ hl)) q
  have ntb : tb ∉ (Ad.mk N rm st sa dx ra oa D fa pa).six := fun q => by
    rcases six tb q with q | q | q | q | q | q
    · rw [q, R8.d] at t8; cases t8
    · rw [q, R8.r] at t8; cases t8
    · rw [q, o8] at t8; cases t8
    · rw [q, D8] at t8; cases t8
    · rw [q, g8] at t8; cases t8
    · rw [q, p8] at t8; cases t8
  refine ⟨Ad.mk N rm st sa dx ra oa D fa pa, [0], [List.replicate d (false, 0)], [.ref la], [], frz (Ad.mk N rm st sa dx ra oa D fa pa).six H8, rfl, rfl, rfl, rfl, ⟨by rw [bx_one]; exact R8, o8, D8, g8, p8, x8.le _ _ e7, hz.elim fun l h => x48.z _ _ h hs3, hz, frz_le _ _, fun a ha => frz_in ha, All2.nil.cons ⟨la, _, rfl, frz_at nla h8, by simp, fun j x y hx hy => ?_⟩, (fun _ q => nomatch q), f4.ne' R.r, f5.ne' (x4.le _ _ R.r), f6.ne' (x5.le _ _ (x4.le _ _ R.r)), f5.ne' e4, f6.ne' (x5.le _ _ e4), f6.ne' e5⟩, pn_one d, Nat.le_refl _, nofun⟩
  rw [List.eq_of_mem_replicate (List.mem_of_getElem? hx), List.eq_of_mem_replicate (List.mem_of_getElem? hy)]
  exact ⟨tb, rfl, lk_of (frz_at ntb t8)⟩
theorem begun_ms (hat : AtSpec cx n sa ns) (hini : InitSpec cx (n - 1)) (hn : 0 < n) (hz : cx.Z sa = some (intsV ns)) (hs : H sa = none)
    (hQ : ∀ t N rm st H', H' t = some (.tup [.ref rm, .ref st]) → St cx N rm st sa false 1 H' → Q (.ref t) H') :
    mwpSs cx n m_law_begun [.ref sa, .unb, .unb, .unb] H (NQ Q) (RQ Q) := by
  have go : ∀ (d N : Nat), d ≤ 20 → d + 1 ≤ N → N ≤ 400 → mwpSs cx n (dropS 3 m_law_begun) [.ref sa, .int d, .int N, .unb] H (NQ Q) (RQ Q) := by
    intro d N hd hN hN4
    refine S_cons ?_
    walk_at "st"
    intro D hD
    have x1 := Ext.new hD (.dct [])
    have e1 : (upd H D (.dct [])) D = some (.dct []) := upd_same _ _ _
    generalize upd H D (.dct []) = H1 at x1 e1
    refine ⟨show 2 ≤ 16777216 by decide, new_abs fun tb H2 x2 f2 e2 => ⟨show 1 ≤ 16777216 by decide, new_abs fun r3 H3 x3 f3 e3 => W_rep (lst_l (lk_of e3)) (by first | with_reducible exact Int.natCast_nonneg _ | with_reducible assumption | lia | omega) (by first | with_reducible exact Int.natCast_nonneg _ | with_reducible assumption | lia | omega) (by rw [List.length_singleton]; first | with_reducible exact Int.natCast_nonneg _ | with_reducible assumption | lia | omega) ?_⟩⟩
    rw [rep_one, Int.toNat_natCast]
    refine new_abs fun la H4 x4 f4 e4 => ⟨x4.le _ _ (x3.le _ _ (x2.le _ _ e1)), S_cons ?_⟩
    have x := x1.trans (x2.trans (x3.trans x4))
    have nl : la ≠ D := fun q => by
      have h := (x2.trans x3).le _ _ e1
      rw [q] at f4; exact f4.ne' h rfl
    have nt : tb ≠ D := fun q => by
      rw [q] at f2; exact f2.ne' e1 rfl
    rw [s_ret]
    refine begun2 (d := d) (N := N) (D := D) (la := la) (tb := tb) hini hn ⟨_, hz⟩ ?_ hd hN hN4 (upd_same _ _ _) (by rw [upd_ne _ nl]; exact e4) (by rw [upd_ne _ nt]; exact x4.le _ _ (x3.le _ _ e2)) fun t rm st H' => hQ t N rm st H'
    exact (x.upd hD.1 hD.2.2 _).z _ _ hz hs
  have fin : ∀ (d N : Int), 0 ≤ d → d ≤ 20 → d + 1 ≤ N → N ≤ 400 → mwpSs cx n (dropS 3 m_law_begun) [.ref sa, .int d, .int N, .unb] H (NQ Q) (RQ Q) := fun d N h1 h2 h3 h4 => by
    obtain ⟨d, rfl⟩ := Int.eq_ofNat_of_zero_le h1
    obtain ⟨N, rfl⟩ := Int.eq_ofNat_of_zero_le (show 0 ≤ N by first | with_reducible exact Int.natCast_nonneg _ | with_reducible assumption | lia | omega)
    exact go d N (by first | with_reducible exact Int.natCast_nonneg _ | with_reducible assumption | lia | omega) (by first | with_reducible exact Int.natCast_nonneg _ | with_reducible assumption | lia | omega) (by first | with_reducible exact Int.natCast_nonneg _ | with_reducible assumption | lia | omega)
  have sc := scr hz hs
  refine S_cons ?_
  walk_at "st"
  refine hat _ _ _ sc (by decide) fun v1 => ?_
  walk_at "st"
  obtain ⟨b1, b2⟩ := fmod_pos_bounds v1 (b := 21) (by decide)
  generalize v1.fmod 21 = d at b1 b2
  refine ⟨by decide, S_cons ?_⟩
  walk_at "st"
  refine hat _ _ _ sc (by decide) fun v2 => ?_
  walk_at "st"
  obtain ⟨c1, c2⟩ := fmod_pos_bounds ((v2 * 48271).fmod 999983) (b := 100) (by decide)
  refine ⟨mulOk_r (by decide), by decide, by decide, S_cons ?_⟩
  walk_at "st"
  refine hat _ _ _ sc (by decide) fun v3 => ?_
  walk_at "st"
  refine ⟨by decide, by decide, ifB_of (fun _ => S_cons ?_) fun _ => S_nil (fin _ _ b1 (by first | with_reducible exact Int.natCast_nonneg _ | with_reducible assumption | lia | omega) (by first | with_reducible exact Int.natCast_nonneg _ | with_reducible assumption | lia | omega) (by first | with_reducible exact Int.natCast_nonneg _ | with_reducible assumption | lia | omega))⟩
  walk_at "st"
  refine hat _ _ _ sc (by decide) fun v4 => ?_
  walk_at "st"
  obtain ⟨d1, d2⟩ := fmod_pos_bounds ((v4 * 48271).fmod 999983) (b := 370) (by decide)
  exact ⟨mulOk_r (by decide), by decide, by decide, S_nil (fin _ _ b1 (by first | with_reducible exact Int.natCast_nonneg _ | with_reducible assumption | lia | omega) (by first | with_reducible exact Int.natCast_nonneg _ | with_reducible assumption | lia | omega) (by first | with_reducible exact Int.natCast_nonneg _ | with_reducible assumption | lia | omega))⟩
noncomputable def BegunSpec (cx : Cx) (n : Nat) (sa : Addr) : Prop := ∀ (H : HP) (Q : V → HP → Prop), H sa = none → (∀ t N rm st H', H' t = some (.tup [.ref rm, .ref st]) → St cx N rm st sa false 1 H' → Q (.ref t) H') → CallP cx n 393 [.ref sa] H Q
end
end Mine
end

section
namespace Mine
open PySem PyProof.Rows
section
variable {cx : Cx} {nf c N : Nat} {H H' H1 K K' : HP} {n : Nat} {a b r rm st sa tt : Addr} {o : O} {Q : V → HP → Prop} {v u z z1 z4 : V} {vs ws : List V} {al : Bool} {i seed cell : Int} {ns : List Int} {N' : List V → HP → Prop}
theorem rd_tints {xs : List Int} (h : lk cx H a = some (.tup (intsV xs))) : rdV cx H 1 (.ref a) = some (.tuple (xs.map .int)) := by
  show (match lk cx H a with | some (.list vs) => (vs.mapM (rdV cx H 0)).map PyData.list | some (.tup vs) => (vs.mapM (rdV cx H 0)).map PyData.tuple | _ => none) = _
  rw [h]
  have : (intsV xs).mapM (rdV cx H 0) = some (xs.map .int) := by
    clear h
    induction xs with
    | nil => rfl
    | cons i xs ih => rw [show intsV (i :: xs) = .int i :: intsV xs from rfl, List.mapM_cons, ih]; rfl
  dsimp only
  rw [this]; rfl
theorem in_tints {xs : List Int} (h : lk cx H a = some (.tup (intsV xs))) : cmpP cx .In (.int i) (.ref a) H = some (decide (i ∈ xs)) := by
  show inP cx (.int i) (.ref a) H = _
  unfold inP
  rw [show rdV cx H 1 (.int i) = some (.int i) from rfl, rd_tints h, Option.bind_some, Option.bind_some]
  dsimp only
  rw [any_ints]
theorem St.ext (S : St cx N rm st sa al c H) (x : Ext cx H H') : St cx N rm st sa al c H' := by
  obtain ⟨A, L, F, fl, ps, K, h1, h2, h3, h4, S, P, hl, ha⟩ := S
  exact ⟨A, L, F, fl, ps, K, h1, h2, h3, h4, S.ext x, P, hl, ha⟩
theorem St.up {c' : Nat} (S : St cx N rm st sa al c H) (h : c ≤ c') : St cx N rm st sa false c' H := by
  obtain ⟨A, L, F, fl, ps, K, h1, h2, h3, h4, S, P, hl, ha⟩ := S
  exact ⟨A, L, F, fl, ps, K, h1, h2, h3, h4, S, P, Nat.le_trans hl h, nofun⟩
theorem St.s (S : St cx N rm st sa al c H) : H sa = none := by
  obtain ⟨A, L, F, fl, ps, K, h1, h2, h3, rfl, S, P, hl, ha⟩ := S
  exact S.s
noncomputable def m_law8 : MSs :=
  (.cons (.assign 1 (.callf 393 (.cons (.loc 0) .nil)))
  (.cons (.assign 2 (.sub (.loc 1) (.cint (0))))
  (.cons (.assign 3 (.sub (.loc 1) (.cint (1))))
  (.cons (.forR 4 (.cint (1)) (.callb .min (.cons (.cint (23)) (.cons (.callb .len (.cons (.loc 0) .nil)) .nil))) (.cons (.assign 5 (.sub (.loc 0) (.loc 4)))
    (.cons (.assign 6 (.bin .Mod (.bin .Add (.bin .Mult (.loc 5) (.cint (48271))) (.bin .Mult (.cint (7919)) (.loc 4))) (.cint (999983))))
    (.cons (.ite (.bop .And (.cons (.cmp (.bin .Mod (.loc 5) (.cint (8))) .In (.tup (.cons (.cint (0)) (.cons (.cint (1)) (.cons (.cint (7)) .nil))))) (.cons (.not (.callf 371 (.cons (.loc 2) (.cons (.loc 3) (.cons (.loc 5) (.cons (.loc 6) .nil)))))) .nil))) (.cons (.ret (.cbool false))
      .nil) .nil)
    (.cons (.ite (.bop .And (.cons (.cmp (.bin .Mod (.loc 5) (.cint (8))) .In (.tup (.cons (.cint (2)) (.cons (.cint (3)) (.cons (.cint (4)) (.cons (.cint (5)) .nil)))))) (.cons (.not (.callf 376 (.cons (.loc 2) (.cons (.loc 3) (.cons (.loc 6) .nil))))) .nil))) (.cons (.ret (.cbool false))
      .nil) .nil)
    (.cons (.ite (.bop .And (.cons (.cmp (.bin .Mod (.loc 4) (.cint (9))) .Eq (.cint (2))) (.cons (.not (.callf 386 (.cons (.loc 2) (.cons (.loc 3) .nil)))) .nil))) (.cons (.ret (.cbool false))
      .nil) .nil)
    (.cons (.ite (.bop .And (.cons (.cmp (.bin .Mod (.loc 5) (.cint (8))) .Eq (.cint (6))) (.cons (.not (.callf 410 (.cons (.loc 2) (.cons (.loc 3) .nil)))) .nil))) (.cons (.ret (.cbool false))
      .nil) .nil)
    .nil)))))))
  (.cons (.ite (.bop .Or (.cons (.not (.callf 386 (.cons (.loc 2) (.cons (.loc 3) .nil)))) (.cons (.not (.callf 410 (.cons (.loc 2) (.cons (.loc 3) .nil)))) .nil))) (.cons (.ret (.cbool false))
    .nil) .nil)
  (.cons (.ret (.bop .And (.cons (.callf 319 (.cons (.list (.cons (.callm 296 (Str.ofString "pushed") 279 2 .nil) .nil)) (.cons (.list (.cons (.cint (0)) .nil)) .nil))) (.cons (.callf 386 (.cons (.loc 2) (.cons (.loc 3) .nil))) .nil))))
  .nil))))))
noncomputable def lawB : MSs := match m_law8 with
  | .cons _ (.cons _ (.cons _ (.cons (.forR _ _ _ b) _))) => b
  | _ => .nil
structure LL (cx : Cx) (n : Nat) (sa : Addr) (ns : List Int) : Prop where
  z : cx.Z sa = some (intsV ns)
  len : ns.length ≤ 1000
  bg : BegunSpec cx n sa
  md : LMadeSpec cx n
  pt : LPutSpec cx n
  sd : StandsSpec cx n
  ph : LPushSpec cx n
  rp : RPushSpec cx n
  wd : WordsSpec cx n
theorem body5 {k : Nat} (W : LL cx n sa ns) (S : St cx N rm st sa false c H) (hc : c ≤ 80000) (hN : ∀ H', St cx N rm st sa false (c + 20) H' → N' [.ref sa, z1, .ref rm, .ref st, .int k, .int cell, .int seed] H') :
    mwpSs cx n (dropS 5 lawB) [.ref sa, z1, .ref rm, .ref st, .int k, .int cell, .int seed] H N' (RQ Q) := by
  refine S_cons ?_
  walk_at "st"
  refine ⟨by decide, ?_⟩
  refine ifB_of (fun _ => W.ph _ _ _ _ _ _ _ _ S (by first | with_reducible exact Int.natCast_nonneg _ | with_reducible assumption | lia | omega) fun H' S' => ?_) fun _ => S_nil (S_nil (hN _ (S.up (by first | with_reducible exact Int.natCast_nonneg _ | with_reducible assumption | lia | omega))))
  walk_at "st"
  exact S_nil (S_nil (hN _ (S'.up (by first | with_reducible exact Int.natCast_nonneg _ | with_reducible assumption | lia | omega))))
theorem body4 {k : Nat} (W : LL cx n sa ns) (S : St cx N rm st sa false c H) (hc : c ≤ 70000) (hN : ∀ H', St cx N rm st sa false (c + 40) H' → N' [.ref sa, z1, .ref rm, .ref st, .int k, .int cell, .int seed] H') :
    mwpSs cx n (dropS 4 lawB) [.ref sa, z1, .ref rm, .ref st, .int k, .int cell, .int seed] H N' (RQ Q) := by
  refine S_cons ?_
  walk_at "st"
  refine ⟨by decide, ?_⟩
  refine ifB_of (fun _ => W.sd _ _ _ _ _ _ _ _ S (by first | with_reducible exact Int.natCast_nonneg _ | with_reducible assumption | lia | omega) fun H' S' => ?_) fun _ => S_nil (body5 W (S.up (show c ≤ c + 20 by first | with_reducible exact Int.natCast_nonneg _ | with_reducible assumption | lia | omega)) (by first | with_reducible exact Int.natCast_nonneg _ | with_reducible assumption | lia | omega) hN)
  walk_at "st"
  exact S_nil (body5 W S' (by first | with_reducible exact Int.natCast_nonneg _ | with_reducible assumption | lia | omega) hN)
theorem body3 {k : Nat} (W : LL cx n sa ns) (S : St cx N rm st sa false c H) (hc : c ≤ 60000) (hN : ∀ H', St cx N rm st sa false (c + 60) H' → N' [.ref sa, z1, .ref rm, .ref st, .int k, .int cell, .int seed] H') :
    mwpSs cx n (dropS 3 lawB) [.ref sa, z1, .ref rm, .ref st, .int k, .int cell, .int seed] H N' (RQ Q) := by
  refine S_cons ?_
  walk_at "st"
  refine ⟨by decide, show 4 ≤ 16777216 by decide, new_abs fun b H1 x1 _ e1 => onO_of (in_tints (xs := [2, 3, 4, 5]) (lk_of e1)) ?_⟩
  replace S := S.ext x1
  refine ifB_of (fun _ => W.pt _ _ _ _ _ _ _ _ _ S (by first | with_reducible exact Int.natCast_nonneg _ | with_reducible assumption | lia | omega) fun H' S' => ?_) fun _ => S_nil (body4 W (S.up (show c ≤ c + 20 by first | with_reducible exact Int.natCast_nonneg _ | with_reducible assumption | lia | omega)) (by first | with_reducible exact Int.natCast_nonneg _ | with_reducible assumption | lia | omega) hN)
  walk_at "st"
  exact S_nil (body4 W S' (by first | with_reducible exact Int.natCast_nonneg _ | with_reducible assumption | lia | omega) hN)
theorem body2 {k : Nat} (W : LL cx n sa ns) (S : St cx N rm st sa false c H) (hc : c ≤ 50000) (h0 : 0 ≤ seed) (h1 : seed < 1000000) (hN : ∀ H', St cx N rm st sa false (c + 80) H' → N' [.ref sa, z1, .ref rm, .ref st, .int k, .int cell, .int seed] H') :
    mwpSs cx n (dropS 2 lawB) [.ref sa, z1, .ref rm, .ref st, .int k, .int cell, .int seed] H N' (RQ Q) := by
  refine S_cons ?_
  walk_at "st"
  refine ⟨by decide, show 3 ≤ 16777216 by decide, new_abs fun b H1 x1 _ e1 => onO_of (in_tints (xs := [0, 1, 7]) (lk_of e1)) ?_⟩
  replace S := S.ext x1
  refine ifB_of (fun _ => W.md _ _ _ _ _ _ _ _ _ _ S (by first | with_reducible exact Int.natCast_nonneg _ | with_reducible assumption | lia | omega) h0 h1 fun H' S' => ?_) fun _ => S_nil (body3 W (S.up (show c ≤ c + 20 by first | with_reducible exact Int.natCast_nonneg _ | with_reducible assumption | lia | omega)) (by first | with_reducible exact Int.natCast_nonneg _ | with_reducible assumption | lia | omega) hN)
  walk_at "st"
  exact S_nil (body3 W S' (by first | with_reducible exact Int.natCast_nonneg _ | with_reducible assumption | lia | omega) hN)
theorem law_ms (W : LL cx n sa ns) (hs : H sa = none) (hQ : ∀ H', Q (.bool true) H') :
    mwpSs cx n m_law8 [.ref sa, .unb, .unb, .unb, .unb, .unb, .unb] H (NQ Q) (RQ Q) := by
  have hln := W.len
  refine S_cons ?_
  walk_at "st"
  refine W.bg _ _ hs fun tt N rm st H1 e1 S1 => S_cons ?_
  have sq := sq_t (lk_of (cx := cx) e1)
  walk_at "st"
  refine W_sub sq (by decide) (show 2 ≤ 16777216 by decide) (v := .ref rm) rfl (S_cons ?_)
  walk_at "st"
  refine W_sub sq (by decide) (show 2 ≤ 16777216 by decide) (v := .ref st) rfl (S_cons ?_)
  clear sq e1
  walk_at "st"
  refine W_len (sq_l (scr W.z S1.s)) (by first | exact imil (by with_reducible assumption) | (rw [ints_length]; first | lia | omega)) ?_
  rw [ints_length]
  walk_at "st"
  have hmin : (if (ns.length : Int) < 23 then (ns.length : Int) else 23) ≤ 23 ∧ (if (ns.length : Int) < 23 then (ns.length : Int) else 23) ≤ ns.length := by split <;> (first | lia | omega)
  have hmin0 : 0 ≤ (if (ns.length : Int) < 23 then (ns.length : Int) else 23) := by split <;> (first | lia | omega)
  generalize (if (ns.length : Int) < 23 then (ns.length : Int) else 23) = m at hmin hmin0
  refine ⟨by decide, by first | with_reducible exact Int.natCast_nonneg _ | with_reducible assumption | lia | omega, fun done μ H' => (∃ z4 z5 z6, μ = [.ref sa, .ref tt, .ref rm, .ref st, z4, z5, z6]) ∧ St cx N rm st sa false (1 + 100 * done.length) H', ⟨⟨_, _, _, rfl⟩, S1⟩, fun _ _ _ _ => trivial, ?_, ?_⟩
  · rintro done x rest μ H2 e ⟨⟨z4, z5, z6, rfl⟩, S2⟩
    obtain ⟨rfl, hlt⟩ := rangeL_get (at_done e)
    have hl1 : (done ++ [V.int (1 + (done.length : Int))]).length = done.length + 1 := by rw [List.length_append]; rfl
    generalize done.length = k at hlt S2 hl1
    rw [show (1 : Int) + (k : Int) = ((1 + k : Nat) : Int) by first | with_reducible exact Int.natCast_nonneg _ | with_reducible assumption | lia | omega] at hl1 ⊢
    have hk : ns[1 + k]? = some _ := List.getElem?_eq_getElem (show 1 + k < ns.length by first | with_reducible exact Int.natCast_nonneg _ | with_reducible assumption | lia | omega)
    refine S_cons ?_
    walk_at "st"
    refine W_subI (scr W.z S2.s) hln hk (S_cons ?_)
    generalize ns[1 + k]'(by first | with_reducible exact Int.natCast_nonneg _ | with_reducible assumption | lia | omega) = cell at hk
    walk_at "st"
    obtain ⟨b1, b2⟩ := fmod_pos_bounds (cell * 48271 + 7919 * ((1 + k : Nat) : Int)) (b := 999983) (by decide)
    refine ⟨mulOk_r (by decide), mulOk_l (by decide), by decide, body2 W S2 (by first | with_reducible exact Int.natCast_nonneg _ | with_reducible assumption | lia | omega) b1 (by first | with_reducible exact Int.natCast_nonneg _ | with_reducible assumption | lia | omega) fun H' S' => ⟨H', LE.refl _, ⟨_, _, _, rfl⟩, S'.up (by first | with_reducible exact Int.natCast_nonneg _ | with_reducible assumption | lia | omega)⟩⟩
  · rintro μ H2 ⟨⟨z4, z5, z6, rfl⟩, S2⟩
    have hil : (intsV (rangeL 1 m)).length ≤ 22 := by rw [rangeL_len]; first | with_reducible exact Int.natCast_nonneg _ | with_reducible assumption | lia | omega
    refine S_cons ?_
    walk_at "st"
    refine W.sd _ _ _ _ _ _ _ _ S2 (by first | with_reducible exact Int.natCast_nonneg _ | with_reducible assumption | lia | omega) fun H3 S3 => ?_
    walk_at "st"
    refine W.ph _ _ _ _ _ _ _ _ S3 (by first | with_reducible exact Int.natCast_nonneg _ | with_reducible assumption | lia | omega) fun H4 S4 => ?_
    walk_at "st"
    refine S_nil (S_cons ?_)
    walk_at "st"
    refine St.again W.rp S4 fun H5 S5 => ⟨show 1 ≤ 16777216 by decide, new_abs fun r6 H6 x6 _ e6 => ⟨show 1 ≤ 16777216 by decide, new_abs fun r7 H7 x7 _ e7 => W.wd _ _ [0] _ _ (x7.le _ _ e6) (lk_of e7) (show 1 ≤ 1000 by decide) ?_⟩⟩
    walk_at "st"
    exact W.sd _ _ _ _ _ _ _ _ ((S5.ext x6).ext x7) (by first | with_reducible exact Int.natCast_nonneg _ | with_reducible assumption | lia | omega) fun H8 S8 => RQ.here (hQ H8)
end
end Mine
end

section
open PySem PySem.W PyProof.Rows
namespace Mine

noncomputable def fdAt (K : Frag) (f : Addr) : FuncData := match K.lookup f with
  | some ⟨_, _, .func fd, _⟩ => fd
  | _ => default
noncomputable def bodyOf (fd : FuncData) : List Stmt := match fd.body with
  | .stmts b => b
  | _ => []
noncomputable def codeOk (K : Frag) (fd : FuncData) : Bool := match fd.code with
  | .ref c => match K.lookup c with
    | some ⟨_, _, .fields vs, _⟩ => match (vs[1]? : Option Value) with
      | some (.str q _) => q == fd.qualname
      | _ => false
    | _ => false
  | _ => false
noncomputable def isStmts (fd : FuncData) : Bool := match fd.body with
  | .stmts _ => true
  | _ => false
noncomputable def isFunc (K : Frag) (f : Addr) : Bool := match K.lookup f with
  | some ⟨_, _, .func _, _⟩ => true
  | _ => false
noncomputable def defOk (K : Frag) (f : Addr) : Bool := isFunc K f && Nat.beq (fdAt K f).globals mainGlobals && Nat.beq (fdAt K f).builtins builtinsNs && (fdAt K f).closure.isEmpty && codeOk K (fdAt K f) && isStmts (fdAt K f) &&
  decide ((fdAt K f).scope.kind = .function) && !(fdAt K f).scope.isCoroutine && !(fdAt K f).scope.isGenerator

theorem def_of {cx : Cx} {K : Frag} (X : K.In cx.base) {f : Addr} (h : defOk K f = true) (ps : List Str) (hb : ∀ vs : List Value, vs.length = ps.length → bindArgs (fdAt K f) ⟨vs, []⟩ = pure (ps.zip vs)) :
    Def cx f ps (bodyOf (fdAt K f)) (fdAt K f).scope := by
  simp only [defOk, Bool.and_eq_true, Bool.not_eq_true', decide_eq_true_eq] at h
  obtain ⟨⟨⟨⟨⟨⟨⟨⟨h1, h2⟩, h3⟩, h4⟩, h5⟩, h6⟩, h7⟩, h8⟩, h9⟩ := h
  refine ⟨?_, h7, h8, h9⟩
  unfold isFunc at h1
  split at h1
  · rename_i c d fd sl e
    have efd : fdAt K f = fd := by unfold fdAt; rw [e]
    rw [efd] at h2 h3 h4 h5 h6 hb ⊢
    refine ⟨_, fd, X _ _ e, rfl, ?_, rfl, Nat.eq_of_beq_eq_true h2, Nat.eq_of_beq_eq_true h3, by simpa using h4, ?_, hb⟩
    · unfold isStmts at h6
      unfold bodyOf
      split at h6
      · rename_i q; rw [q]
      · cases h6
    · unfold codeOk at h5
      split at h5
      · rename_i cc ec
        split at h5
        · rename_i e2
          split at h5
          · rename_i q t e3
            rw [ec]
            exact ⟨cc, _, _, t, rfl, X _ _ e2, rfl, by rw [e3, eq_of_beq h5]⟩
          · cases h5
        · cases h5
      · cases h5
  · cases h1

noncomputable def GT := List (Str × Value)
noncomputable def GT.all (h : Heap) : List (Str × Value) → Prop
  | [] => True
  | (x, v) :: r => GlobAt h x v ∧ GT.all h r
theorem GT.at {h : Heap} : ∀ {l : List (Str × Value)}, GT.all h l → ∀ x v, l.lookup x = some v → GlobAt h x v
  | (y, w) :: r, a, x, v, e => by
    rw [List.lookup_cons] at e
    cases hb : x == y with
    | true => rw [hb] at e; cases e; rw [eq_of_beq hb]; exact a.1
    | false => rw [hb] at e; exact GT.at a.2 x v e

theorem glob_K {p : Program} {loose : List Str} {mean : ExcName → Option Value} {mg mb : Str → Option Value} {h : Heap} (T : Top p loose mean mg mb h) {K : Frag} (X : K.In h) {x : Str} {v : Value} (e : nsIn K mainGlobals x = some (some v)) : GlobAt h x v :=
  .inl ⟨mg, T.g, mg_of X T.g e⟩
theorem glob_B {p : Program} {loose : List Str} {mean : ExcName → Option Value} {mg mb : Str → Option Value} {h : Heap} (T : Top p loose mean mg mb h) {K : Frag} (X : K.In h) {x : Str} {v : Value} (e : nsIn K mainGlobals x = some none) (hv : bootBuiltins x = some v) (hn : x ≠ "__name__") : GlobAt h x v :=
  .inr ⟨mg, mb, T.g, mg_none_of X T.g e, T.b, (T.builtins x hn).trans hv⟩

theorem ints_of : ∀ {vs : List Value} {ns : List Int}, IntsAre vs ns → vs.map abs = intsV ns
  | _, _, .nil => rfl
  | _, _, .cons n t r => by simp only [List.map_cons, intsV, abs]; rw [ints_of r]; rfl

theorem law_good {l : OpenLaw} {cl : Str → Option Addr} {mean : ExcName → Option Value} {args : List WData} {s₁ s' : Shared} (hk : ∀ b o, s₁.heap.get? b = some o → s'.heap.get? b = some o) (hos : s'.os = s₁.os) (hg : s'.gens = #[]) :
    GoodWG l.row.claim cl mean args s₁ (.ok (.ret (.bool true))) s' :=
  GoodW.toG ⟨.inl ⟨.bool true, .bool true, [], rfl, raisesW_false (fun _ h => nomatch h), .bool true, postW_of (X := (true == true)) rfl (w_eq_bool (w_res rfl) w_lit) rfl, fun _ => ⟨.nil, fun _ h => nomatch h⟩⟩, hk, hos, hg⟩

theorem law_end {l : OpenLaw} {cl : Str → Option Addr} {mean : ExcName → Option Value} {args : List WData} {cx : Cx} {s₁ : Shared} (hb : cx.base = s₁.heap) (hg : s₁.gens = #[]) {f sa : Addr} {n : Nat} (hn : n ≤ 100)
    (h : CallP cx n f [.ref sa] (fun _ => none) fun v _ => v = .bool true) : codeAny (model cx.prog cx.w) callerA (.call (.ref f) ⟨[.ref sa], []⟩) (GoodWG l.row.claim cl mean args s₁) s₁ := by
  refine codeAny_mono (h callerA s₁ [.ref sa] ⟨by show 1 + claimMargin + n < 850; unfold claimMargin; first | lia | omega, by show 4 + 16 * n < 9000; first | lia | omega, ⟨[], rfl⟩, rfl⟩ (fun _ => rfl) ⟨fun _ _ e => (nomatch e), fun b o e => by rw [hb] at e; exact e, fun _ _ e => (nomatch e)⟩ (fun l e => by cases e; exact fun e he => nomatch he) rfl) fun r s' hr => ?_
  rcases hr with ⟨v, H', rfl, S, k, hv⟩ | ⟨_, _, _, _, _, _, _, _, _, hv⟩
  · have hv' : Mine.abs v = .bool true := by
      generalize Mine.abs v = u at hv
      cases u <;> first | exact hv | exact hv.elim
    have := abs_bool hv'; subst this
    exact law_good (fun b o e => S.ext b o (by rw [hb]; exact e)) k.os (k.gens.trans hg)
  · exact hv.elim
end Mine
end

section
open PySem PySem.W PyProof.Rows
namespace Mine
noncomputable def bt : List (Str × Value) := [("len", .builtin "len"), ("list", .type "list"), ("int", .type "int"), ("tuple", .type "tuple"), ("bool", .type "bool"), ("isinstance", .builtin "isinstance"), ("range", .type "range"), ("min", .builtin "min"), ("sum", .builtin "sum")]
noncomputable def stdB : List (Str × BF) := [("len", .len), ("list", .list), ("min", .min), ("sum", .sum)]
noncomputable def stdT : List (Str × String) := [("int", "int"), ("list", "list"), ("tuple", "tuple"), ("bool", "bool")]
theorem script_obj {P : Params} {h : Heap} {sa : Addr} {vs : List Value} {ns : List Int} (hW : Well P h (.ref sa) (ofPy (PyData.list (ns.map PyData.int)))) (hL : h.IsList sa vs.toArray) (hI : IntsAre vs ns) : Rep h sa (.list (intsV ns)) := by
  generalize hd : ofPy (PyData.list (ns.map PyData.int)) = d at hW
  obtain ⟨o, ho, hc, k, hk⟩ := hL
  cases hW with
  | list e _ =>
    rw [ho] at e
    cases e
    simp only at hk
    cases hk
    exact ⟨_, _, ho, by simpa using ints_of hI⟩
  | _ => first | (rename_i e _; rw [ho] at e; cases e; simp at hc; done) | (rename_i e; rw [ho] at e; cases e; simp at hc; done) | (simp [ofPy] at hd)

theorem lookup_app {x : Str} {f : Addr} : ∀ {fns : List (Str × Addr)} {r : List (Str × Value)}, fns.lookup x = some f → (fns.map (fun p => (p.1, Value.ref p.2)) ++ r).lookup x = some (.ref f)
  | (y, g) :: l, r, e => by
    rw [List.lookup_cons] at e
    rw [List.map_cons, List.cons_append, List.lookup_cons]
    cases hb : x == y with
    | true => rw [hb] at e; cases e; rfl
    | false => rw [hb] at e; exact lookup_app e

noncomputable def isInt (i : Int) : Option Value → Bool
  | some (.int j _) => j == i
  | _ => false
theorem tbl_ok {cx : Cx} {K : Frag} (X : K.In cx.base) {fns : List (Str × Addr)} {r : List (Str × Value)} {bs : List (Str × BF)} {ts : List (Str × String)} {ats : List (Addr × Str)} {mts : List (Addr × Str × Addr)} {mks : List (Str × Addr × Addr)} {gis : List (Str × Int)} {exs : List (Str × Addr)} (hg : cx.gl = fun x => (fns.map (fun p => (p.1, Value.ref p.2)) ++ r).lookup x)
    (h1 : (fns.all fun p => isFunc K p.2) = true) (h2 : (bs.all fun p => decide ((fns.map (fun p => (p.1, Value.ref p.2)) ++ r).lookup p.1 = some p.2.val)) = true)
    (h3 : (ts.all fun p => decide ((fns.map (fun p => (p.1, Value.ref p.2)) ++ r).lookup p.1 = some (.type p.2))) = true)
    (h4 : (fns.map (fun p => (p.1, Value.ref p.2)) ++ r).lookup ("isinstance" : Str) = some (.builtin "isinstance")) (h5 : (fns.map (fun p => (p.1, Value.ref p.2)) ++ r).lookup ("range" : Str) = some (.type "range"))
    (h6 : (ats.all fun p => attrIn K p.1 p.2) = true) (h7 : (mts.all fun p => methIn K p.1 p.2.1 p.2.2) = true)
    (h8 : (mks.all fun p => decide ((fns.map (fun p => (p.1, Value.ref p.2)) ++ r).lookup p.1 = some (.ref p.2.1)) && mkIn K p.2.1 p.2.2) = true)
    (h9 : (gis.all fun p => isInt p.2 ((fns.map (fun p => (p.1, Value.ref p.2)) ++ r).lookup p.1)) = true)
    (h10 : (exs.all fun p => decide ((fns.map (fun p => (p.1, Value.ref p.2)) ++ r).lookup p.1 = some (.ref p.2))) = true) (h11 : ∀ p ∈ exs, ExcCls p.2 cx.base) : Tbl.OK cx ⟨fns, bs, ts, K, ats, mts, mks, gis, exs, false⟩ := by
  refine ⟨fun x f e => ⟨by rw [hg]; exact lookup_app e, ?_⟩, fun x b e => ?_, fun x b e => ?_, by rw [hg]; exact h4, by rw [hg]; exact h5, X, fun C x e => ?_, fun C x f e => ?_, fun x C f e => ?_, fun x i e => ?_, fun x C e => ⟨?_, h11 _ (lookup_mem e)⟩⟩
  · have := List.all_eq_true.mp h1 _ (lookup_mem e)
    unfold isFunc at this
    split at this
    · rename_i c d fd sl q
      exact ⟨_, fd, X _ _ q, rfl⟩
    · cases this
  · rw [hg]; exact of_decide_eq_true (List.all_eq_true.mp h2 _ (lookup_mem e))
  · rw [hg]; exact of_decide_eq_true (List.all_eq_true.mp h3 _ (lookup_mem e))
  · exact List.all_eq_true.mp h6 _ (List.contains_iff_mem.mp e)
  · exact List.all_eq_true.mp h7 _ (List.contains_iff_mem.mp e)
  · obtain ⟨a, b⟩ := band (List.all_eq_true.mp h8 _ (List.contains_iff_mem.mp e))
    exact ⟨by rw [hg]; exact of_decide_eq_true a, b⟩
  · have := List.all_eq_true.mp h9 _ (lookup_mem e)
    rw [hg]
    unfold isInt at this
    split at this
    · rename_i j t q
      exact ⟨t, q.trans (by rw [show j = i from beq_iff_eq.mp this])⟩
    · cases this
  · rw [hg]; exact of_decide_eq_true (List.all_eq_true.mp h10 _ (lookup_mem e))
theorem excls {p : Program} {loose : List Str} {mean : ExcName → Option Value} {mg mb : Str → Option Value} {h : Heap} (T : Top p loose mean mg mb h) {K : Frag} (X : K.In h) {x : Str} {C : Addr} (e : nsIn K mainGlobals x = some (some (.ref C))) (hs : specOf p x = some ("ValueError.__new__", bmV)) : ExcCls C h := by
  obtain ⟨D, O, _⟩ := T.ownAt hs
  have := (mg_of X T.g e).symm.trans O.bound
  cases this
  exact ⟨rfl, O.obj⟩

theorem len_succ {α : Type} {l : List α} {n : Nat} (h : l.length = n + 1) : ∃ a r, l = a :: r ∧ r.length = n := by
  cases l with
  | nil => cases h
  | cons a r => exact ⟨a, r, rfl, Nat.succ.inj h⟩
theorem arity1 {fd : FuncData} {p : Str} (h : ∀ a, bindArgs fd ⟨[a], []⟩ = pure [(p, a)]) (vs : List Value) (hl : vs.length = [p].length) : bindArgs fd ⟨vs, []⟩ = pure ([p].zip vs) := by
  obtain ⟨a, r, rfl, h1⟩ := len_succ hl; have := List.eq_nil_of_length_eq_zero h1; subst this; exact h a
theorem arity2 {fd : FuncData} {p q : Str} (h : ∀ a b, bindArgs fd ⟨[a, b], []⟩ = pure [(p, a), (q, b)]) (vs : List Value) (hl : vs.length = [p, q].length) : bindArgs fd ⟨vs, []⟩ = pure ([p, q].zip vs) := by
  obtain ⟨a, r, rfl, h1⟩ := len_succ hl; obtain ⟨b, r, rfl, h2⟩ := len_succ h1; have := List.eq_nil_of_length_eq_zero h2; subst this; exact h a b
theorem arity3 {fd : FuncData} {p q r : Str} (h : ∀ a b c, bindArgs fd ⟨[a, b, c], []⟩ = pure [(p, a), (q, b), (r, c)]) (vs : List Value) (hl : vs.length = [p, q, r].length) : bindArgs fd ⟨vs, []⟩ = pure ([p, q, r].zip vs) := by
  obtain ⟨a, r', rfl, h1⟩ := len_succ hl; obtain ⟨b, r', rfl, h2⟩ := len_succ h1; obtain ⟨c, r', rfl, h3⟩ := len_succ h2; have := List.eq_nil_of_length_eq_zero h3; subst this; exact h a b c
theorem cx_ok {pr : Program} {w : World} {s₁ : Shared} {p : Program} {loose : List Str} {mean : ExcName → Option Value} {mg mb : Str → Option Value} (T : Top p loose mean mg mb s₁.heap) (hseer : s₁.heap.NoSeer) {gl : List (Str × Value)} (hg : GT.all s₁.heap gl)
    {sa : Addr} {vs : List Value} {ns : List Int} (hW : Well w.params s₁.heap (.ref sa) (ofPy (PyData.list (ns.map PyData.int)))) (hL : s₁.heap.IsList sa vs.toArray) (hI : IntsAre vs ns) (ht : pr.given.tree = none) :
    Cx.OK ⟨pr, w, s₁.heap, fun a => if a = sa then some (intsV ns) else none, fun x => gl.lookup x⟩ := ⟨T.nolimit, hseer, ht, GT.at hg, fun a vs' e => by
    show Rep s₁.heap a (.list vs')
    have e' : (if a = sa then some (intsV ns) else none) = some vs' := e
    split at e'
    · rename_i h; subst h; cases e'; exact script_obj hW hL hI
    · cases e'⟩
end Mine
end

section
open PySem PySem.W PyProof.Rows
namespace Mine
theorem arity4 {fd : FuncData} {p q r t : Str} (h : ∀ a b c d, bindArgs fd ⟨[a, b, c, d], []⟩ = pure [(p, a), (q, b), (r, c), (t, d)]) (vs : List Value) (hl : vs.length = [p, q, r, t].length) : bindArgs fd ⟨vs, []⟩ = pure ([p, q, r, t].zip vs) := by
  obtain ⟨a, r', rfl, h1⟩ := len_succ hl; obtain ⟨b, r', rfl, h2⟩ := len_succ h1; obtain ⟨c, r', rfl, h3⟩ := len_succ h2; obtain ⟨d, r', rfl, h4⟩ := len_succ h3; have := List.eq_nil_of_length_eq_zero h4; subst this; exact h a b c d
end Mine
end

open PySem PySem.W PyProof.Rows
set_option maxRecDepth 100000
set_option maxHeartbeats 8000000
namespace Mine
noncomputable def fns : List (Str × Addr) := [(Str.ofString "number_word", 94), (Str.ofString "link_word", 101), (Str.ofString "head_word", 108), (Str.ofString "is_link", 115), (Str.ofString "told_by", 122), (Str.ofString "fields_of", 129), (Str.ofString "is_marked", 136), (Str.ofString "hung", 143), (Str.ofString "led", 150), (Str.ofString "heads", 157), (Str.ofString "with_mark", 164), (Str.ofString "marked", 171), (Str.ofString "threaded", 178), (Str.ofString "moved", 185), (Str.ofString "pushed_sliding", 192), (Str.ofString "is_whole", 199), (Str.ofString "need_things", 206), (Str.ofString "word_of", 213), (Str.ofString "_law_at", 307), (Str.ofString "_law_is_int", 314), (Str.ofString "_law_words_are", 319), (Str.ofString "_law_number", 326), (Str.ofString "_law_places_of", 333), (Str.ofString "_law_cells_of", 340), (Str.ofString "_law_thing", 347), (Str.ofString "_law_handed", 354), (Str.ofString "_law_come_to", 359), (Str.ofString "_law_many", 366), (Str.ofString "_law_made", 371), (Str.ofString "_law_put", 376), (Str.ofString "_law_told", 381), (Str.ofString "_law_stands", 386), (Str.ofString "_law_begun", 393), (Str.ofString "_law_refused", 400), (Str.ofString "_law_no_boxes", 405), (Str.ofString "_law_pushed", 410), (Str.ofString "law", 417)]
noncomputable def exs : List (Str × Value) := [("Room", .ref 296), ("BadSize", .ref 37), ("BadThing", .ref 49), ("NoBox", .ref 61), ("NoField", .ref 73), ("NoRoom", .ref 85), ("MOST_CELLS", .int 400 434), ("MOST_DOORS", .int 20 436)]
noncomputable def gl0 : List (Str × Value) := fns.map (fun p => (p.1, Value.ref p.2)) ++ (exs ++ bt)
noncomputable def Tb0 (P : PySem.Params) : Tbl := ⟨fns, stdB, stdT, kk P, [(296, Str.ofString "row"), (296, Str.ofString "filled")], [(296, Str.ofString "need_boxes", 234), (296, Str.ofString "need_box", 241), (296, Str.ofString "made", 246), (296, Str.ofString "put", 253), (296, Str.ofString "told", 260), (296, Str.ofString "places", 267), (296, Str.ofString "come_to", 272), (296, Str.ofString "pushed", 279), (296, Str.ofString "used", 286), (296, Str.ofString "cells", 293)], [("Room", 296, 227)], [("MOST_CELLS", 400), ("MOST_DOORS", 20)], [("BadSize", 37), ("BadThing", 49), ("NoBox", 61), ("NoField", 73), ("NoRoom", 85)], false⟩
noncomputable abbrev cx0 (w : World) (s₁ : Shared) (sa : Addr) (ns : List Int) : Cx := ⟨PySem.Challenge.pw_uf060004_08, w, s₁.heap, fun a => if a = sa then some (intsV ns) else none, fun x => gl0.lookup x⟩
theorem glob0 {w : World} {s₁ : Shared} {p : Program} {loose : List Str} {mean : ExcName → Option Value} {mg mb : Str → Option Value} (T : Top p loose mean mg mb s₁.heap) (KX : (kk w.params).In s₁.heap) : GT.all s₁.heap gl0 := by
  refine ⟨glob_K T KX (by kernel_rfl), glob_K T KX (by kernel_rfl), glob_K T KX (by kernel_rfl), glob_K T KX (by kernel_rfl), glob_K T KX (by kernel_rfl), glob_K T KX (by kernel_rfl), glob_K T KX (by kernel_rfl), glob_K T KX (by kernel_rfl), glob_K T KX (by kernel_rfl), glob_K T KX (by kernel_rfl), glob_K T KX (by kernel_rfl), glob_K T KX (by kernel_rfl), glob_K T KX (by kernel_rfl), glob_K T KX (by kernel_rfl), glob_K T KX (by kernel_rfl), glob_K T KX (by kernel_rfl), glob_K T KX (by kernel_rfl), glob_K T KX (by kernel_rfl), glob_K T KX (by kernel_rfl), glob_K T KX (by kernel_rfl), glob_K T KX (by kernel_rfl), glob_K T KX (by kernel_rfl), glob_K T KX (by kernel_rfl), glob_K T KX (by kernel_rfl), glob_K T KX (by kernel_rfl), glob_K T KX (by kernel_rfl), glob_K T KX (by kernel_rfl), glob_K T KX (by kernel_rfl), glob_K T KX (by kernel_rfl), glob_K T KX (by kernel_rfl), glob_K T KX (by kernel_rfl), glob_K T KX (by kernel_rfl), glob_K T KX (by kernel_rfl), glob_K T KX (by kernel_rfl), glob_K T KX (by kernel_rfl), glob_K T KX (by kernel_rfl), glob_K T KX (by kernel_rfl), glob_K T KX (by kernel_rfl), glob_K T KX (by kernel_rfl), glob_K T KX (by kernel_rfl), glob_K T KX (by kernel_rfl), glob_K T KX (by kernel_rfl), glob_K T KX (by kernel_rfl), glob_K T KX (by kernel_rfl), glob_K T KX (by kernel_rfl),
    glob_B T KX (by kernel_rfl) (by decide +kernel) (by decide), glob_B T KX (by kernel_rfl) (by decide +kernel) (by decide), glob_B T KX (by kernel_rfl) (by decide +kernel) (by decide), glob_B T KX (by kernel_rfl) (by decide +kernel) (by decide), glob_B T KX (by kernel_rfl) (by decide +kernel) (by decide), glob_B T KX (by kernel_rfl) (by decide +kernel) (by decide), glob_B T KX (by kernel_rfl) (by decide +kernel) (by decide), glob_B T KX (by kernel_rfl) (by decide +kernel) (by decide), glob_B T KX (by kernel_rfl) (by decide +kernel) (by decide), trivial⟩
section
variable {w : World} {s₁ : Shared} {sa : Addr} {ns : List Int}
theorem d_number_word (KX : (kk w.params).In s₁.heap) : Def (cx0 w s₁ sa ns) 94 ["n"] (bodyOf (fdAt (kk w.params) 94)) (fdAt (kk w.params) 94).scope := def_of KX (by kernel_rfl) _ (arity1 fun a => by kernel_rfl)
theorem d_link_word (KX : (kk w.params).In s₁.heap) : Def (cx0 w s₁ sa ns) 101 ["place"] (bodyOf (fdAt (kk w.params) 101)) (fdAt (kk w.params) 101).scope := def_of KX (by kernel_rfl) _ (arity1 fun a => by kernel_rfl)
theorem d_head_word (KX : (kk w.params).In s₁.heap) : Def (cx0 w s₁ sa ns) 108 ["many", "marked"] (bodyOf (fdAt (kk w.params) 108)) (fdAt (kk w.params) 108).scope := def_of KX (by kernel_rfl) _ (arity2 fun a b => by kernel_rfl)
theorem d_is_link (KX : (kk w.params).In s₁.heap) : Def (cx0 w s₁ sa ns) 115 ["word"] (bodyOf (fdAt (kk w.params) 115)) (fdAt (kk w.params) 115).scope := def_of KX (by kernel_rfl) _ (arity1 fun a => by kernel_rfl)
theorem d_told_by (KX : (kk w.params).In s₁.heap) : Def (cx0 w s₁ sa ns) 122 ["word"] (bodyOf (fdAt (kk w.params) 122)) (fdAt (kk w.params) 122).scope := def_of KX (by kernel_rfl) _ (arity1 fun a => by kernel_rfl)
theorem d_fields_of (KX : (kk w.params).In s₁.heap) : Def (cx0 w s₁ sa ns) 129 ["head"] (bodyOf (fdAt (kk w.params) 129)) (fdAt (kk w.params) 129).scope := def_of KX (by kernel_rfl) _ (arity1 fun a => by kernel_rfl)
theorem d_is_marked (KX : (kk w.params).In s₁.heap) : Def (cx0 w s₁ sa ns) 136 ["head"] (bodyOf (fdAt (kk w.params) 136)) (fdAt (kk w.params) 136).scope := def_of KX (by kernel_rfl) _ (arity1 fun a => by kernel_rfl)
theorem d_hung (KX : (kk w.params).In s₁.heap) : Def (cx0 w s₁ sa ns) 143 ["row", "at"] (bodyOf (fdAt (kk w.params) 143)) (fdAt (kk w.params) 143).scope := def_of KX (by kernel_rfl) _ (arity2 fun a b => by kernel_rfl)
theorem d_led (KX : (kk w.params).In s₁.heap) : Def (cx0 w s₁ sa ns) 150 ["row", "head", "place"] (bodyOf (fdAt (kk w.params) 150)) (fdAt (kk w.params) 150).scope := def_of KX (by kernel_rfl) _ (arity3 fun a b c => by kernel_rfl)
theorem d_heads (KX : (kk w.params).In s₁.heap) : Def (cx0 w s₁ sa ns) 157 ["row", "used"] (bodyOf (fdAt (kk w.params) 157)) (fdAt (kk w.params) 157).scope := def_of KX (by kernel_rfl) _ (arity2 fun a b => by kernel_rfl)
theorem d_with_mark (KX : (kk w.params).In s₁.heap) : Def (cx0 w s₁ sa ns) 164 ["row", "at"] (bodyOf (fdAt (kk w.params) 164)) (fdAt (kk w.params) 164).scope := def_of KX (by kernel_rfl) _ (arity2 fun a b => by kernel_rfl)
theorem d_marked (KX : (kk w.params).In s₁.heap) : Def (cx0 w s₁ sa ns) 171 ["row", "used"] (bodyOf (fdAt (kk w.params) 171)) (fdAt (kk w.params) 171).scope := def_of KX (by kernel_rfl) _ (arity2 fun a b => by kernel_rfl)
theorem d_threaded (KX : (kk w.params).In s₁.heap) : Def (cx0 w s₁ sa ns) 178 ["row", "used"] (bodyOf (fdAt (kk w.params) 178)) (fdAt (kk w.params) 178).scope := def_of KX (by kernel_rfl) _ (arity2 fun a b => by kernel_rfl)
theorem d_moved (KX : (kk w.params).In s₁.heap) : Def (cx0 w s₁ sa ns) 185 ["row", "at", "free", "many"] (bodyOf (fdAt (kk w.params) 185)) (fdAt (kk w.params) 185).scope := def_of KX (by kernel_rfl) _ (arity4 fun a b c d => by kernel_rfl)
theorem d_pushed (KX : (kk w.params).In s₁.heap) : Def (cx0 w s₁ sa ns) 192 ["row", "used"] (bodyOf (fdAt (kk w.params) 192)) (fdAt (kk w.params) 192).scope := def_of KX (by kernel_rfl) _ (arity2 fun a b => by kernel_rfl)
theorem d_is_whole (KX : (kk w.params).In s₁.heap) : Def (cx0 w s₁ sa ns) 199 ["thing"] (bodyOf (fdAt (kk w.params) 199)) (fdAt (kk w.params) 199).scope := def_of KX (by kernel_rfl) _ (arity1 fun a => by kernel_rfl)
theorem d_need_things (KX : (kk w.params).In s₁.heap) : Def (cx0 w s₁ sa ns) 206 ["things"] (bodyOf (fdAt (kk w.params) 206)) (fdAt (kk w.params) 206).scope := def_of KX (by kernel_rfl) _ (arity1 fun a => by kernel_rfl)
theorem d_word_of (KX : (kk w.params).In s₁.heap) : Def (cx0 w s₁ sa ns) 213 ["thing"] (bodyOf (fdAt (kk w.params) 213)) (fdAt (kk w.params) 213).scope := def_of KX (by kernel_rfl) _ (arity1 fun a => by kernel_rfl)
theorem d_law_at (KX : (kk w.params).In s₁.heap) : Def (cx0 w s₁ sa ns) 307 ["_law_script", "_law_place"] (bodyOf (fdAt (kk w.params) 307)) (fdAt (kk w.params) 307).scope := def_of KX (by kernel_rfl) _ (arity2 fun a b => by kernel_rfl)
theorem d_law_is_int (KX : (kk w.params).In s₁.heap) : Def (cx0 w s₁ sa ns) 314 ["_law_value"] (bodyOf (fdAt (kk w.params) 314)) (fdAt (kk w.params) 314).scope := def_of KX (by kernel_rfl) _ (arity1 fun a => by kernel_rfl)
theorem d_law_words_are (KX : (kk w.params).In s₁.heap) : Def (cx0 w s₁ sa ns) 319 ["_law_found", "_law_due"] (bodyOf (fdAt (kk w.params) 319)) (fdAt (kk w.params) 319).scope := def_of KX (by kernel_rfl) _ (arity2 fun a b => by kernel_rfl)
theorem d_law_number (KX : (kk w.params).In s₁.heap) : Def (cx0 w s₁ sa ns) 326 ["_law_seed"] (bodyOf (fdAt (kk w.params) 326)) (fdAt (kk w.params) 326).scope := def_of KX (by kernel_rfl) _ (arity1 fun a => by kernel_rfl)
theorem d_law_places_of (KX : (kk w.params).In s₁.heap) : Def (cx0 w s₁ sa ns) 333 ["_law_order", "_law_fields"] (bodyOf (fdAt (kk w.params) 333)) (fdAt (kk w.params) 333).scope := def_of KX (by kernel_rfl) _ (arity2 fun a b => by kernel_rfl)
theorem d_law_cells_of (KX : (kk w.params).In s₁.heap) : Def (cx0 w s₁ sa ns) 340 ["_law_order", "_law_fields", "_law_size"] (bodyOf (fdAt (kk w.params) 340)) (fdAt (kk w.params) 340).scope := def_of KX (by kernel_rfl) _ (arity3 fun a b c => by kernel_rfl)
theorem d_law_thing (KX : (kk w.params).In s₁.heap) : Def (cx0 w s₁ sa ns) 347 ["_law_seed", "_law_order"] (bodyOf (fdAt (kk w.params) 347)) (fdAt (kk w.params) 347).scope := def_of KX (by kernel_rfl) _ (arity2 fun a b => by kernel_rfl)
theorem d_law_handed (KX : (kk w.params).In s₁.heap) : Def (cx0 w s₁ sa ns) 354 ["_law_thing_here", "_law_places"] (bodyOf (fdAt (kk w.params) 354)) (fdAt (kk w.params) 354).scope := def_of KX (by kernel_rfl) _ (arity2 fun a b => by kernel_rfl)
theorem d_law_come_to (KX : (kk w.params).In s₁.heap) : Def (cx0 w s₁ sa ns) 359 ["_law_order", "_law_fields"] (bodyOf (fdAt (kk w.params) 359)) (fdAt (kk w.params) 359).scope := def_of KX (by kernel_rfl) _ (arity2 fun a b => by kernel_rfl)
theorem d_law_many (KX : (kk w.params).In s₁.heap) : Def (cx0 w s₁ sa ns) 366 ["_law_cell", "_law_seed"] (bodyOf (fdAt (kk w.params) 366)) (fdAt (kk w.params) 366).scope := def_of KX (by kernel_rfl) _ (arity2 fun a b => by kernel_rfl)
theorem d_law_made (KX : (kk w.params).In s₁.heap) : Def (cx0 w s₁ sa ns) 371 ["_law_room", "_law_state", "_law_cell", "_law_seed"] (bodyOf (fdAt (kk w.params) 371)) (fdAt (kk w.params) 371).scope := def_of KX (by kernel_rfl) _ (arity4 fun a b c d => by kernel_rfl)
theorem d_law_put (KX : (kk w.params).In s₁.heap) : Def (cx0 w s₁ sa ns) 376 ["_law_room", "_law_state", "_law_seed"] (bodyOf (fdAt (kk w.params) 376)) (fdAt (kk w.params) 376).scope := def_of KX (by kernel_rfl) _ (arity3 fun a b c => by kernel_rfl)
theorem d_law_told (KX : (kk w.params).In s₁.heap) : Def (cx0 w s₁ sa ns) 381 ["_law_room", "_law_state"] (bodyOf (fdAt (kk w.params) 381)) (fdAt (kk w.params) 381).scope := def_of KX (by kernel_rfl) _ (arity2 fun a b => by kernel_rfl)
theorem d_law_stands (KX : (kk w.params).In s₁.heap) : Def (cx0 w s₁ sa ns) 386 ["_law_room", "_law_state"] (bodyOf (fdAt (kk w.params) 386)) (fdAt (kk w.params) 386).scope := def_of KX (by kernel_rfl) _ (arity2 fun a b => by kernel_rfl)
theorem d_law_begun (KX : (kk w.params).In s₁.heap) : Def (cx0 w s₁ sa ns) 393 ["_law_script"] (bodyOf (fdAt (kk w.params) 393)) (fdAt (kk w.params) 393).scope := def_of KX (by kernel_rfl) _ (arity1 fun a => by kernel_rfl)
theorem d_law_refused (KX : (kk w.params).In s₁.heap) : Def (cx0 w s₁ sa ns) 400 ["_law_room", "_law_call", "_law_place"] (bodyOf (fdAt (kk w.params) 400)) (fdAt (kk w.params) 400).scope := def_of KX (by kernel_rfl) _ (arity3 fun a b c => by kernel_rfl)
theorem d_law_no_boxes (KX : (kk w.params).In s₁.heap) : Def (cx0 w s₁ sa ns) 405 ["_law_room", "_law_state", "_law_seed", "_law_before"] (bodyOf (fdAt (kk w.params) 405)) (fdAt (kk w.params) 405).scope := def_of KX (by kernel_rfl) _ (arity4 fun a b c d => by kernel_rfl)
theorem d_law_pushed (KX : (kk w.params).In s₁.heap) : Def (cx0 w s₁ sa ns) 410 ["_law_room", "_law_state"] (bodyOf (fdAt (kk w.params) 410)) (fdAt (kk w.params) 410).scope := def_of KX (by kernel_rfl) _ (arity2 fun a b => by kernel_rfl)
theorem d_law (KX : (kk w.params).In s₁.heap) : Def (cx0 w s₁ sa ns) 417 ["_law_script"] (bodyOf (fdAt (kk w.params) 417)) (fdAt (kk w.params) 417).scope := def_of KX (by kernel_rfl) _ (arity1 fun a => by kernel_rfl)
theorem d_Room_init (KX : (kk w.params).In s₁.heap) : Def (cx0 w s₁ sa ns) 227 ["self", "size", "doors"] (bodyOf (fdAt (kk w.params) 227)) (fdAt (kk w.params) 227).scope := def_of KX (by kernel_rfl) _ (arity3 fun a b c => by kernel_rfl)
theorem d_Room_need_boxes (KX : (kk w.params).In s₁.heap) : Def (cx0 w s₁ sa ns) 234 ["self", "things"] (bodyOf (fdAt (kk w.params) 234)) (fdAt (kk w.params) 234).scope := def_of KX (by kernel_rfl) _ (arity2 fun a b => by kernel_rfl)
theorem d_Room_need_box (KX : (kk w.params).In s₁.heap) : Def (cx0 w s₁ sa ns) 241 ["self", "place"] (bodyOf (fdAt (kk w.params) 241)) (fdAt (kk w.params) 241).scope := def_of KX (by kernel_rfl) _ (arity2 fun a b => by kernel_rfl)
theorem d_Room_made (KX : (kk w.params).In s₁.heap) : Def (cx0 w s₁ sa ns) 246 ["self", "things"] (bodyOf (fdAt (kk w.params) 246)) (fdAt (kk w.params) 246).scope := def_of KX (by kernel_rfl) _ (arity2 fun a b => by kernel_rfl)
theorem d_Room_put (KX : (kk w.params).In s₁.heap) : Def (cx0 w s₁ sa ns) 253 ["self", "place", "field", "thing"] (bodyOf (fdAt (kk w.params) 253)) (fdAt (kk w.params) 253).scope := def_of KX (by kernel_rfl) _ (arity4 fun a b c d => by kernel_rfl)
theorem d_Room_told (KX : (kk w.params).In s₁.heap) : Def (cx0 w s₁ sa ns) 260 ["self", "place"] (bodyOf (fdAt (kk w.params) 260)) (fdAt (kk w.params) 260).scope := def_of KX (by kernel_rfl) _ (arity2 fun a b => by kernel_rfl)
theorem d_Room_places (KX : (kk w.params).In s₁.heap) : Def (cx0 w s₁ sa ns) 267 ["self"] (bodyOf (fdAt (kk w.params) 267)) (fdAt (kk w.params) 267).scope := def_of KX (by kernel_rfl) _ (arity1 fun a => by kernel_rfl)
theorem d_Room_come_to (KX : (kk w.params).In s₁.heap) : Def (cx0 w s₁ sa ns) 272 ["self"] (bodyOf (fdAt (kk w.params) 272)) (fdAt (kk w.params) 272).scope := def_of KX (by kernel_rfl) _ (arity1 fun a => by kernel_rfl)
theorem d_Room_pushed (KX : (kk w.params).In s₁.heap) : Def (cx0 w s₁ sa ns) 279 ["self"] (bodyOf (fdAt (kk w.params) 279)) (fdAt (kk w.params) 279).scope := def_of KX (by kernel_rfl) _ (arity1 fun a => by kernel_rfl)
theorem d_Room_used (KX : (kk w.params).In s₁.heap) : Def (cx0 w s₁ sa ns) 286 ["self"] (bodyOf (fdAt (kk w.params) 286)) (fdAt (kk w.params) 286).scope := def_of KX (by kernel_rfl) _ (arity1 fun a => by kernel_rfl)
theorem d_Room_cells (KX : (kk w.params).In s₁.heap) : Def (cx0 w s₁ sa ns) 293 ["self"] (bodyOf (fdAt (kk w.params) 293)) (fdAt (kk w.params) 293).scope := def_of KX (by kernel_rfl) _ (arity1 fun a => by kernel_rfl)
end
theorem walk0 {w : World} {s₁ : Shared} {p : Program} {loose : List Str} {mean : ExcName → Option Value} {mg mb : Str → Option Value} (T : Top p loose mean mg mb s₁.heap) (hseer : s₁.heap.NoSeer) (KX : (kk w.params).In s₁.heap)
    {sa : Addr} {vs : List Value} {ns : List Int} (hW : Well w.params s₁.heap (.ref sa) (ofPy (PyData.list (ns.map PyData.int)))) (hL : s₁.heap.IsList sa vs.toArray) (hI : IntsAre vs ns) (hlen : ns.length ≤ 1000)
    (hX : ∀ p ∈ [(("BadSize" : Str), (37 : Addr)), ("BadThing", 49), ("NoBox", 61), ("NoField", 73), ("NoRoom", 85)], ExcCls p.2 s₁.heap) :
    CallP (cx0 w s₁ sa ns) 9 417 [.ref sa] (fun _ => none) fun v _ => v = .bool true := by
  have C : (cx0 w s₁ sa ns).OK := cx_ok T hseer (glob0 T KX) hW hL hI rfl
  have TO : Tbl.OK (cx0 w s₁ sa ns) (Tb0 w.params) := tbl_ok KX rfl (by kernel_rfl) (by kernel_rfl) (by kernel_rfl) (by kernel_rfl) (by kernel_rfl) (by kernel_rfl) (by kernel_rfl) (by kernel_rfl) (by kernel_rfl) (by kernel_rfl) hX
  have s_numw : ∀ n, Fn1 (cx0 w s₁ sa ns) (n + 1) 94 fun w => .int (2 * w) := fun n p H Q h => call_intro C TO (d_number_word KX) (rest := []) (ms := m_number_word) (by decide) (by kernel_rfl) (by kernel_rfl) rfl (numw_ms (Q := nx Q) h)
  have s_link : ∀ n, Fn1 (cx0 w s₁ sa ns) (n + 1) 101 fun w => .int (2 * w + 1) := fun n p H Q h => call_intro C TO (d_link_word KX) (rest := []) (ms := m_link_word) (by decide) (by kernel_rfl) (by kernel_rfl) rfl (linkw_ms (Q := nx Q) h)
  have s_headw : ∀ n, HeadSp (cx0 w s₁ sa ns) (n + 1) := fun n p H Q h => call_intro C TO (d_head_word KX) (rest := []) (ms := m_head_word) (by decide) (by kernel_rfl) (by kernel_rfl) rfl (headw_ms (Q := nx Q) h)
  have s_headt : ∀ n, HeadTSp (cx0 w s₁ sa ns) (n + 1) := fun n p H Q h => call_intro C TO (d_head_word KX) (rest := []) (ms := m_head_word) (by decide) (by kernel_rfl) (by kernel_rfl) rfl (headt_ms (Q := nx Q) h)
  have s_islink : ∀ n, Fn1 (cx0 w s₁ sa ns) (n + 1) 115 fun w => .bool (w.fmod 2 == 1) := fun n p H Q h => call_intro C TO (d_is_link KX) (rest := []) (ms := m_is_link) (by decide) (by kernel_rfl) (by kernel_rfl) rfl (islink_ms (Q := nx Q) h)
  have s_told : ∀ n, Fn1 (cx0 w s₁ sa ns) (n + 1) 122 fun w => .int (w.fdiv 2) := fun n p H Q h => call_intro C TO (d_told_by KX) (rest := []) (ms := m_told_by) (by decide) (by kernel_rfl) (by kernel_rfl) rfl (told_ms (Q := nx Q) h)
  have s_fields : ∀ n, Fn1 (cx0 w s₁ sa ns) (n + 1) 129 fun w => .int (w.fdiv 4) := fun n p H Q h => call_intro C TO (d_fields_of KX) (rest := []) (ms := m_fields_of) (by decide) (by kernel_rfl) (by kernel_rfl) rfl (fields_ms (Q := nx Q) h)
  have s_ismarked : ∀ n, Fn1 (cx0 w s₁ sa ns) (n + 1) 136 fun w => .bool ((w.fdiv 2).fmod 2 == 1) := fun n p H Q h => call_intro C TO (d_is_marked KX) (rest := []) (ms := m_is_marked) (by decide) (by kernel_rfl) (by kernel_rfl) rfl (ismarked_ms (Q := nx Q) h)
  have s_heads : ∀ n, HeadsSpec (cx0 w s₁ sa ns) (n + 2) := fun n row xs B H Q h1 h2 h3 h4 => call_intro C TO (d_heads KX) (rest := ["found", "at"]) (ms := m_heads) (by decide) (by kernel_rfl) (by kernel_rfl) rfl (heads_ms (Q := nx Q) (s_fields n) h1 h2 h3 h4)
  have s_withmark : ∀ n, WithMarkSpec (cx0 w s₁ sa ns) (n + 2) := fun n row xs p w' H Q h1 h2 h3 h4 => call_intro C TO (d_with_mark KX) (rest := ["found"]) (ms := m_with_mark) (by decide) (by kernel_rfl) (by kernel_rfl) rfl (withmark_ms (Q := nx Q) (s_headt n) (s_fields n) h1 h2 h3 h4)
  have s_marked : ∀ n, MarkedSpec (cx0 w s₁ sa ns) (n + 3) := fun n row xs B used H Q h1 h2 h3 h4 h5 => call_intro C TO (d_marked KX) (rest := ["found", "waiting", "at", "word"]) (ms := m_marked) (by decide) (by kernel_rfl) (by kernel_rfl) rfl (marked_ms (Q := nx Q) (s_withmark n) (s_fields (n + 1)) (s_islink (n + 1)) (s_ismarked (n + 1)) (s_told (n + 1)) h1 h2 h3 h4 h5)
  have s_hung : ∀ n, HungSp (cx0 w s₁ sa ns) (n + 2) := fun n row xs k h wk wh H Q h1 h2 h3 h4 h5 h6 => call_intro C TO (d_hung KX) (rest := ["found", "head"]) (ms := m_hung) (by decide) (by kernel_rfl) (by kernel_rfl) rfl (hung_ms (Q := nx Q) (s_told n) (s_link n) h1 h2 h3 h4 h5 h6)
  have s_led : ∀ n, LedSpec (cx0 w s₁ sa ns) (n + 2) := fun n row xs h p' w' e cs H Q h1 h2 h3 h4 h5 h6 h7 => call_intro C TO (d_led KX) (rest := ["found", "word", "cell"]) (ms := m_led) (by decide) (by kernel_rfl) (by kernel_rfl) rfl (led_ms (Q := nx Q) (s_islink n) (s_told n) (s_link n) h1 h2 h3 h4 h5 h6 h7)
  have s_moved : ∀ n, MovedSpec (cx0 w s₁ sa ns) (n + 2) := fun n row xs at_ free many H Q h1 h2 h3 h4 h5 => call_intro C TO (d_moved KX) (rest := ["found", "k"]) (ms := m_moved) (by decide) (by kernel_rfl) (by kernel_rfl) rfl (moved_ms (Q := nx Q) (s_headw n) h1 h2 h3 h4 h5)
  have s_thread : ∀ n, ThreadSpec (cx0 w s₁ sa ns) (n + 3) := fun n row B p' N zs H Q h1 h2 h3 h4 h5 h6 => call_intro C TO (d_threaded KX) (rest := ["at", "free", "many", "field"]) (ms := m_threaded) (by decide) (by kernel_rfl) (by kernel_rfl) rfl (threaded_ms (Q := nx Q) (s_led n) (s_fields (n + 1)) (s_ismarked (n + 1)) (s_islink (n + 1)) (s_hung n) h1 h2 h3 h4 h5 h6)
  have s_pushed : ∀ n, PushedSpec (cx0 w s₁ sa ns) (n + 4) := fun n row B xs H Q h1 h2 h3 h4 h5 => call_intro C TO (d_pushed KX) (rest := ["at", "free", "many"]) (ms := m_pushed) (by decide) (by kernel_rfl) (by kernel_rfl) rfl (pushed_ms (Q := nx Q) (s_thread n) (s_marked n) (s_led (n + 1)) (s_fields (n + 2)) (s_ismarked (n + 2)) (s_moved (n + 1)) h1 h2 h3 h4 h5)
  have s_at : ∀ n, AtSpec (cx0 w s₁ sa ns) (n + 1) sa ns := fun n p H Q h1 h2 h3 => call_intro C TO (d_law_at KX) (rest := []) (ms := m_law_at) (by decide) (by kernel_rfl) (by kernel_rfl) rfl (at_ms (Q := nx Q) h1 hlen h2 h3)
  have s_int : ∀ n, IntSp (cx0 w s₁ sa ns) (n + 1) := fun n v H Q h => call_intro C TO (d_law_is_int KX) (rest := []) (ms := m_law_is_int) (by decide) (by kernel_rfl) (by kernel_rfl) rfl (isint_ms (Q := nx Q) h)
  have s_words : ∀ n, WordsSpec (cx0 w s₁ sa ns) (n + 2) := fun n fa da xs H Q h1 h2 h3 h4 => call_intro C TO (d_law_words_are KX) (rest := []) (ms := m_law_words_are) (by decide) (by kernel_rfl) (by kernel_rfl) rfl (words_ms (Q := nx Q) (s_int n) h1 h2 h3 h4)
  have s_whole : ∀ n, WholeSp (cx0 w s₁ sa ns) (n + 1) := fun n v H Q h1 h2 => call_intro C TO (d_is_whole KX) (rest := []) (ms := m_is_whole) (by decide) (by kernel_rfl) (by kernel_rfl) rfl (whole_ms (Q := nx Q) h1 h2)
  have s_wordof : ∀ n, WordOfSpec (cx0 w s₁ sa ns) (n + 2) := fun n b t H Q h1 h2 => call_intro C TO (d_word_of KX) (rest := []) (ms := m_word_of) (by decide) (by kernel_rfl) (by kernel_rfl) rfl (wordof_ms (Q := nx Q) (s_numw n) (s_link n) h1 h2)
  have s_needt : ∀ n, NeedTSpec (cx0 w s₁ sa ns) (n + 2) := fun n la vs H Q h1 h2 h3 h4 h5 => call_introX C TO (d_need_things KX) (rest := ["thing"]) (ms := m_need_things) (by decide) (by kernel_rfl) (by kernel_rfl) rfl (needT_ms (s_whole n) h1 h2 h3 h4 h5)
  have s_pl : ∀ n, PlSpec (cx0 w s₁ sa ns) (n + 3) := fun n N rm dx ra B H Q h1 h2 => call_intro C TO (d_Room_places KX) (rest := []) (ms := m_Room_places) (by decide) (by kernel_rfl) (by kernel_rfl) rfl (places_ms (Q := nx Q) (s_heads n) h1 h2)
  have s_needb : ∀ n, NeedBSpec (cx0 w s₁ sa ns) (n + 4) := fun n N rm dx ra la B vs ts H Q h1 h2 h3 h4 h5 h6 => call_introX C TO (d_Room_need_boxes KX) (rest := ["known", "thing"]) (ms := m_Room_need_boxes) (by decide) (by kernel_rfl) (by kernel_rfl) rfl (needB_ms (s_pl n) h1 h2 h3 h4 h5 h6)
  have s_needx : ∀ n, NeedXSpec (cx0 w s₁ sa ns) (n + 4) := fun n N rm dx ra B v H Q h1 h2 h3 h4 => call_introX C TO (d_Room_need_box KX) (rest := []) (ms := m_Room_need_box) (by decide) (by kernel_rfl) (by kernel_rfl) rfl (needX_ms (s_whole (n + 2)) (s_pl n) h1 h2 h3 h4)
  have s_used : ∀ n, UsedSpec (cx0 w s₁ sa ns) (n + 1) := fun n N rm dx ra B H Q h1 h2 => call_intro C TO (d_Room_used KX) (rest := []) (ms := m_Room_used) (by decide) (by kernel_rfl) (by kernel_rfl) rfl (used_ms (Q := nx Q) h1 h2)
  have s_cells : ∀ n, CellsSpec (cx0 w s₁ sa ns) (n + 1) := fun n N rm dx ra B H Q h1 h2 => call_intro C TO (d_Room_cells KX) (rest := []) (ms := m_Room_cells) (by decide) (by kernel_rfl) (by kernel_rfl) rfl (cells_ms (Q := nx Q) h1 h2)
  have s_rtold : ∀ n, ToldSpec (cx0 w s₁ sa ns) (n + 5) := fun n N rm dx ra B v H Q h1 h2 h3 h4 => call_introX C TO (d_Room_told KX) (rest := ["found", "word"]) (ms := m_Room_told) (by decide) (by kernel_rfl) (by kernel_rfl) rfl (told_ms' (s_needx n) (s_fields (n + 3)) (s_islink (n + 3)) (s_told (n + 3)) h1 h2 h3 h4)
  have s_put : ∀ n, PutSpec (cx0 w s₁ sa ns) (n + 5) := fun n N rm dx ra B v f t' H Q h1 h2 h3 h4 h5 h6 h7 h8 h9 => call_introX C TO (d_Room_put KX) (rest := []) (ms := m_Room_put) (by decide) (by kernel_rfl) (by kernel_rfl) rfl (put_ms (s_needx n) (s_whole (n + 3)) (s_fields (n + 3)) (s_needt (n + 2)) (s_needb n) (s_wordof (n + 2)) h1 h2 h3 h4 h5 h6 h7 h8 h9)
  have s_made : ∀ n, MadeSpec (cx0 w s₁ sa ns) (n + 5) := fun n N rm dx ra la B vs H Q h1 h2 h3 h4 h5 h6 h7 h8 => call_introX C TO (d_Room_made KX) (rest := ["place", "behind", "words"]) (ms := m_Room_made) (by decide) (by kernel_rfl) (by kernel_rfl) rfl (made_ms (s_needt (n + 2)) (s_needb n) (s_headw (n + 3)) (s_wordof (n + 2)) h1 h2 h3 h4 h5 h6 h7 h8)
  have s_init : ∀ n, InitSpec (cx0 w s₁ sa ns) (n + 2) := fun n rm dx u w' H Q h1 h2 h3 h4 h5 h6 => call_introX C TO (d_Room_init KX) (rest := []) (ms := m_Room_init) (by decide) (by kernel_rfl) (by kernel_rfl) rfl (init_ms (s_whole n) (s_headw n) h1 h2 h3 h4 h5 h6)
  have s_come : ∀ n, ComeSpec (cx0 w s₁ sa ns) (n + 4) := fun n N rm dx ra B H Q h1 h2 => call_intro C TO (d_Room_come_to KX) (rest := ["row"]) (ms := m_Room_come_to) (by decide) (by kernel_rfl) (by kernel_rfl) rfl (come_ms (Q := nx Q) (s_marked n) (s_ismarked (n + 2)) (s_pl n) h1 h2)
  have s_rpush : ∀ n, RPushSpec (cx0 w s₁ sa ns) (n + 5) := fun n N rm dx ra B H Q h1 h2 => call_intro C TO (d_Room_pushed KX) (rest := ["ahead", "found"]) (ms := m_Room_pushed) (by decide) (by kernel_rfl) (by kernel_rfl) rfl (rpush_ms (Q := nx Q) (s_pushed n) h1 h2)
  have s_num : ∀ n, NumSpec (cx0 w s₁ sa ns) (n + 1) := fun n s H Q h1 h2 => call_intro C TO (d_law_number KX) (rest := []) (ms := m_law_number) (by decide) (by kernel_rfl) (by kernel_rfl) rfl (number_ms (Q := nx Q) h1 h2)
  have s_po : ∀ n, PlacesOfSpec (cx0 w s₁ sa ns) (n + 1) := fun n oa da fl L F H Q h1 h2 h3 h4 h5 h6 => call_intro C TO (d_law_places_of KX) (rest := ["_law_found", "_law_at_here", "_law_one"]) (ms := m_law_places_of) (by decide) (by kernel_rfl) (by kernel_rfl) rfl (placesof_ms (Q := nx Q) h1 h2 h3 h4 h5 h6)
  have s_co : ∀ n, CellsOfSpec (cx0 w s₁ sa ns) (n + 2) := fun n oa da fl L F N H Q h1 h2 h3 h4 h5 h6 h7 => call_intro C TO (d_law_cells_of KX) (rest := ["_law_places", "_law_row", "_law_one", "_law_thing_here"]) (ms := m_law_cells_of) (by decide) (by kernel_rfl) (by kernel_rfl) rfl (cellsof_ms (Q := nx Q) (s_po n) h1 h2 h3 h4 h5 h6 h7)
  have s_thing : ∀ n, ThingSpec (cx0 w s₁ sa ns) (n + 2) := fun n oa L seed H Q h1 h2 h3 h4 h5 h6 => call_intro C TO (d_law_thing KX) (rest := []) (ms := m_law_thing) (by decide) (by kernel_rfl) (by kernel_rfl) rfl (thing_ms (Q := nx Q) (s_num n) h1 h2 h3 h4 h5 h6)
  have s_handed : ∀ n, HandedSpec (cx0 w s₁ sa ns) (n + 1) := fun n pa L B v t H Q h1 h2 h3 h4 h5 => call_intro C TO (d_law_handed KX) (rest := []) (ms := m_law_handed) (by decide) (by kernel_rfl) (by kernel_rfl) rfl (handed_ms (Q := nx Q) h1 h2 h3 h4 fun v H' x ⟨b, e, hb⟩ => by subst e; exact h5 _ H' x ⟨b, rfl, hb⟩)
  have s_lcome : ∀ n, LComeSpec (cx0 w s₁ sa ns) (n + 1) := fun n oa da fl L F H Q h1 h2 h3 h4 h5 h6 => call_intro C TO (d_law_come_to KX) (rest := ["_law_found", "_law_turn", "_law_thing_here"]) (ms := m_law_come_to) (by decide) (by kernel_rfl) (by kernel_rfl) rfl (lcome_ms (Q := nx Q) h1 h2 h3 h4 h5 h6)
  have s_many : ∀ n, ManySpec (cx0 w s₁ sa ns) (n + 1) := fun n cell seed H Q h => call_intro C TO (d_law_many KX) (rest := []) (ms := m_law_many) (by decide) (by kernel_rfl) (by kernel_rfl) rfl (many_ms (Q := nx Q) h)
  have s_ltold : ∀ n, LToldSpec (cx0 w s₁ sa ns) (n + 6) := fun n A L F nf fl ps K H Q h1 h2 h3 h4 => call_intro C TO (d_law_told KX) (rest := ["_law_places", "_law_one", "_law_due", "_law_found", "_law_thing_here"]) (ms := m_law_told) (by decide) (by kernel_rfl) (by kernel_rfl) rfl (ltold_ms (Q := nx Q) (s_po (n + 4)) (s_handed (n + 4)) (s_rtold n) (s_int (n + 4)) h1 h2 h3 h4)
  have s_LS : ∀ n, LS (cx0 w s₁ sa ns) (n + 6) := fun n => ⟨s_po (n + 5), s_words (n + 4), s_used (n + 5), s_ltold n, s_pl (n + 3), s_come (n + 2), s_lcome (n + 5), s_cells (n + 5), s_rtold (n + 1), s_co (n + 4)⟩
  have s_LD : ∀ n, LD (cx0 w s₁ sa ns) (n + 6) := fun n => ⟨s_LS n, s_int (n + 5), s_many (n + 5), s_thing (n + 4), s_handed (n + 5), s_made (n + 1), s_put (n + 1), s_rpush (n + 1)⟩
  have s_sd : ∀ n, StandsSpec (cx0 w s₁ sa ns) (n + 7) := fun n N rm st sa al c H Q h1 h2 h3 => call_intro C TO (d_law_stands KX) (rest := ["_law_used", "_law_places", "_law_found"]) (ms := m_law_stands) (by decide) (by kernel_rfl) (by kernel_rfl) rfl (stands_st (Q := nx Q) (s_LS n) h1 h2 h3)
  have s_lm : ∀ n, LMadeSpec (cx0 w s₁ sa ns) (n + 7) := fun n N rm st sa al c cell seed H Q h1 h2 h3 h4 h5 => call_intro C TO (d_law_made KX) (rest := ["_law_order", "_law_fields", "_law_seeds", "_law_things", "_law_places", "_law_used", "_law_due", "_law_handed_here", "_law_found", "_law_fresh"]) (ms := m_law_made) (by decide) (by kernel_rfl) (by kernel_rfl) rfl (lmade_st (Q := nx Q) (s_LD n) h1 h2 h3 h4 h5)
  have s_lp : ∀ n, LPutSpec (cx0 w s₁ sa ns) (n + 7) := fun n N rm st sa al c seed H Q h1 h2 h3 => call_intro C TO (d_law_put KX) (rest := ["_law_order", "_law_fields", "_law_one", "_law_field", "_law_thing_here", "_law_places", "_law_found", "_law_row"]) (ms := m_law_put) (by decide) (by kernel_rfl) (by kernel_rfl) rfl (lput_st (Q := nx Q) (s_LD n) h1 h2 h3)
  have s_rf : ∀ n, RefusedSpec (cx0 w s₁ sa ns) (n + 6) := fun n N rm dx ra B cc i H Q h1 h2 h3 => call_intro C TO (d_law_refused KX) (rest := []) (ms := m_law_refused) (by decide) (by kernel_rfl) (by kernel_rfl) rfl (refused_ms (Q := nx Q) (s_rtold n) (s_made n) (s_put n) h1 h2 h3)
  have s_nb : ∀ n, NoBoxesSpec (cx0 w s₁ sa ns) (n + 7) := fun n A L F nf fl ps K H be bs seed Q h1 h2 h3 h4 h5 h6 => call_intro C TO (d_law_no_boxes KX) (rest := ["_law_places", "_law_every", "_law_asked", "_law_k"]) (ms := m_law_no_boxes) (by decide) (by kernel_rfl) (by kernel_rfl) rfl (noboxes_ms (Q := nx Q) (s_po (n + 5)) (s_rf n) h1 h2 h3 h4 h5 h6)
  have s_ph : ∀ n, LPushSpec (cx0 w s₁ sa ns) (n + 8) := fun n N rm st sa al c H Q h1 h2 h3 => call_intro C TO (d_law_pushed KX) (rest := ["_law_kept", "_law_gone", "_law_places", "_law_before", "_law_found"]) (ms := m_law_pushed) (by decide) (by kernel_rfl) (by kernel_rfl) rfl (lpush_st (Q := nx Q) (s_LD (n + 1)) (s_nb n) (s_sd n) h1 h2 h3)
  have s_bg : ∀ n, BegunSpec (cx0 w s₁ sa ns) (n + 4) sa := fun n H Q h1 h2 => call_intro C TO (d_law_begun KX) (rest := ["_law_doors", "_law_size", "_law_fields"]) (ms := m_law_begun) (by decide) (by kernel_rfl) (by kernel_rfl) rfl (begun_ms (Q := nx Q) (s_at (n + 2)) (s_init n) (Nat.succ_pos _) (if_pos rfl) h1 h2)
  refine call_intro C TO (d_law KX) (rest := ["_law_begun_here", "_law_room", "_law_state", "_law_k", "_law_cell", "_law_seed"]) (ms := m_law8) (by decide) (by kernel_rfl) (by kernel_rfl) rfl ?_
  exact law_ms (n := 8) ⟨if_pos rfl, hlen, s_bg 4, s_lm 1, s_lp 1, s_sd 1, s_ph 0, s_rpush 3, s_words 6⟩ rfl fun _ => rfl
end Mine

set_option maxHeartbeats 0 in
set_option maxRecDepth 1000000 in
theorem Mine.said : PySem.W.OpenLaw.wellSaid PySem.Challenge.rw_uf060004_08 = true := by kernel_rfl
theorem PySem.Challenge.cw_uf060004_08_holds : PySem.Challenge.rw_uf060004_08.Holds := by
  w_on
  refine PySem.W.holds_law Mine.said fun said => ?_
  refine PySem.W.holds_open (q := Mine.hView) (loose := Mine.hLoose) (Xt := Mine.hXt) (XP := XL Mine.hView []) (Yf := fun s => Mine.kas.map s.heap.get?) (Ya := fun w => (Mine.kk w.params).map fun p : Addr × Obj => some p.2) (YP := InK Mine.kk) (N := 6088) Mine.hLeft (InK.of fun _ => rfl) InK.keeps (fun s e => xl_of s (Bool.and_eq_true_iff.mp e).1) XL.keeps (by rfl) (by rfl) (by rfl) (fun s e => recFacts_of (Bool.and_eq_true_iff.mp e).2) (by rfl) (by first | assumption | decide +kernel) (by decide +kernel) ⟨rfl, rfl, rfl, rfl, rfl, by decide +kernel⟩ ?hw ?hc
  (case hw => w_witness2)
  intro w s₀ s₁ mg mb G Y fa o pm cd doc dV kV ho hd hcd hD hmg hg args vals as hpre hlay hrd hwl hlo
  have KX : (Mine.kk w.params).In s₁.heap := Y
  refine Ground.open G ?_
  intro T B D TE TW
  wrow_args hpre hlay hrd hwl hlo
  refine enter_call ?_
  rename_i ns _ _ hlay _ _ _ _ sa vs _ hL _ hW _ hI _ hlen _
  have hfa : fa = 417 := by
    have h1 : mg ("law" : Str) = some (.ref fa) := hmg
    have h2 : mg ("law" : Str) = some (.ref 417) := mg_of KX T.g (by kernel_rfl)
    rw [h1] at h2; cases h2; rfl
  subst hfa
  refine Mine.law_end (cx := Mine.cx0 w s₁ sa ns) rfl hg (by decide) (Mine.walk0 T (T.seer (by decide +kernel)) KX hW hL hI (by omega) ?_)
  intro p hp
  simp only [List.mem_cons, List.not_mem_nil, or_false] at hp
  rcases hp with rfl | rfl | rfl | rfl | rfl
  · exact Mine.excls T KX (x := "BadSize") (by kernel_rfl) (by kernel_rfl)
  · exact Mine.excls T KX (x := "BadThing") (by kernel_rfl) (by kernel_rfl)
  · exact Mine.excls T KX (x := "NoBox") (by kernel_rfl) (by kernel_rfl)
  · exact Mine.excls T KX (x := "NoField") (by kernel_rfl) (by kernel_rfl)
  · exact Mine.excls T KX (x := "NoRoom") (by kernel_rfl) (by kernel_rfl)

