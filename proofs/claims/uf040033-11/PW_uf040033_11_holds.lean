import PyProof.Rows.All
import Wide.All
import OpenK.KLine
import Open.Boot
import PyProof.DictRoads
import PyProof.DictRoadsH
import PyProof.DictIter
import PyProof.CompFree
import PyProof.ForAny
import PyProof.DefCall
import PyProof.RaisesMany
import PyProof.Rules3
import PyProof.Ns1
import PyProof.Cells
import PyProof.NoPylong
import PyProof.StrOps2
import PyProof.Rows.TupAssign
import PyProof.WalksPairs
import PyProof.WalksMore
import PyProof.EnumStmt
import PyProof.DictWalks
import PyProof.RangeIter
import PyProof.PlainList
import PyProof.CompMap
import PyProof.CompUse
import PyProof.MinMaxWalk
import PyProof.WalkInts
import PyProof.IsiPairs
import PyProof.CallRoads
import PyProof.ListCopy
import PyProof.RangeFor
import PyProof.IsiHeapPairs
import PyProof.AssignAttr
import OpenK.KMake
import OpenK.KCls
import OpenK.KWalk
import PyProof.ListIndex
import PyProof.MeetsDict
import PyProof.DictValues
import PyProof.ListRange
import PyProof.ListMulAny
import PyProof.ListMulRoad
import PyProof.Rows.ListMulArg
import PyProof.Rows.SetFrom
import PyProof.DictDisplay
import PyProof.MeetsDictList
import KE.KDictSum
import KE.KDictOf
import PyProof.RulesAs
import PyProof.ExcClass3
import PyProof.ExcBaseAll.ValueError
import KE.KTryMore
import KE.KIsAll
import PyProof.StrLawsTight
import PyProof.StrLawsChain
import PyProof.StrLawsIn
import PyProof.StrBlockH
import PyProof.Rows.StrBin
import PyProof.Rows.ReprOcc
import KE.KIntText
import PyProof.StrOps
import PyProof.StrLoop
import PyProof.CallStr
import PyProof.TupleOfSeq
import PyProof.SliceStr2
import PyProof.StrCalls2
import PyProof.Rows.StrJoin2
import PyProof.AttrMissHeap
import KE.KEqDict
import PyProof.Conv_int_bool
import PyProof.ConsumeWalk
import PySem.Challenge.RW_uf040033_11
set_option Elab.async false
set_option linter.all false
set_option maxRecDepth 100000
set_option maxHeartbeats 8000000
set_option genSizeOf false
set_option genInjectivity false
set_option backward.eqns.nonrecursive false
namespace Mine
section
open PySem PySem.W PyProof.Rows
noncomputable def top (i : Nat) : Stmt := (PySem.Challenge.pw_uf040033_11.main.body[i]?).getD (.Pass ⟨0, 0, 0, 0⟩)
noncomputable def Zbk : Stmt → Nat → Stmt
  | .ClassDef _ _ _ b _ _ _ _ _ _ _, i => (b[i]?).getD (.Pass ⟨0, 0, 0, 0⟩)
  | s, _ => s
noncomputable def fnO (s : Stmt) (q : String) (m : Value) (c : Nat) : Obj := match s with
  | .FunctionDef n as b _ _ _ sc _ _ _ => { cls := .type "function", data := .func { name := n, qualname := Str.ofString q, params := as, body := .stmts b, scope := sc, globals := 3, closure := [], defaults := .none, kwdefaults := .none, pyModule := m, code := .ref c } }
  | _ => { cls := .none, data := .dict #[] 0 }
noncomputable def ent (P : Params) (n : String) (t : Nat) (v : Value) : DictEntry := ⟨PyData.keyHash P (Str.ofString n), .str (Str.ofString n) t, v⟩
noncomputable def cdO (n q : String) (t l a b f r k u : Nat) : Obj :=
  let st (x : String) (y : Nat) : Value := .str (Str.ofString x) y
  { cls := .type "code", data := .fields #[st n t, st q (t + 1), st "/claim/cut.py" (t + 2), .int l 0, .int a 0, .int 0 0, .int 0 0, .int f 0, .ref r, .bool true, .int b 0, .ref (r + 1), .none, .ref (r + 2), .ref (r + 3), .ref (r + 4), .int k 0, .int l 0, st "/claim/cut.py" u] }
noncomputable def cdN (n q : String) (t l a b f r k u : Nat) : Obj :=
  let st (x : String) (y : Nat) : Value := .str (Str.ofString x) y
  { cls := .type "code", data := .fields #[st n t, st q (t + 1), st "/claim/cut.py" (t + 2), .int l 0, .int a 0, .int 0 0, .int 0 0, .int f 0, .ref r, .bool true, .int b 0, .ref (r + 1), .none, .none, .none, .ref (r + 2), .int k 0, .int l 0, st "/claim/cut.py" u] }
noncomputable def KK (P : Params) : Frag :=
  [(2, { cls := Value.none, data := Data.dict #[] }),
   (3, { cls := Value.type "dict", data := Data.dict #[ent P "__name__" 165 (Value.str (Str.ofString "law_uf040033_11") 643), ent P "__doc__" 166 (Value.none), ent P "__package__" 167 (Value.none), ent P "__loader__" 168 (Value.builtin "__main__.__loader__#opaque"), ent P "__spec__" 169 (Value.none), ent P "__annotations__" 170 (Value.ref 6), ent P "__builtins__" 171 (Value.ref 4), ent P "__file__" 173 (Value.str (Str.ofString "/claim/cut.py") 172), ent P "__cached__" 174 (Value.none), ent P "_wall" 193 (Value.ref 21), ent P "PairError" 213 (Value.ref 31), ent P "BadCount" 229 (Value.ref 44), ent P "BadSide" 245 (Value.ref 56), ent P "BadEnd" 261 (Value.ref 68), ent P "TooMany" 277 (Value.ref 80), ent P "NoPair" 293 (Value.ref 92), ent P "BadHue" 309 (Value.ref 104), ent P "NotFree" 325 (Value.ref 116), ent P "BadLine" 341 (Value.ref 128), ent P "MOST_ENDS" 345 (Value.int 8 344), ent P "MOST_PAIRS" 347 (Value.int 40 346), ent P "LEFT" 349 (Value.str (Str.ofString "left") 348), ent P "RIGHT" 351 (Value.str (Str.ofString "right") 350), ent P "is_number" 358 (Value.ref 137), ent P "other_side" 365 (Value.ref 144), ent P "Hall" 591 (Value.ref 298), ent P "FIGURES" 595 (Value.str (Str.ofString "0123456789") 594), ent P "MOST_FIGURES" 597 (Value.int 30 596), ent P "SIZES" 604 (Value.ref 303), ent P "number_of" 610 (Value.ref 308), ent P "deed_of" 616 (Value.ref 313), ent P "told_text" 622 (Value.ref 318), ent P "done" 628 (Value.ref 323), ent P "answer" 636 (Value.ref 330), ent P "play" 642 (Value.ref 335), ent P "_law_cell_at" 652 (Value.ref 342), ent P "_law_mixed" 660 (Value.ref 349), ent P "_law_whole" 667 (Value.ref 356), ent P "_law_sizes_by" 675 (Value.ref 363), ent P "_law_ends" 681 (Value.ref 368), ent P "_law_deed" 691 (Value.ref 375), ent P "_law_text" 704 (Value.ref 382), ent P "_law_answer" 710 (Value.ref 387), ent P "_law_drawn" 721 (Value.ref 394), ent P "law" 727 (Value.ref 399)] 45 }),
   (30, { cls := Value.type "dict", data := Data.dict #[ent P "__module__" 203 (Value.str (Str.ofString "pairhues.errors") 194), ent P "__firstlineno__" 207 (Value.int 5 206), ent P "__static_attributes__" 208 (Value.ref 29), ent P "__weakref__" 210 (Value.ref 32), ent P "__doc__" 211 (Value.none)] 3 }),
   (31, { cls := Value.type "type", data := Data.cls { name := Str.ofString "PairError", bases := [Value.type "ValueError"], mro := [Value.ref 31, Value.type "ValueError", Value.type "Exception", Value.type "BaseException", Value.type "object"], ns := 30, qualname := Str.ofString "PairError", subclasses := [Value.ref 44, Value.ref 56, Value.ref 68, Value.ref 80, Value.ref 92, Value.ref 104, Value.ref 116, Value.ref 128] }, slots := #[some (Value.ref 22), none, some (Value.str (Str.ofString "PairError") 196), some (Value.str (Str.ofString "PairError") 204), some (Value.builtin "ValueError.__new__"), some (Value.bool true)] }),
   (43, { cls := Value.type "dict", data := Data.dict #[ent P "__module__" 221 (Value.str (Str.ofString "pairhues.errors") 194), ent P "__firstlineno__" 225 (Value.int 7 224), ent P "__static_attributes__" 226 (Value.ref 42), ent P "__doc__" 227 (Value.none)] 2 }),
   (44, { cls := Value.type "type", data := Data.cls { name := Str.ofString "BadCount", bases := [Value.ref 31], mro := [Value.ref 44, Value.ref 31, Value.type "ValueError", Value.type "Exception", Value.type "BaseException", Value.type "object"], ns := 43, qualname := Str.ofString "BadCount" }, slots := #[some (Value.ref 35), none, some (Value.str (Str.ofString "BadCount") 214), some (Value.str (Str.ofString "BadCount") 222), some (Value.builtin "ValueError.__new__"), some (Value.bool true)] }),
   (55, { cls := Value.type "dict", data := Data.dict #[ent P "__module__" 237 (Value.str (Str.ofString "pairhues.errors") 194), ent P "__firstlineno__" 241 (Value.int 9 240), ent P "__static_attributes__" 242 (Value.ref 54), ent P "__doc__" 243 (Value.none)] 2 }),
   (56, { cls := Value.type "type", data := Data.cls { name := Str.ofString "BadSide", bases := [Value.ref 31], mro := [Value.ref 56, Value.ref 31, Value.type "ValueError", Value.type "Exception", Value.type "BaseException", Value.type "object"], ns := 55, qualname := Str.ofString "BadSide" }, slots := #[some (Value.ref 47), none, some (Value.str (Str.ofString "BadSide") 230), some (Value.str (Str.ofString "BadSide") 238), some (Value.builtin "ValueError.__new__"), some (Value.bool true)] }),
   (67, { cls := Value.type "dict", data := Data.dict #[ent P "__module__" 253 (Value.str (Str.ofString "pairhues.errors") 194), ent P "__firstlineno__" 257 (Value.int 11 256), ent P "__static_attributes__" 258 (Value.ref 66), ent P "__doc__" 259 (Value.none)] 2 }),
   (68, { cls := Value.type "type", data := Data.cls { name := Str.ofString "BadEnd", bases := [Value.ref 31], mro := [Value.ref 68, Value.ref 31, Value.type "ValueError", Value.type "Exception", Value.type "BaseException", Value.type "object"], ns := 67, qualname := Str.ofString "BadEnd" }, slots := #[some (Value.ref 59), none, some (Value.str (Str.ofString "BadEnd") 246), some (Value.str (Str.ofString "BadEnd") 254), some (Value.builtin "ValueError.__new__"), some (Value.bool true)] }),
   (79, { cls := Value.type "dict", data := Data.dict #[ent P "__module__" 269 (Value.str (Str.ofString "pairhues.errors") 194), ent P "__firstlineno__" 273 (Value.int 13 272), ent P "__static_attributes__" 274 (Value.ref 78), ent P "__doc__" 275 (Value.none)] 2 }),
   (80, { cls := Value.type "type", data := Data.cls { name := Str.ofString "TooMany", bases := [Value.ref 31], mro := [Value.ref 80, Value.ref 31, Value.type "ValueError", Value.type "Exception", Value.type "BaseException", Value.type "object"], ns := 79, qualname := Str.ofString "TooMany" }, slots := #[some (Value.ref 71), none, some (Value.str (Str.ofString "TooMany") 262), some (Value.str (Str.ofString "TooMany") 270), some (Value.builtin "ValueError.__new__"), some (Value.bool true)] }),
   (91, { cls := Value.type "dict", data := Data.dict #[ent P "__module__" 285 (Value.str (Str.ofString "pairhues.errors") 194), ent P "__firstlineno__" 289 (Value.int 15 288), ent P "__static_attributes__" 290 (Value.ref 90), ent P "__doc__" 291 (Value.none)] 2 }),
   (92, { cls := Value.type "type", data := Data.cls { name := Str.ofString "NoPair", bases := [Value.ref 31], mro := [Value.ref 92, Value.ref 31, Value.type "ValueError", Value.type "Exception", Value.type "BaseException", Value.type "object"], ns := 91, qualname := Str.ofString "NoPair" }, slots := #[some (Value.ref 83), none, some (Value.str (Str.ofString "NoPair") 278), some (Value.str (Str.ofString "NoPair") 286), some (Value.builtin "ValueError.__new__"), some (Value.bool true)] }),
   (103, { cls := Value.type "dict", data := Data.dict #[ent P "__module__" 301 (Value.str (Str.ofString "pairhues.errors") 194), ent P "__firstlineno__" 305 (Value.int 17 304), ent P "__static_attributes__" 306 (Value.ref 102), ent P "__doc__" 307 (Value.none)] 2 }),
   (104, { cls := Value.type "type", data := Data.cls { name := Str.ofString "BadHue", bases := [Value.ref 31], mro := [Value.ref 104, Value.ref 31, Value.type "ValueError", Value.type "Exception", Value.type "BaseException", Value.type "object"], ns := 103, qualname := Str.ofString "BadHue" }, slots := #[some (Value.ref 95), none, some (Value.str (Str.ofString "BadHue") 294), some (Value.str (Str.ofString "BadHue") 302), some (Value.builtin "ValueError.__new__"), some (Value.bool true)] }),
   (115, { cls := Value.type "dict", data := Data.dict #[ent P "__module__" 317 (Value.str (Str.ofString "pairhues.errors") 194), ent P "__firstlineno__" 321 (Value.int 19 320), ent P "__static_attributes__" 322 (Value.ref 114), ent P "__doc__" 323 (Value.none)] 2 }),
   (116, { cls := Value.type "type", data := Data.cls { name := Str.ofString "NotFree", bases := [Value.ref 31], mro := [Value.ref 116, Value.ref 31, Value.type "ValueError", Value.type "Exception", Value.type "BaseException", Value.type "object"], ns := 115, qualname := Str.ofString "NotFree" }, slots := #[some (Value.ref 107), none, some (Value.str (Str.ofString "NotFree") 310), some (Value.str (Str.ofString "NotFree") 318), some (Value.builtin "ValueError.__new__"), some (Value.bool true)] }),
   (127, { cls := Value.type "dict", data := Data.dict #[ent P "__module__" 333 (Value.str (Str.ofString "pairhues.errors") 194), ent P "__firstlineno__" 337 (Value.int 21 336), ent P "__static_attributes__" 338 (Value.ref 126), ent P "__doc__" 339 (Value.none)] 2 }),
   (128, { cls := Value.type "type", data := Data.cls { name := Str.ofString "BadLine", bases := [Value.ref 31], mro := [Value.ref 128, Value.ref 31, Value.type "ValueError", Value.type "Exception", Value.type "BaseException", Value.type "object"], ns := 127, qualname := Str.ofString "BadLine" }, slots := #[some (Value.ref 119), none, some (Value.str (Str.ofString "BadLine") 326), some (Value.str (Str.ofString "BadLine") 334), some (Value.builtin "ValueError.__new__"), some (Value.bool true)] }),
   (136, cdO "is_number" "is_number" 352 28 1 181 3 131 356 357),
   (137, fnO (top 16) "is_number" (Value.str (Str.ofString "pairhues.halls") 342) 136),
   (143, cdO "other_side" "other_side" 359 30 1 181 3 138 363 364),
   (144, fnO (top 17) "other_side" (Value.str (Str.ofString "pairhues.halls") 342) 143),
   (157, cdO "__init__" "Hall.__init__" 378 36 3 181 3 152 385 386),
   (158, fnO (Zbk (top 18) 0) "Hall.__init__" (Value.str (Str.ofString "pairhues.halls") 342) 157),
   (164, cdO "need_end" "Hall.need_end" 388 44 3 181 3 159 394 395),
   (165, fnO (Zbk (top 18) 1) "Hall.need_end" (Value.str (Str.ofString "pairhues.halls") 342) 164),
   (171, cdO "need_place" "Hall.need_place" 397 48 3 181 3 166 403 404),
   (172, fnO (Zbk (top 18) 2) "Hall.need_place" (Value.str (Str.ofString "pairhues.halls") 342) 171),
   (178, cdO "end_of" "Hall.end_of" 406 53 3 181 3 173 412 413),
   (179, fnO (Zbk (top 18) 3) "Hall.end_of" (Value.str (Str.ofString "pairhues.halls") 342) 178),
   (183, cdN "met" "Hall.met" 415 58 3 181 3 180 418 419),
   (184, fnO (Zbk (top 18) 4) "Hall.met" (Value.str (Str.ofString "pairhues.halls") 342) 183),
   (188, cdN "count" "Hall.count" 421 61 1 181 3 185 424 425),
   (189, fnO (Zbk (top 18) 5) "Hall.count" (Value.str (Str.ofString "pairhues.halls") 342) 188),
   (193, cdN "open_hues" "Hall.open_hues" 427 67 4 181 3 190 430 431),
   (194, fnO (Zbk (top 18) 6) "Hall.open_hues" (Value.str (Str.ofString "pairhues.halls") 342) 193),
   (200, cdO "with_hue" "Hall.with_hue" 433 71 4 181 3 195 441 442),
   (201, fnO (Zbk (top 18) 7) "Hall.with_hue" (Value.str (Str.ofString "pairhues.halls") 342) 200),
   (207, cdO "chain_from" "Hall.chain_from" 444 77 5 181 3 202 455 456),
   (208, fnO (Zbk (top 18) 8) "Hall.chain_from" (Value.str (Str.ofString "pairhues.halls") 342) 207),
   (214, cdO "turn" "Hall.turn" 458 88 4 181 3 209 466 467),
   (215, fnO (Zbk (top 18) 9) "Hall.turn" (Value.str (Str.ofString "pairhues.halls") 342) 214),
   (221, cdO "ways" "Hall.ways" 469 92 4 181 3 216 480 481),
   (222, fnO (Zbk (top 18) 10) "Hall.ways" (Value.str (Str.ofString "pairhues.halls") 342) 221),
   (226, cdN "hued" "Hall.hued" 483 102 5 181 3 223 486 487),
   (227, fnO (Zbk (top 18) 11) "Hall.hued" (Value.str (Str.ofString "pairhues.halls") 342) 226),
   (233, cdO "come" "Hall.come" 489 113 3 181 3 228 496 497),
   (234, fnO (Zbk (top 18) 12) "Hall.come" (Value.str (Str.ofString "pairhues.halls") 342) 233),
   (240, cdO "need_pair" "Hall.need_pair" 499 123 2 181 3 235 504 505),
   (241, fnO (Zbk (top 18) 13) "Hall.need_pair" (Value.str (Str.ofString "pairhues.halls") 342) 240),
   (247, cdO "go" "Hall.go" 507 127 2 181 3 242 516 517),
   (248, fnO (Zbk (top 18) 14) "Hall.go" (Value.str (Str.ofString "pairhues.halls") 342) 247),
   (254, cdO "pairs" "Hall.pairs" 519 139 1 181 3 249 528 529),
   (255, fnO (Zbk (top 18) 15) "Hall.pairs" (Value.str (Str.ofString "pairhues.halls") 342) 254),
   (261, cdO "hue_of" "Hall.hue_of" 531 146 2 181 3 256 536 537),
   (262, fnO (Zbk (top 18) 16) "Hall.hue_of" (Value.str (Str.ofString "pairhues.halls") 342) 261),
   (268, cdO "is_hue" "Hall.is_hue" 539 149 2 181 3 263 544 545),
   (269, fnO (Zbk (top 18) 17) "Hall.is_hue" (Value.str (Str.ofString "pairhues.halls") 342) 268),
   (275, cdO "of_hue" "Hall.of_hue" 547 152 2 181 3 270 552 553),
   (276, fnO (Zbk (top 18) 18) "Hall.of_hue" (Value.str (Str.ofString "pairhues.halls") 342) 275),
   (282, cdO "free" "Hall.free" 555 155 3 181 3 277 561 562),
   (283, fnO (Zbk (top 18) 19) "Hall.free" (Value.str (Str.ofString "pairhues.halls") 342) 282),
   (287, cdN "fullest" "Hall.fullest" 564 159 1 181 3 284 567 568),
   (288, fnO (Zbk (top 18) 20) "Hall.fullest" (Value.str (Str.ofString "pairhues.halls") 342) 287),
   (294, cdO "chain" "Hall.chain" 570 167 5 181 3 289 578 579),
   (295, fnO (Zbk (top 18) 21) "Hall.chain" (Value.str (Str.ofString "pairhues.halls") 342) 294),
   (297, { cls := Value.type "dict", data := Data.dict #[ent P "__module__" 373 (Value.str (Str.ofString "pairhues.halls") 342), ent P "__firstlineno__" 377 (Value.int 34 376), ent P "__init__" 387 (Value.ref 158), ent P "need_end" 396 (Value.ref 165), ent P "need_place" 405 (Value.ref 172), ent P "end_of" 414 (Value.ref 179), ent P "met" 420 (Value.ref 184), ent P "count" 426 (Value.ref 189), ent P "open_hues" 432 (Value.ref 194), ent P "with_hue" 443 (Value.ref 201), ent P "chain_from" 457 (Value.ref 208), ent P "turn" 468 (Value.ref 215), ent P "ways" 482 (Value.ref 222), ent P "hued" 488 (Value.ref 227), ent P "come" 498 (Value.ref 234), ent P "need_pair" 506 (Value.ref 241), ent P "go" 518 (Value.ref 248), ent P "pairs" 530 (Value.ref 255), ent P "hue_of" 538 (Value.ref 262), ent P "is_hue" 546 (Value.ref 269), ent P "of_hue" 554 (Value.ref 276), ent P "free" 563 (Value.ref 283), ent P "fullest" 569 (Value.ref 288), ent P "chain" 580 (Value.ref 295), ent P "__static_attributes__" 584 (Value.ref 296), ent P "__dict__" 586 (Value.ref 299), ent P "__weakref__" 588 (Value.ref 300), ent P "__doc__" 589 (Value.none)] 4 }),
   (298, { cls := Value.type "type", data := Data.cls { name := Str.ofString "Hall", bases := [Value.type "object"], mro := [Value.ref 298, Value.type "object"], ns := 297, qualname := Str.ofString "Hall" }, slots := #[none, none, some (Value.str (Str.ofString "Hall") 366), some (Value.str (Str.ofString "Hall") 374), some (Value.builtin "object.__new__"), some (Value.bool true)] }),
   (303, { cls := Value.type "dict", data := Data.dict #[ent P "come" 598 (Value.int 3 599), ent P "go" 600 (Value.int 2 601)] 2 }),
   (307, cdN "number_of" "number_of" 605 178 1 181 3 304 608 609),
   (308, fnO (top 23) "number_of" (Value.str (Str.ofString "pairhues.notes") 592) 307),
   (312, cdN "deed_of" "deed_of" 611 184 1 181 3 309 614 615),
   (313, fnO (top 24) "deed_of" (Value.str (Str.ofString "pairhues.notes") 592) 312),
   (317, cdN "told_text" "told_text" 617 191 1 181 3 314 620 621),
   (318, fnO (top 25) "told_text" (Value.str (Str.ofString "pairhues.notes") 592) 317),
   (322, cdN "done" "done" 623 197 2 181 3 319 626 627),
   (323, fnO (top 26) "done" (Value.str (Str.ofString "pairhues.notes") 592) 322),
   (329, cdO "answer" "answer" 629 202 2 181 3 324 634 635),
   (330, fnO (top 27) "answer" (Value.str (Str.ofString "pairhues.notes") 592) 329),
   (334, cdN "play" "play" 637 213 3 181 3 331 640 641),
   (335, fnO (top 28) "play" (Value.str (Str.ofString "pairhues.notes") 592) 334),
   (341, cdO "_law_cell_at" "_law_cell_at" 645 217 2 181 3 336 650 651),
   (342, fnO (top 30) "_law_cell_at" (Value.str (Str.ofString "law_uf040033_11") 643) 341),
   (348, cdO "_law_mixed" "_law_mixed" 653 221 2 181 3 343 658 659),
   (349, fnO (top 31) "_law_mixed" (Value.str (Str.ofString "law_uf040033_11") 643) 348),
   (362, cdO "_law_sizes_by" "_law_sizes_by" 668 225 1 181 3 357 673 674),
   (363, fnO (top 33) "_law_sizes_by" (Value.str (Str.ofString "law_uf040033_11") 643) 362),
   (367, cdN "_law_ends" "_law_ends" 676 228 3 181 3 364 679 680),
   (368, fnO (top 34) "_law_ends" (Value.str (Str.ofString "law_uf040033_11") 643) 367),
   (374, cdO "_law_deed" "_law_deed" 682 236 4 181 3 369 689 690),
   (375, fnO (top 35) "_law_deed" (Value.str (Str.ofString "law_uf040033_11") 643) 374),
   (381, cdO "_law_text" "_law_text" 692 240 1 181 3 376 702 703),
   (382, fnO (top 36) "_law_text" (Value.str (Str.ofString "law_uf040033_11") 643) 381),
   (386, cdN "_law_answer" "_law_answer" 705 248 2 181 3 383 708 709),
   (387, fnO (top 37) "_law_answer" (Value.str (Str.ofString "law_uf040033_11") 643) 386),
   (393, cdO "_law_drawn" "_law_drawn" 711 256 4 181 3 388 719 720),
   (394, fnO (top 38) "_law_drawn" (Value.str (Str.ofString "law_uf040033_11") 643) 393),
   (398, cdN "law" "law" 722 265 1 181 3 395 725 726),
   (399, fnO (top 39) "law" (Value.str (Str.ofString "law_uf040033_11") 643) 398)]
theorem Z17 (P : Params) : [2, 3, 30, 31, 43, 44, 55, 56, 67, 68, 79, 80, 91, 92, 103, 104, 115, 116, 127, 128, 136, 137, 143, 144, 157, 158, 164, 165, 171, 172, 178, 179, 183, 184, 188, 189, 193, 194, 200, 201, 207, 208, 214, 215, 221, 222, 226, 227, 233, 234, 240, 241, 247, 248, 254, 255, 261, 262, 268, 269, 275, 276, 282, 283, 287, 288, 294, 295, 297, 298, 303, 307, 308, 312, 313, 317, 318, 322, 323, 329, 330, 334, 335, 341, 342, 348, 349, 362, 363, 367, 368, 374, 375, 381, 382, 386, 387, 393, 394, 398, 399] = (KK P).map (·.1) := rfl
noncomputable def HKK : Hook := kHook KK _ Z17
noncomputable def qq : Program := view PySem.Challenge.pw_uf040033_11 [39]
noncomputable def LL : List Str := [Str.ofString "_wall", Str.ofString "__name__", Str.ofString "PairError", Str.ofString "BadCount", Str.ofString "BadSide", Str.ofString "BadEnd", Str.ofString "TooMany", Str.ofString "NoPair", Str.ofString "BadHue", Str.ofString "NotFree", Str.ofString "BadLine", Str.ofString "MOST_ENDS", Str.ofString "MOST_PAIRS", Str.ofString "LEFT", Str.ofString "RIGHT", Str.ofString "is_number", Str.ofString "other_side", Str.ofString "Hall", Str.ofString "FIGURES", Str.ofString "MOST_FIGURES", Str.ofString "SIZES", Str.ofString "number_of", Str.ofString "deed_of", Str.ofString "told_text", Str.ofString "done", Str.ofString "answer", Str.ofString "play", Str.ofString "_law_cell_at", Str.ofString "_law_mixed", Str.ofString "_law_whole", Str.ofString "_law_sizes_by", Str.ofString "_law_ends", Str.ofString "_law_deed", Str.ofString "_law_text", Str.ofString "_law_answer", Str.ofString "_law_drawn"]
theorem Zvr (w : World) (os : OsState) : (topFrom treeTable PySem.Challenge.pw_uf040033_11 (w.withFollow "special-get-raises" false) 8000 ⟨boot_heap ((w.withFollow "special-get-raises" false)).params, Array.mk [], boot_drawn, boot_toks, os⟩).map (fun s => (openSeen qq LL (importedModules PySem.Challenge.pw_uf040033_11.main.body) (fun s => xlAt qq [] s && recOk [] s) true s, Hook.obs HKK s)) = some (openGood qq LL, Hook.val HKK (w.withFollow "special-get-raises" false)) := by unfold topFrom; rw [PySem.W.Fast.te14082659384304107361, PySem.W.Fast.te4187177175401517315, PySem.W.Fast.te14364793385576792824]; kernel_rfl
theorem Zvq (w : World) (os : OsState) : (topFrom treeTable PySem.Challenge.pw_uf040033_11 (w.withFollow "special-get-raises" true) 8000 ⟨boot_heap ((w.withFollow "special-get-raises" true)).params, Array.mk [], boot_drawn, boot_toks, os⟩).map (fun s => (openSeen qq LL (importedModules PySem.Challenge.pw_uf040033_11.main.body) (fun s => xlAt qq [] s && recOk [] s) true s, Hook.obs HKK s)) = some (openGood qq LL, Hook.val HKK (w.withFollow "special-get-raises" true)) := by unfold topFrom; rw [PySem.W.Fast.te14082659384304107361, PySem.W.Fast.te4187177175401517315, PySem.W.Fast.te14364793385576792824]; kernel_rfl
theorem Zoo {s : Shared} {h : Heap} {gs : Array GenState} {d : Drawn} {k : Nat} (e : (s.heap, s.gens, s.drawn, s.toks) = (h, gs, d, k)) : s = ⟨h, gs, d, k, s.os⟩ := by cases s; cases e; rfl
theorem Zpa (w : World) (h : ∀ os, (topFrom treeTable PySem.Challenge.pw_uf040033_11 w 8000 ⟨boot_heap w.params, Array.mk [], boot_drawn, boot_toks, os⟩).map (fun s => (openSeen qq LL (importedModules PySem.Challenge.pw_uf040033_11.main.body) (fun s => xlAt qq [] s && recOk [] s) true s, Hook.obs HKK s)) = some (openGood qq LL, Hook.val HKK w)) :
    (openEnds treeTable PySem.Challenge.pw_uf040033_11 w 8000).map (fun s => (openSeen qq LL (importedModules PySem.Challenge.pw_uf040033_11.main.body) (fun s => xlAt qq [] s && recOk [] s) true s, Hook.obs HKK s)) = some (openGood qq LL, Hook.val HKK w) := by
  obtain ⟨s, e, v⟩ := Option.map_eq_some_iff.mp (boot_open (p := PySem.Challenge.pw_uf040033_11) (N := 8000) (by kernel_rfl) (by kernel_rfl) (fun _ => by kernel_rfl) w)
  have q := h s.os
  rw [← Zoo v] at q
  unfold openEnds
  rw [e]
  exact q
theorem left : LeftO PySem.Challenge.pw_uf040033_11 qq LL (fun s => xlAt qq [] s && recOk [] s) (Hook.obs HKK) (Hook.val HKK) 8000 := fun w => by
  have e := World.withFollow_self w "special-get-raises"
  cases hb : w.params.followText "special-get-raises" <;> rw [hb] at e
  · have h := Zpa _ (Zvr w); rw [e] at h; exact h
  · have h := Zpa _ (Zvq w); rw [e] at h; exact h
theorem said : PySem.Challenge.rw_uf040033_11.wellSaid = true := by kernel_rfl
end
inductive LN where
  | n (k : Nat)
  | v (i : Nat)
  | a (x y : LN)
  | m (k : Nat) (x : LN)
inductive LI where
  | n (k : Int)
  | v (i : Nat)
  | c (x : LN)
  | a (x y : LI)
  | s (x y : LI)
  | g (x : LI)
  | m (k : Int) (x : LI)
inductive LC where
  | l (x y : LI)
  | L (x y : LN)
noncomputable def LC.t (x y : LI) : LC := .l (.a x (.n 1)) y
noncomputable def LC.T (x y : LN) : LC := .L (.a x (.n 1)) y
noncomputable def Zsl {α : Type} (d : α) (l : List α) : Nat → α := List.rec (fun _ => d) (fun x _ ih i => Nat.rec x (fun j _ => ih j) i) l
noncomputable def LN.den (τ : List Nat) (x : LN) : Nat := LN.rec (fun k => k) (fun i => Zsl 0 τ i) (fun _ _ p q => p + q) (fun k _ p => k * p) x
noncomputable def LI.den (ρ : List Int) (τ : List Nat) (x : LI) : Int := LI.rec (fun k => k) (fun i => Zsl 0 ρ i) (fun x => (x.den τ : Nat)) (fun _ _ p q => p + q) (fun _ _ p q => p - q) (fun _ p => - p) (fun k _ p => k * p) x
noncomputable def LC.den (ρ : List Int) (τ : List Nat) (c : LC) : Prop := LC.rec (fun x y => x.den ρ τ ≤ y.den ρ τ) (fun x y => x.den τ ≤ y.den τ) c
noncomputable def Zdc (l : List Int) : List Int → Int := List.rec (fun _ => 0) (fun x _ ih zs => List.rec 0 (fun z zs _ => x * z + ih zs) zs) l
noncomputable def Zua (l : List Int) : List Int → List Int := List.rec (fun ys => ys) (fun x xs ih ys => List.rec (x :: xs) (fun y ys _ => (x + y) :: ih ys) ys) l
noncomputable def Zt9 (i : Nat) : List Int := Nat.rec [1] (fun _ r => 0 :: r) i
theorem Z10 (a b c d : Int) : (a + b) + (c + d) = (a + c) + (b + d) := by omega
theorem Zl3 (xs : List Int) : ∀ ys zs, Zdc (Zua xs ys) zs = Zdc xs zs + Zdc ys zs := by
  induction xs with
  | nil => intro ys zs; exact (Int.zero_add _).symm
  | cons x xs ih =>
    intro ys zs
    cases ys with
    | nil => exact (Int.add_zero _).symm
    | cons y ys =>
      cases zs with
      | nil => rfl
      | cons z zs =>
        show (x + y) * z + Zdc (Zua xs ys) zs = (x * z + Zdc xs zs) + (y * z + Zdc ys zs)
        rw [ih, Int.add_mul, Z10]
theorem Zl2 (k : Int) (xs : List Int) : ∀ zs, Zdc (xs.map (k * ·)) zs = k * Zdc xs zs := by
  induction xs with
  | nil => intro zs; exact (Int.mul_zero k).symm
  | cons x xs ih =>
    intro zs
    cases zs with
    | nil => exact (Int.mul_zero k).symm
    | cons z zs =>
      show k * x * z + Zdc (xs.map (k * ·)) zs = k * (x * z + Zdc xs zs)
      rw [ih, Int.mul_add, Int.mul_assoc]
theorem Zl1 (i : Nat) : ∀ zs, Zdc (Zt9 i) zs = Zsl 0 zs i := by
  induction i with
  | zero => intro zs; cases zs with
    | nil => rfl
    | cons z zs => show 1 * z + Zdc [] zs = z; exact (Int.add_zero _).trans (Int.one_mul z)
  | succ i ih => intro zs; cases zs with
    | nil => rfl
    | cons z zs => show 0 * z + Zdc (Zt9 i) zs = Zsl 0 zs i; rw [ih, Int.zero_mul, Int.zero_add]
theorem Zo7 (τ : List Nat) : ∀ i, ((Zsl 0 τ i : Nat) : Int) = Zsl 0 (τ.map Int.ofNat) i := by
  induction τ with
  | nil => intro i; rfl
  | cons t τ ih => intro i; cases i with
    | zero => rfl
    | succ i => exact ih i
structure LF where
  p : List Int
  q : List Int
  k : Int
noncomputable def LF.val (f : LF) (ρ : List Int) (τ : List Nat) : Int := Zdc f.p ρ + Zdc f.q (τ.map Int.ofNat) + f.k
noncomputable def LF.add (f h : LF) : LF := ⟨Zua f.p h.p, Zua f.q h.q, f.k + h.k⟩
noncomputable def LF.mul (k : Int) (f : LF) : LF := ⟨f.p.map (k * ·), f.q.map (k * ·), k * f.k⟩
section
variable (ρ : List Int) (τ : List Nat)
theorem Za1 (f h : LF) : (f.add h).val ρ τ = f.val ρ τ + h.val ρ τ := by
  show Zdc (Zua f.p h.p) ρ + Zdc (Zua f.q h.q) _ + (f.k + h.k) = (Zdc f.p ρ + Zdc f.q _ + f.k) + (Zdc h.p ρ + Zdc h.q _ + h.k)
  rw [Zl3, Zl3, Z10 (Zdc f.p ρ), Z10]
theorem Zad (k : Int) (f : LF) : (f.mul k).val ρ τ = k * f.val ρ τ := by
  show Zdc (f.p.map (k * ·)) ρ + Zdc (f.q.map (k * ·)) _ + k * f.k = k * (Zdc f.p ρ + Zdc f.q _ + f.k)
  rw [Zl2, Zl2, Int.mul_add, Int.mul_add]
noncomputable def LN.nf (x : LN) : LF := LN.rec (fun k => ⟨[], [], k⟩) (fun i => ⟨[], Zt9 i, 0⟩) (fun _ _ p q => p.add q) (fun k _ p => p.mul k) x
theorem LN.nf_val (x : LN) : x.nf.val ρ τ = (x.den τ : Nat) := by
  induction x with
  | n k => exact Int.zero_add _
  | v i => show 0 + Zdc (Zt9 i) (τ.map Int.ofNat) + 0 = ((Zsl 0 τ i : Nat) : Int); rw [Int.add_zero, Int.zero_add, Zl1, Zo7]
  | a x y p q => exact (Za1 ρ τ x.nf (y.nf)).trans (by rw [p, q]; rfl)
  | m k x p => exact (Zad ρ τ _ x.nf).trans (by rw [p]; rfl)
noncomputable def LI.nf (x : LI) : LF := LI.rec (fun k => ⟨[], [], k⟩) (fun i => ⟨Zt9 i, [], 0⟩) (fun x => x.nf) (fun _ _ p q => p.add q) (fun _ _ p q => p.add (q.mul (-1))) (fun _ p => p.mul (-1)) (fun k _ p => p.mul k) x
theorem LI.nf_val (x : LI) : x.nf.val ρ τ = x.den ρ τ := by
  induction x with
  | n k => exact Int.zero_add _
  | v i => show Zdc (Zt9 i) ρ + 0 + 0 = Zsl 0 ρ i; rw [Int.add_zero, Int.add_zero, Zl1]
  | c x => exact LN.nf_val ρ τ x
  | a x y p q => exact (Za1 ρ τ x.nf y.nf).trans (by rw [p, q]; rfl)
  | s x y p q => exact (Za1 ρ τ x.nf (y.nf.mul (-1))).trans (by rw [Zad, p, q, Int.neg_mul, Int.one_mul]; rfl)
  | g x p => exact (Zad ρ τ _ x.nf).trans (by rw [p, Int.neg_mul, Int.one_mul]; rfl)
  | m k x p => exact (Zad ρ τ _ x.nf).trans (by rw [p]; rfl)
noncomputable def LC.nf (c : LC) : LF := LC.rec (fun x y => y.nf.add (x.nf.mul (-1))) (fun x y => y.nf.add (x.nf.mul (-1))) c
theorem LC.nf_val (c : LC) (h : c.den ρ τ) : 0 ≤ c.nf.val ρ τ := by
  cases c with
  | l x y => show 0 ≤ (y.nf.add (x.nf.mul (-1))).val ρ τ; rw [Za1, Zad, LI.nf_val, LI.nf_val, Int.neg_mul, Int.one_mul]; exact Int.sub_nonneg_of_le h
  | L x y => show 0 ≤ (y.nf.add (x.nf.mul (-1))).val ρ τ; rw [Za1, Zad, LN.nf_val, LN.nf_val, Int.neg_mul, Int.one_mul]; exact Int.sub_nonneg_of_le (Int.ofNat_le.2 h)
theorem Zpb (xs : List Int) : ∀ ρ, xs.all (· == 0) = true → Zdc xs ρ = 0 := by
  induction xs with
  | nil => intro ρ _; rfl
  | cons x xs ih => intro ρ h; cases ρ with
    | nil => rfl
    | cons z ρ =>
      have h := Bool.and_eq_true_iff.1 h
      show x * z + Zdc xs ρ = 0
      rw [ih ρ h.2, eq_of_beq h.1, Int.zero_mul]; rfl
theorem Zrg (xs : List Int) : ∀ τ : List Nat, xs.all (decide <| · ≤ 0) = true → Zdc xs (τ.map Int.ofNat) ≤ 0 := by
  induction xs with
  | nil => intro τ _; exact Int.le_refl _
  | cons x xs ih => intro τ h; cases τ with
    | nil => exact Int.le_refl _
    | cons z τ =>
      have h := Bool.and_eq_true_iff.1 h
      exact Int.add_nonpos (Int.mul_nonpos_of_nonpos_of_nonneg (of_decide_eq_true h.1) (Int.natCast_nonneg z)) (ih τ h.2)
noncomputable def Z42 (f : LF) : Bool := f.p.all (· == 0) && (f.q.all (decide <| · ≤ 0) && decide (f.k < 0))
noncomputable def Z2s (cs : List (Nat × LC)) : LF → Bool := List.rec Z42 (fun c _ ih f => ih (f.add (c.2.nf.mul c.1))) cs
noncomputable def Z2t (cs : List (Nat × LC)) : Prop := List.rec False (fun c _ ih => c.2.den ρ τ → ih) cs
theorem Ztk (cs : List (Nat × LC)) : ∀ f : LF, 0 ≤ f.val ρ τ → Z2s cs f = true → Z2t ρ τ cs := by
  induction cs with
  | nil =>
    intro f h e
    have e1 := Bool.and_eq_true_iff.1 e
    have e2 := Bool.and_eq_true_iff.1 e1.2
    refine absurd h (Int.not_le.2 ?_)
    show Zdc f.p ρ + Zdc f.q _ + f.k < 0
    rw [Zpb _ _ e1.1, Int.zero_add]
    exact Int.lt_of_le_of_lt (Int.add_le_add_right (Zrg f.q τ e2.1) f.k) (by rw [Int.zero_add]; exact of_decide_eq_true e2.2)
  | cons c cs ih => intro f h e hc; exact ih _ (by rw [Za1, Zad]; exact Int.add_nonneg h (Int.mul_nonneg (Int.natCast_nonneg _) (LC.nf_val ρ τ _ hc))) e
theorem far (cs : List (Nat × LC)) (h : Z2s cs ⟨[], [], 0⟩ = true) : Z2t ρ τ cs := Ztk ρ τ cs _ (Int.le_refl _) h
end
noncomputable def n0 : LN := .v 0
noncomputable def i0 : LI := .v 0
noncomputable def n1 : LN := .v 1
noncomputable def i1 : LI := .v 1
noncomputable def n2 : LN := .v 2
noncomputable def i2 : LI := .v 2
noncomputable def n3 : LN := .v 3
noncomputable def i3 : LI := .v 3
noncomputable def n4 : LN := .v 4
noncomputable def i4 : LI := .v 4
noncomputable def n5 : LN := .v 5
noncomputable def i5 : LI := .v 5
noncomputable def n6 : LN := .v 6
noncomputable def i6 : LI := .v 6
theorem Zdz {a b : Nat} (h : ¬b ≤ a) : a < b := Nat.not_le.1 h
theorem Y2 {a b : Nat} (h : ¬b < a) : a ≤ b := Nat.not_lt.1 h
theorem Zfv {a b : Int} (h : ¬b ≤ a) : a < b := Int.not_le.1 h
theorem Zaj {a b : Int} (h : ¬b < a) : a ≤ b := Int.not_lt.1 h
theorem Z4y {a : Int} {b : Nat} (h0 : a < 0) (h1 : 0 ≤ a + (b : Int) ∧ a + (b : Int) < (b : Int)) : (Int.toNat (a + (b : Int))) < b := by clear h0; omega
theorem Z4x {b : Int} {a : Nat} (h0 : 0 ≤ b + (a : Int) ∧ b + (a : Int) < (a : Int)) : (-(a : Int)) ≤ b := Zaj fun z => far [b] [a] [(1, .l (.n 0) (.a i0 (.c n0))), (1, .t i0 (.g (.c n0)))] rfl h0.1 z
theorem Z4w {a : Int} {b : Nat} (h0 : ¬(a < 0)) (h1 : 0 ≤ a ∧ a < (b : Int)) : (Int.toNat a) < b := by clear h0; omega
theorem Z4u {a : Int} {b c : Nat} (h0 : b = c) (h1 : b ≤ 1000000) (h2 : (Int.toNat a) < b) : a < 9223372036854775808 := by clear h0; omega
theorem Z4t {a : Int} {b c : Nat} (h0 : b = c) (h1 : b ≤ 1000000) (h2 : (-(b : Int)) ≤ a) : (-9223372036854775808) ≤ a := Zaj fun z => far [a] [b] [(1, .L n0 (.n 1000000)), (1, .l (.g (.c n0)) i0), (1, .t i0 (.g (.n 9223372036854775808)))] rfl h1 h2 z
theorem Z4s {a : Int} {b c d : Nat} (h0 : b = c) (h1 : 0 ≤ a ∧ d = (Int.toNat a) ∨ a < 0 ∧ (-(b : Int)) ≤ a ∧ d = (Int.toNat (a + (b : Int)))) (h2 : b ≤ 1000000) : (-9223372036854775808) ≤ a := by clear h0; omega
theorem Z4r {a : Int} {b c d : Nat} (h0 : b = c) (h1 : d < b) (h2 : 0 ≤ a ∧ d = (Int.toNat a) ∨ a < 0 ∧ (-(b : Int)) ≤ a ∧ d = (Int.toNat (a + (b : Int)))) (h3 : b ≤ 1000000) : a < 9223372036854775808 := by clear h0; omega
theorem Z4q {a : Int} {b c : Nat} : (min ((Int.toNat a)) b) - c ≤ b := Nat.le_trans (Nat.sub_le _ _) (Nat.min_le_right _ _)
theorem Z4p : ¬(1 < (0 : Int)) := fun z => far [] [] [(1, .t (.n 1) (.n 0))] rfl z
theorem Z4l {a : Int} {b c d e : Nat} (h0 : b = c) (h1 : d - e = b) : (min ((Int.toNat a)) b) ≤ b := by clear h1 h0; omega
theorem Z4j {b : Int} {a c : Nat} (h0 : a = c) (h1 : (min ((Int.toNat b)) a) - 0 = a) : a ≤ (Int.toNat b) := Nat.le_trans (Nat.le_of_eq h1.symm) (Nat.min_le_left _ _)
theorem Z39 {a : Int} {b : Nat} : a + ((b : Int) + 1) = a + (b : Int) + 1 := Int.le_antisymm (Zaj fun z => far [a] [b] [(1, .t (.a (.a i0 (.c n0)) (.n 1)) (.a i0 (.a (.c n0) (.n 1))))] rfl z) (Zaj fun z => far [a] [b] [(1, .t (.a i0 (.a (.c n0) (.n 1))) (.a (.a i0 (.c n0)) (.n 1)))] rfl z)
theorem Z3g {b : Int} {a : Nat} (h0 : a * (Int.toNat b) ≤ 1000000) : ¬(a * (Int.toNat b) > (9223372036854775808 - 1) / 8) := by omega
theorem Z3f {b : Int} {a : Nat} (h0 : a * (Int.toNat b) ≤ 1000000) : a * (Int.toNat b) ≤ 16777216 := by omega
theorem Z23 (h0 : 0 < (0 : Nat)) : ¬(0 < (0 : Nat)) := fun z => far [] [] [(1, .T (.n 0) (.n 0))] rfl h0
theorem Z1q {a : Int} {b c : Nat} (h0 : 0 ≤ a ∧ b = (Int.toNat a) ∨ a < 0 ∧ (-(c : Int)) ≤ a ∧ b = (Int.toNat (a + (c : Int)))) (h1 : c ≤ 1000000) : ¬(a < (-9223372036854775808)) := by omega
theorem Z1p {a : Int} {b c : Nat} (h0 : b < c) (h1 : 0 ≤ a ∧ b = (Int.toNat a) ∨ a < 0 ∧ (-(c : Int)) ≤ a ∧ b = (Int.toNat (a + (c : Int)))) (h2 : c ≤ 1000000) : ¬(a ≥ 9223372036854775808) := by omega
theorem Z1d {a b : Int} {c d : Nat} (h0 : c + 1 < d) (h1 : c = d) : a = b := Int.le_antisymm (Zaj fun z => far [] [c, d] [(1, .T (.a n0 (.n 1)) n1), (1, .L n1 n0)] rfl h0 (Nat.le_of_eq h1.symm)) (Zaj fun z => far [] [c, d] [(1, .T (.a n0 (.n 1)) n1), (1, .L n1 n0)] rfl h0 (Nat.le_of_eq h1.symm))
theorem Z1c {a b : Int} {c d : Nat} (h0 : c + 1 = d) (h1 : c = d) : a = b := Int.le_antisymm (Zaj fun z => far [] [c, d] [(1, .L (.a n0 (.n 1)) n1), (1, .L n1 n0)] rfl (Nat.le_of_eq h0) (Nat.le_of_eq h1.symm)) (Zaj fun z => far [] [c, d] [(1, .L (.a n0 (.n 1)) n1), (1, .L n1 n0)] rfl (Nat.le_of_eq h0) (Nat.le_of_eq h1.symm))
theorem Z1b (h0 : 0 < (0 : Nat)) : False := far [] [] [(1, .T (.n 0) (.n 0))] rfl h0
theorem Z01 (h0 : (0 + 1) % 2 = (0 % 2 : Nat)) : False := by omega
theorem Zu9 {a : Int} {b : Nat} (h0 : 0 ≤ a) (h1 : a < (b : Int)) : (Int.toNat a) < b := by omega
theorem Z0s {a : Int} {b c : Nat} (h0 : c ≤ b) (h1 : a < (c : Int)) : a < (b : Int) := Zfv fun z => far [a] [b, c] [(1, .L n1 n0), (1, .t i0 (.c n1)), (1, .l (.c n0) i0)] rfl h0 h1 z
theorem Z0r {b c : Int} {a : Nat} (h0 : b < c) (h1 : b = c) : a ≤ 1 := Y2 fun z => far [b, c] [] [(1, .t i0 i1), (1, .l i1 i0)] rfl h0 (Int.le_of_eq h1.symm)
theorem Z0o {a : Int} {b c : Nat} (h0 : b = c) (h1 : a < (c : Int)) : a < (b : Int) := Zfv fun z => far [a] [b, c] [(1, .L n1 n0), (1, .t i0 (.c n1)), (1, .l (.c n0) i0)] rfl (Nat.le_of_eq h0.symm) h1 z
theorem Z0n {a : Int} {b c : Nat} (h0 : b ≤ c) (h1 : c ≤ b + 1) (h2 : b < c) (h3 : a < (c : Int)) : a ≤ (b : Int) := Zaj fun z => far [a] [b, c] [(1, .L n1 (.a n0 (.n 1))), (1, .t i0 (.c n1)), (1, .t (.c n0) i0)] rfl h1 h3 z
theorem Z0m {a : Int} {b : Nat} (h0 : a ≤ (b : Int)) (h1 : a ≠ (b : Int)) : a < (b : Int) := by omega
theorem Z0l {a : Int} {b : Nat} (h0 : a < (b : Int)) : a ≤ (b : Int) := Zaj fun z => far [a] [b] [(1, .t i0 (.c n0)), (1, .t (.c n0) i0)] rfl h0 z
theorem Z0h {b : Int} {a : Nat} (h0 : 0 ≤ b) (h1 : (a : Int) ≤ b) : a ≤ (Int.toNat b) := by clear h0; omega
theorem Z0e {b : Int} {a : Nat} (h0 : 0 ≤ b) (h1 : (a : Int) = b) : a = (Int.toNat b) := by clear h0; omega
theorem Z0a {e f i : Int} {a b c d : Nat} (h0 : c ≠ d ∧ e < f) (h1 : e = i) (h2 : f = i) : a ≠ b := fun z => far [e, f, i] [] [(1, .t i0 i1), (1, .l i2 i0), (1, .l i1 i2)] rfl h0.2 (Int.le_of_eq h1.symm) (Int.le_of_eq h2)
theorem Zz9 {b : Int} {a : Nat} (h0 : 0 ≤ b) (h1 : a ≤ 3 + (Int.toNat b)) : a + 1 ≤ 3 + (Int.toNat (b + 1)) := by rw [Int.toNat_add h0 (by decide)]; exact Nat.succ_le_succ h1
theorem Zz3 {a : Int} {b : Nat} (h0 : 0 ≤ a ∧ a < (b : Int)) (h1 : a = (b : Int)) : False := far [a] [b] [(1, .t i0 (.c n0)), (1, .l (.c n0) i0)] rfl h0.2 (Int.le_of_eq h1.symm)
theorem Zz2 {a : Int} {b : Nat} (h0 : b ≤ 1000) (h1 : 0 ≤ a ∧ a < (b : Int)) : 0 ≤ a ∧ a ≤ 1000 := ⟨Zaj fun z => far [a] [] [(1, .l (.n 0) i0), (1, .t i0 (.n 0))] rfl h1.1 z, Zaj fun z => far [a] [b] [(1, .L n0 (.n 1000)), (1, .t i0 (.c n0)), (1, .t (.n 1000) i0)] rfl h0 h1.2 z⟩
theorem Zzy {a c : Int} {b d : Nat} (h0 : c ≤ (b : Int)) (h1 : d = b) (h2 : a ≤ c + 1) : a ≤ ((b + 1 : Nat) : Int) := Zaj fun z => far [a, c] [b] [(1, .l i1 (.c n0)), (1, .l i0 (.a i1 (.n 1))), (1, .t (.c (.a n0 (.n 1))) i0)] rfl h0 h2 z
theorem Zzo {a : Int} {b c : Nat} (h0 : b ≤ 1000 * c) (h1 : (Int.toNat a) ≤ 1000) : (Int.toNat a) + b ≤ 1000 * (c + 1) := by omega
theorem Zzm {b : Int} {a c : Nat} (h0 : 0 ≤ b ∧ b ≤ 1000) (h1 : a ≤ 1000 * c) (h2 : c ≤ 2) : a + 1 + (Int.toNat b) ≤ 1000000 := by omega
theorem Zy6 {b : Int} {a : Nat} (h0 : b < 1000) (h1 : 0 ≤ b ∧ b ≤ 1000) (h2 : a ≤ 3 + (Int.toNat b)) : a + 1 ≤ 1000000 := by clear h1; omega
theorem Zy0 {a b c d e f i x7 x8 : Int} (h0 : c = d ∧ e = f ∧ b = i) (h1 : b = x7 + 1) (h2 : x8 = a) (h3 : x8 < x7) : a < b := Zfv fun z => far [a, b, x7, x8] [] [(1, .l (.a i2 (.n 1)) i1), (1, .l i0 i3), (1, .t i3 i2), (1, .l i1 i0)] rfl (Int.le_of_eq h1.symm) (Int.le_of_eq h2.symm) h3 z
theorem Zyz {a b c d e f i x7 x8 x9 x10 x11 : Int} (h0 : c = d ∧ e = f ∧ b = i) (h1 : b = x7 + 1) (h2 : a = x7 ∧ x8 = x9 ∧ x10 = x11) : a < b := Zfv fun z => far [a, b, x7] [] [(1, .l (.a i2 (.n 1)) i1), (1, .l i0 i2), (1, .l i1 i0)] rfl (Int.le_of_eq h1.symm) (Int.le_of_eq h2.1) z
theorem Zyv {a : Int} {b : Nat} (h0 : a < (b : Int)) : ¬(a = (b : Int)) := fun z => far [a] [b] [(1, .t i0 (.c n0)), (1, .l (.c n0) i0)] rfl h0 (Int.le_of_eq z.symm)
theorem Zx4 {b : Int} {a : Nat} (h0 : (a : Int) ≤ b) (h1 : 1 ≤ b ∧ b < 64) : a < 64 := Zdz fun z => far [b] [a] [(1, .l (.c n0) i0), (1, .t i0 (.n 64)), (1, .L (.n 64) n0)] rfl h0 h1.2 z
theorem Zx0 {b : Int} {a : Nat} (h0 : (a : Int) ≤ b) (h1 : ¬((a : Int) = b)) : (a : Int) < b := by omega
theorem Zxn {b : Int} {a : Nat} (h0 : 40 * b = (a : Int)) (h1 : a ≤ 40) : 0 ≤ (a : Int) := Zaj fun z => far [] [a] [(1, .t (.c n0) (.n 0))] rfl z
theorem Zxm {b : Int} {a : Nat} (h0 : 40 * b = (a : Int)) (h1 : a ≤ 40) : a ≤ 1000000 := Y2 fun z => far [] [a] [(1, .L n0 (.n 40)), (1, .T (.n 1000000) n0)] rfl h1 z
theorem Zxj {b : Int} {a c : Nat} (h0 : 40 * b = (c : Int)) (h1 : c ≤ 40) (h2 : a ≤ c + 30) : a ≤ 1000000 := Y2 fun z => far [] [a, c] [(1, .L n1 (.n 40)), (1, .L n0 (.a n1 (.n 30))), (1, .T (.n 1000000) n0)] rfl h1 h2 z
theorem Zxi {b : Int} {a c d : Nat} (h0 : 40 * b = (c : Int)) (h1 : c ≤ 40) (h2 : d ≤ c + 30) (h3 : a = (Int.toNat ((d : Int)))) : a ≤ 200 := by clear h0; omega
theorem Zxe {c : Int} {a b d e f i : Nat} (h0 : 40 * c = (d : Int)) (h1 : d ≤ 40) (h2 : e ≤ d + 30) (h3 : f = (Int.toNat ((e : Int)))) (h4 : b = i) (h5 : i = f) (h6 : a ≤ f + 1) : a + b ≤ 1000 := by clear h0; omega
theorem Zxc {b : Int} {a c : Nat} (h0 : 40 * b = (c : Int)) (h1 : c ≤ 40) (h2 : a ≤ c + 30) : a ≤ 70 := Y2 fun z => far [] [a, c] [(1, .L n1 (.n 40)), (1, .L n0 (.a n1 (.n 30))), (1, .T (.n 70) n0)] rfl h1 h2 z
theorem Zw9 {a : Int} {b c d e f : Nat} (h0 : b = c) (h1 : c < d) (h2 : a ≤ (b : Int)) (h3 : e = b) (h4 : f = e) (h5 : d ≤ 70) : a < 900 := Zfv fun z => far [a] [b, c, d] [(1, .L n0 n1), (1, .T n1 n2), (1, .l i0 (.c n0)), (1, .L n2 (.n 70)), (1, .l (.n 900) i0)] rfl (Nat.le_of_eq h0) h1 h2 h5 z
theorem Zw7 {c : Int} {a b d e : Nat} (h0 : 40 * c = (b : Int)) (h1 : d = a) (h2 : e = d) (h3 : (b : Int) ≤ (a : Int)) : 1 + (a : Int) - (b : Int) = ((1 + a - b : Nat) : Int) := by clear h2 h1 h0; omega
theorem Zw6 {d : Int} {a b c e f i : Nat} (h0 : 40 * d = (b : Int)) (h1 : e ≤ b + (c - 1)) (h2 : f = a) (h3 : a < e) (h4 : i = f) (h5 : (b : Int) ≤ (a : Int)) : 1 + a - b < c := by clear h4 h2 h0; omega
theorem Zw5 {b : Int} {a c d e f : Nat} (h0 : 40 * b = (c : Int)) (h1 : c ≤ 40) (h2 : d ≤ c + 30) (h3 : e = a) (h4 : a < d) (h5 : f = e) (h6 : (c : Int) ≤ (a : Int)) : (a : Int) ≤ 1000000 := Zaj fun z => far [] [a, c, d] [(1, .L n1 (.n 40)), (1, .L n2 (.a n1 (.n 30))), (1, .T n0 n2), (1, .t (.n 1000000) (.c n0))] rfl h1 h2 h4 z
theorem Zw4 {b : Int} {a c d e f i x7 : Nat} (h0 : 40 * b = (c : Int)) (h1 : c ≤ 40) (h2 : d ≤ c + 30) (h3 : e = f) (h4 : f < d) (h5 : i = e) (h6 : (c : Int) ≤ (f : Int)) (h7 : a ≤ x7) (h8 : x7 = i) : (a : Int) ≤ 1000 := Zaj fun z => far [] [a, c, d, e, f, i, x7] [(1, .L n1 (.n 40)), (1, .L n2 (.a n1 (.n 30))), (1, .L n3 n4), (1, .T n4 n2), (1, .L n5 n3), (1, .L n0 n6), (1, .L n6 n5), (1, .t (.n 1000) (.c n0))] rfl h1 h2 (Nat.le_of_eq h3) h4 (Nat.le_of_eq h5) h7 (Nat.le_of_eq h8) z
theorem Zw3 {c : Int} {a b d e f : Nat} (h0 : 40 * c = (d : Int)) (h1 : b = d) (h2 : e = a) (h3 : f = e) (h4 : ¬((d : Int) ≤ (a : Int))) : (a : Int) < (b : Int) := Zfv fun z => far [] [a, b, d] [(1, .L n2 n1), (1, .t (.c n0) (.c n2)), (1, .l (.c n1) (.c n0))] rfl (Nat.le_of_eq h1.symm) (Int.not_le.1 h4) z
section
variable {a b c d e f i : Int}
theorem Z4v (h0 : ¬(a < 0)) : 0 ≤ a := Zaj fun z => far [a] [] [(1, .l (.n 0) i0), (1, .t i0 (.n 0))] rfl (Int.not_lt.1 h0) z
theorem Z31 (h0 : b > c) (h1 : a ≤ c) : a ≤ b := Zaj fun z => far [a, b, c] [] [(1, .t i2 i1), (1, .l i0 i2), (1, .t i1 i0)] rfl h0 h1 z
theorem Z30 : a ≤ a := Zaj fun z => far [a] [] [(1, .t i0 i0)] rfl z
theorem Z3z (h0 : ¬(a > b)) : a ≤ b := Zaj fun z => far [a, b] [] [(1, .l i0 i1), (1, .t i1 i0)] rfl (Int.not_lt.1 h0) z
theorem Z3v (h0 : (Int.toNat a) ≤ 1000000) (h1 : (Int.toNat (a - 0)) = (Int.toNat a)) : a < 4611686018427387904 := by clear h1; omega
theorem Z2c (h0 : 0 ≤ a) : a = (((Int.toNat a) : Nat) : Int) := by omega
theorem Z3l (h0 : 0 ≤ a) : (-4611686018427387904) ≤ a := Zaj fun z => far [a] [] [(1, .l (.n 0) i0), (1, .t i0 (.g (.n 4611686018427387904)))] rfl h0 z
theorem Z3k (h0 : (Int.toNat a) ≤ 1000000) : a < 4611686018427387904 := by omega
theorem Z3j (h0 : (Int.toNat a) ≤ 1000000) : (Int.toNat a) ≤ 16777216 := by omega
theorem Z3h (h0 : 0 ≤ a) (h1 : (Int.toNat a) ≤ 1000000) : (-9223372036854775808) ≤ a ∧ a < 9223372036854775808 := by omega
theorem Z1h : a = a + b - b := Int.le_antisymm (Zaj fun z => far [a, b] [] [(1, .t (.s (.a i0 i1) i1) i0)] rfl z) (Zaj fun z => far [a, b] [] [(1, .t i0 (.s (.a i0 i1) i1))] rfl z)
theorem Z1g : a = b + a - b := Int.le_antisymm (Zaj fun z => far [a, b] [] [(1, .t (.s (.a i1 i0) i1) i0)] rfl z) (Zaj fun z => far [a, b] [] [(1, .t i0 (.s (.a i1 i0) i1))] rfl z)
theorem Z0y (h0 : 0 ≤ a) : (max a 0) = a := by omega
theorem Z0k (h0 : b < a) : ¬(a = b) := fun z => far [a, b] [] [(1, .t i1 i0), (1, .l i0 i1)] rfl h0 (Int.le_of_eq z)
theorem Z0j (h0 : b < a) (h1 : a ≤ b) : a = b := Int.le_antisymm (Zaj fun z => far [a, b] [] [(1, .t i1 i0), (1, .l i0 i1)] rfl h0 h1) (Zaj fun z => far [a, b] [] [(1, .t i1 i0), (1, .l i0 i1)] rfl h0 h1)
theorem Z0i (h0 : a < b) : a < (((Int.toNat b) : Nat) : Int) := by omega
theorem Z0g (h0 : a = 0) : (Int.toNat a) = 0 := by omega
theorem Z0f (h0 : 0 ≤ a ∧ a < (((Int.toNat b) : Nat) : Int)) : a < b := by omega
theorem Zz8 (h0 : a < b) : ¬(a = b) := fun z => far [a, b] [] [(1, .t i0 i1), (1, .l i1 i0)] rfl h0 (Int.le_of_eq z.symm)
theorem Zo1 (h0 : 0 ≤ a ∧ a ≤ 1000) : a < 1000000000000000000000000000000 := Zfv fun z => far [a] [] [(1, .l i0 (.n 1000)), (1, .l (.n 1000000000000000000000000000000) i0)] rfl h0.2 z
theorem Zu6 (h0 : 0 ≤ a ∧ a ≤ 1000) : 0 ≤ a ∧ a < 1000000000000000000000000000000 := ⟨Zaj fun z => far [a] [] [(1, .l (.n 0) i0), (1, .t i0 (.n 0))] rfl h0.1 z, Zfv fun z => far [a] [] [(1, .l i0 (.n 1000)), (1, .l (.n 1000000000000000000000000000000) i0)] rfl h0.2 z⟩
theorem Zzp (h0 : 0 ≤ a ∧ a ≤ 1000) : (Int.toNat a) ≤ 1000000 := by omega
theorem Zu4 (h0 : a < b) : a ≠ b := fun z => far [a, b] [] [(1, .t i0 i1), (1, .l i1 i0)] rfl h0 (Int.le_of_eq z.symm)
theorem Zy5 (h0 : b = a ∧ c = d) (h1 : 1 ≤ a ∧ a ≤ 8) : 0 ≤ a := Zaj fun z => far [a] [] [(1, .l (.n 1) i0), (1, .t i0 (.n 0))] rfl h1.1 z
theorem Zy4 (h0 : b = a ∧ c = d) (h1 : 1 ≤ a ∧ a ≤ 8) : a ≤ 1000 := Zaj fun z => far [a] [] [(1, .l i0 (.n 8)), (1, .t (.n 1000) i0)] rfl h1.2 z
theorem Zy3 (h0 : b = c ∧ d = a) (h1 : 1 ≤ a ∧ a ≤ 8) : 0 ≤ a := Zaj fun z => far [a] [] [(1, .l (.n 1) i0), (1, .t i0 (.n 0))] rfl h1.1 z
theorem Zy2 (h0 : b = c ∧ d = a) (h1 : 1 ≤ a ∧ a ≤ 8) : a ≤ 1000 := Zaj fun z => far [a] [] [(1, .l i0 (.n 8)), (1, .t (.n 1000) i0)] rfl h1.2 z
theorem Zy1 (h0 : a < 1000) (h1 : 0 ≤ a ∧ a ≤ 1000) (h2 : b = c ∧ d = e ∧ f = i) (h3 : f = a + 1) : 0 ≤ a + 1 ∧ a + 1 ≤ 1000 := ⟨Zaj fun z => far [a] [] [(1, .l (.n 0) i0), (1, .t (.a i0 (.n 1)) (.n 0))] rfl h1.1 z, Zaj fun z => far [a] [] [(1, .t i0 (.n 1000)), (1, .t (.n 1000) (.a i0 (.n 1)))] rfl h0 z⟩
theorem Zm9 (h0 : 1 ≤ a ∧ a ≤ 8) : 0 ≤ a := Zaj fun z => far [a] [] [(1, .l (.n 1) i0), (1, .t i0 (.n 0))] rfl h0.1 z
theorem Zq7 (h0 : 1 ≤ a ∧ a ≤ 8) : a ≤ 1000 := Zaj fun z => far [a] [] [(1, .l i0 (.n 8)), (1, .t (.n 1000) i0)] rfl h0.2 z
theorem Zyr (h0 : c = b) (h1 : d = a) (h2 : c < d) : a ≠ b := fun z => far [a, b, c, d] [] [(1, .l i1 i2), (1, .l i3 i0), (1, .t i2 i3), (1, .l i0 i1)] rfl (Int.le_of_eq h0.symm) (Int.le_of_eq h1) h2 (Int.le_of_eq z)
theorem Zyn (h0 : 0 ≤ a) (h1 : a ≤ 1000000) : (-18446744073709551616) < a := Zfv fun z => far [a] [] [(1, .l (.n 0) i0), (1, .l i0 (.g (.n 18446744073709551616)))] rfl h0 z
theorem Zym (h0 : 0 ≤ a) (h1 : a ≤ 1000000) : a < 18446744073709551616 := Zfv fun z => far [a] [] [(1, .l i0 (.n 1000000)), (1, .l (.n 18446744073709551616) i0)] rfl h1 z
theorem Zyl (h0 : 0 ≤ a) (h1 : a < 8) : 1 ≤ 1 + a ∧ 1 + a ≤ 8 := ⟨Zaj fun z => far [a] [] [(1, .l (.n 0) i0), (1, .t (.a (.n 1) i0) (.n 1))] rfl h0 z, Zaj fun z => far [a] [] [(1, .t i0 (.n 8)), (1, .t (.n 8) (.a (.n 1) i0))] rfl h1 z⟩
theorem Zu2 (h0 : 0 ≤ a ∧ a ≤ 1000) : 0 ≤ a := Zaj fun z => far [a] [] [(1, .l (.n 0) i0), (1, .t i0 (.n 0))] rfl h0.1 z
theorem Zu1 (h0 : a < 900) (h1 : b = a + 1) : a < 1000 := Zfv fun z => far [a] [] [(1, .t i0 (.n 900)), (1, .l (.n 1000) i0)] rfl h0 z
theorem Zya (h0 : a = b) (h1 : 1 ≤ a) (h2 : a ≤ 8) : 0 ≤ a := Zaj fun z => far [a] [] [(1, .l (.n 1) i0), (1, .t i0 (.n 0))] rfl h1 z
theorem Zx9 (h0 : a = b) (h1 : 1 ≤ a) (h2 : a ≤ 8) : (Int.toNat a) ≤ 1000000 := by clear h1 h0; omega
theorem Zuz (h0 : b = c) (h1 : 1 ≤ b) (h2 : b ≤ 8) (h3 : 0 ≤ a ∧ a < (((Int.toNat b) : Nat) : Int)) : 0 ≤ a ∧ a < b := by clear h2 h1 h0; omega
theorem Zx5 (h0 : a = b) (h1 : 1 ≤ a) (h2 : a ≤ 8) (h3 : a ≤ 0) : False := far [a] [] [(1, .l (.n 1) i0), (1, .l i0 (.n 0))] rfl h1 h3
theorem Zx1 (h0 : 1 ≤ a ∧ a < 64) (h1 : 0 = a) : False := far [a] [] [(1, .l (.n 1) i0), (1, .l i0 (.n 0))] rfl h0.1 (Int.le_of_eq h1.symm)
theorem Zxq (h0 : 0 ≤ a ∧ a ≤ 1000) : 0 ≤ a + 7 := Zaj fun z => far [a] [] [(1, .l (.n 0) i0), (1, .t (.a i0 (.n 7)) (.n 0))] rfl h0.1 z
theorem Zxp (h0 : 0 ≤ a ∧ a ≤ 1000) : a + 7 < 1000000000000000000000000000000 := Zfv fun z => far [a] [] [(1, .l i0 (.n 1000)), (1, .l (.n 1000000000000000000000000000000) (.a i0 (.n 7)))] rfl h0.2 z
theorem Zuy (h0 : 1 ≤ a ∧ a ≤ 8) : a < 1000000000000000000000000000000 := Zfv fun z => far [a] [] [(1, .l i0 (.n 8)), (1, .l (.n 1000000000000000000000000000000) i0)] rfl h0.2 z
theorem Zq6 (h0 : 0 ≤ a) : 0 ≤ a := Zaj fun z => far [a] [] [(1, .l (.n 0) i0), (1, .t i0 (.n 0))] rfl h0 z
theorem Zq5 (h0 : 1 ≤ b ∧ b ≤ 8) (h1 : a < b) : a < 1000000000000000000000000000000 := Zfv fun z => far [a, b] [] [(1, .l i1 (.n 8)), (1, .t i0 i1), (1, .l (.n 1000000000000000000000000000000) i0)] rfl h0.2 h1 z
theorem Zux (h0 : 1 ≤ a) (h1 : a ≤ 8) (h2 : b = a) : a ≠ 0 := fun z => far [a] [] [(1, .l (.n 1) i0), (1, .l i0 (.n 0))] rfl h0 (Int.le_of_eq z)
theorem Zq4 (h0 : 1 ≤ a) (h1 : a ≤ 8) (h2 : b = a) : 0 < a := Zfv fun z => far [a] [] [(1, .l (.n 1) i0), (1, .l i0 (.n 0))] rfl h0 z
theorem Zuw (h0 : 1 ≤ b) (h1 : b ≤ 8) (h2 : c = b) (h3 : a < b) : a < 1000000000000000000000000000000 := Zfv fun z => far [a, b] [] [(1, .l i1 (.n 8)), (1, .t i0 i1), (1, .l (.n 1000000000000000000000000000000) i0)] rfl h1 h3 z
end
section
variable {a b c d e f i : Nat}
theorem om0 (h0 : a ≤ 1000000) (h1 : b = 16777216) : a ≤ b := Y2 fun z => far [] [a, b] [(1, .L n0 (.n 1000000)), (1, .L (.n 16777216) n1), (1, .T n1 n0)] rfl h0 (Nat.le_of_eq h1.symm) z
theorem om1 (h0 : a ≤ 1000000) : (a : Int) < 9223372036854775808 := Zfv fun z => far [] [a] [(1, .L n0 (.n 1000000)), (1, .l (.n 9223372036854775808) (.c n0))] rfl h0 z
theorem om2 (h0 : b ≤ d) (h1 : a + 2 * d + 110 < c) : a + 2 * b + 110 < c := Zdz fun z => far [] [a, b, c, d] [(2, .L n1 n3), (1, .T (.a (.a n0 (.m 2 n3)) (.n 110)) n2), (1, .L n2 (.a (.a n0 (.m 2 n1)) (.n 110)))] rfl h0 h1 z
theorem om3 (h0 : b ≤ d) (h1 : a + 20 * d + 100 < c) : a + 20 * b + 100 < c := Zdz fun z => far [] [a, b, c, d] [(20, .L n1 n3), (1, .T (.a (.a n0 (.m 20 n3)) (.n 100)) n2), (1, .L n2 (.a (.a n0 (.m 20 n1)) (.n 100)))] rfl h0 h1 z
theorem om4 (h0 : a + 2 * (b + 1) + 110 < c) : a + 1 + 2 * b + 110 < c := Zdz fun z => far [] [a, b, c] [(1, .T (.a (.a n0 (.m 2 (.a n1 (.n 1)))) (.n 110)) n2), (1, .L n2 (.a (.a (.a n0 (.n 1)) (.m 2 n1)) (.n 110)))] rfl h0 z
theorem om5 (h0 : a + 20 * (b + 1) + 100 < c) : a + 3 + 20 * b + 100 < c := Zdz fun z => far [] [a, b, c] [(1, .T (.a (.a n0 (.m 20 (.a n1 (.n 1)))) (.n 100)) n2), (1, .L n2 (.a (.a (.a n0 (.n 3)) (.m 20 n1)) (.n 100)))] rfl h0 z
theorem om6 (h0 : a + 2 * c + 110 < b) : a < b := Zdz fun z => far [] [a, b, c] [(1, .T (.a (.a n0 (.m 2 n2)) (.n 110)) n1), (1, .L n1 n0)] rfl h0 z
theorem om7 (h0 : a + 20 * c + 100 < b) : a + 50 < b := Zdz fun z => far [] [a, b, c] [(1, .T (.a (.a n0 (.m 20 n2)) (.n 100)) n1), (1, .L n1 (.a n0 (.n 50)))] rfl h0 z
theorem om8 (h0 : b + 1 = a) : a ≠ 0 := fun z => far [] [a, b] [(1, .L (.a n1 (.n 1)) n0), (1, .L n0 (.n 0))] rfl (Nat.le_of_eq h0) (Nat.le_of_eq z)
theorem om9 (h0 : (a : Int) < 9223372036854775808) : ¬((a : Int) ≥ 9223372036854775808) := fun z => far [] [a] [(1, .t (.c n0) (.n 9223372036854775808)), (1, .l (.n 9223372036854775808) (.c n0))] rfl h0 z
theorem Z2n (h0 : a + 50 < d) (h1 : b ≤ 20) : a + (min b c) < d := Nat.lt_of_le_of_lt (Nat.add_le_add_left (Nat.le_trans (Nat.min_le_left _ _) (Nat.le_trans h1 (by decide))) _) h0
theorem Z2m (h0 : a + 1 ≤ 20) : a ≤ 20 := Y2 fun z => far [] [a] [(1, .L (.a n0 (.n 1)) (.n 20)), (1, .T (.n 20) n0)] rfl h0 z
theorem Zwr (h0 : a + 50 < d) (h1 : b ≤ 20) : a + 1 + (min b c) < d := by omega
theorem Zvc (h0 : a + 50 < b) : a + 1 < b := Zdz fun z => far [] [a, b] [(1, .T (.a n0 (.n 50)) n1), (1, .L n1 (.a n0 (.n 1)))] rfl h0 z
theorem Z4z (h0 : a + 2 * c + 110 < b) : a + 100 < b := Zdz fun z => far [] [a, b, c] [(1, .T (.a (.a n0 (.m 2 n2)) (.n 110)) n1), (1, .L n1 (.a n0 (.n 100)))] rfl h0 z
theorem Z4o (h0 : c ≤ b) (h1 : d ≤ e) (h2 : e = c) (h3 : a = d) : a ≤ b := Y2 fun z => far [] [a, b, c, d, e] [(1, .L n2 n1), (1, .L n3 n4), (1, .L n4 n2), (1, .L n0 n3), (1, .T n1 n0)] rfl h0 h1 (Nat.le_of_eq h2) (Nat.le_of_eq h3) z
theorem Z4n (h0 : ((((min a b) : Nat) : Int) = 0 ∧ True) ∧ c - (min a b) = b) : (min a b) = 0 := by omega
theorem Z4m : 0 + a = (Int.toNat (((0 : Nat) : Int) + (a : Int) * 1)) := (Nat.zero_add a).trans (congrArg Int.toNat ((Int.zero_add _).trans (Int.mul_one (a : Int)))).symm
theorem Z4k (h0 : b = c) (h1 : d - a = b) (h2 : d ≤ b) (h3 : ¬(b = 0)) : a = 0 := by clear h0; omega
theorem Z4g : 3 < 0 + 1 + 1 + 1 + 1 + 1 + a := Zdz fun z => far [] [a] [(1, .L (.a (.n 5) n0) (.n 3))] rfl z
theorem Z4f (h0 : a + (c + 1) ≤ b) : a < b := Zdz fun z => far [] [a, b, c] [(1, .L (.a n0 (.a n2 (.n 1))) n1), (1, .L n1 n0)] rfl h0 z
theorem Z4e (h0 : a + (b + 1) ≤ c) : a + 1 + b ≤ c := Y2 fun z => far [] [a, b, c] [(1, .L (.a n0 (.a n1 (.n 1))) n2), (1, .T n2 (.a (.a n0 (.n 1)) n1))] rfl h0 z
theorem Z4d : a + (b + 1) = a + 1 + b := Nat.le_antisymm (Y2 fun z => far [] [a, b] [(1, .T (.a (.a n0 (.n 1)) n1) (.a n0 (.a n1 (.n 1))))] rfl z) (Y2 fun z => far [] [a, b] [(1, .T (.a n0 (.a n1 (.n 1))) (.a (.a n0 (.n 1)) n1))] rfl z)
theorem Z4c : 0 + a ≤ a := Y2 fun z => far [] [a] [(1, .T n0 (.a (.n 0) n0))] rfl z
theorem Z4b (h0 : c ≤ b) (h1 : c = a) : a ≤ b := Y2 fun z => far [] [a, b, c] [(1, .L n2 n1), (1, .L n0 n2), (1, .T n1 n0)] rfl h0 (Nat.le_of_eq h1.symm) z
theorem Z4a (h0 : b < a) : 0 < (a : Int) - (b : Int) := Zfv fun z => far [] [a, b] [(1, .T n1 n0), (1, .l (.s (.c n0) (.c n1)) (.n 0))] rfl h0 z
theorem Z38 : (a : Int) - ((b : Int) + 1) = (a : Int) - (b : Int) - 1 := Int.le_antisymm (Zaj fun z => far [] [a, b] [(1, .t (.s (.s (.c n0) (.c n1)) (.n 1)) (.s (.c n0) (.a (.c n1) (.n 1))))] rfl z) (Zaj fun z => far [] [a, b] [(1, .t (.s (.c n0) (.a (.c n1) (.n 1))) (.s (.s (.c n0) (.c n1)) (.n 1)))] rfl z)
theorem Z37 (h0 : a ≤ b) : (a : Int) - (b : Int) ≤ 0 := Zaj fun z => far [] [a, b] [(1, .L n0 n1), (1, .t (.n 0) (.s (.c n0) (.c n1)))] rfl h0 z
theorem Z2l (h0 : b < a) : a - (b + 1) < a - b := Nat.sub_lt_sub_left h0 (Nat.lt_succ_self b)
theorem Z36 (h0 : b = a + 1) : a ≠ b := fun z => far [] [a, b] [(1, .L (.a n0 (.n 1)) n1), (1, .L n1 n0)] rfl (Nat.le_of_eq h0.symm) (Nat.le_of_eq z.symm)
theorem Z2k (h0 : b = a + 1) : a ≤ b := Y2 fun z => far [] [a, b] [(1, .L (.a n0 (.n 1)) n1), (1, .T n1 n0)] rfl (Nat.le_of_eq h0.symm) z
theorem Z35 (h0 : a ≤ b) : a ≤ b + 1 := Y2 fun z => far [] [a, b] [(1, .L n0 n1), (1, .T (.a n1 (.n 1)) n0)] rfl h0 z
theorem Z34 (h0 : c ≤ d) (h1 : d < e) (h2 : c = a) (h3 : e ≤ b) : a ≤ b := Y2 fun z => far [] [a, b, c, d, e] [(1, .L n2 n3), (1, .T n3 n4), (1, .L n0 n2), (1, .L n4 n1), (1, .T n1 n0)] rfl h0 h1 (Nat.le_of_eq h2.symm) h3 z
theorem Z2j (h0 : a ≤ b) : a ≤ b := Y2 fun z => far [] [a, b] [(1, .L n0 n1), (1, .T n1 n0)] rfl h0 z
theorem Z33 (h0 : c ≤ b) (h1 : a ≤ c) (h2 : c ≥ b) : a ≤ b := Y2 fun z => far [] [a, b, c] [(1, .L n2 n1), (1, .L n0 n2), (1, .T n1 n0)] rfl h0 h1 z
theorem Z32 (h0 : a ≤ 0) : a = 0 := Nat.le_antisymm (Y2 fun z => far [] [a] [(1, .L n0 (.n 0)), (1, .T (.n 0) n0)] rfl h0 z) (Y2 fun z => far [] [a] [(1, .T n0 (.n 0))] rfl z)
theorem Z2i (h0 : a < b + 1) : a ≤ b := Y2 fun z => far [] [a, b] [(1, .T n0 (.a n1 (.n 1))), (1, .T n1 n0)] rfl h0 z
theorem Z2h (h0 : a ≤ b + 1) (h1 : a ≥ b + 1) : a = b + 1 := Nat.le_antisymm (Y2 fun z => far [] [a, b] [(1, .L n0 (.a n1 (.n 1))), (1, .T (.a n1 (.n 1)) n0)] rfl h0 z) (Y2 fun z => far [] [a, b] [(1, .L (.a n1 (.n 1)) n0), (1, .T n0 (.a n1 (.n 1)))] rfl h1 z)
theorem Z3y (h0 : b = a) (h1 : 0 < b) : 0 < a := Zdz fun z => far [] [a, b] [(1, .L n1 n0), (1, .T (.n 0) n1), (1, .L n0 (.n 0))] rfl (Nat.le_of_eq h0) h1 z
theorem Z3x (h0 : b = c) (h1 : 0 < b) (h2 : a ≤ c - 1) : a < b := by omega
theorem Z3w (h0 : c = b) (h1 : 0 < c) (h2 : a < c) : a ≤ b - 1 := by clear h1; omega
theorem Z2g (h0 : b - a = 0) (h1 : a ≤ b) : a = b := by omega
theorem Z2f (h0 : b - a = c + 1) (h1 : a ≤ b) : a < b := by clear h1; omega
theorem Z2e (h0 : a - b = c + 1) (h1 : b < a) : a - (b + 1) = c := congrArg Nat.pred h0
theorem Z3u : 0 + (a : Int) = (a : Int) := Int.le_antisymm (Zaj fun z => far [] [a] [(1, .t (.c n0) (.a (.n 0) (.c n0)))] rfl z) (Zaj fun z => far [] [a] [(1, .t (.a (.n 0) (.c n0)) (.c n0))] rfl z)
theorem Z3t : a - 0 = a := by omega
theorem Z2d : 0 ≤ a := Y2 fun z => far [] [a] [(1, .T n0 (.n 0))] rfl z
theorem Zw2 (h0 : a ≤ 1) : (max 0 a) ≤ 1 := by omega
theorem Zw1 (h0 : a ≤ 1) : a + 1 ≤ 20 := Y2 fun z => far [] [a] [(1, .L n0 (.n 1)), (1, .T (.n 20) (.a n0 (.n 1)))] rfl h0 z
theorem Z3s : ¬((a : Int) < 0) := fun z => far [] [a] [(1, .t (.c n0) (.n 0))] rfl z
theorem Z3r (h0 : a < b) : a < b := Zdz fun z => far [] [a, b] [(1, .T n0 n1), (1, .L n1 n0)] rfl h0 z
theorem Z3q (h0 : a ≤ c + 1) (h1 : c + 1 ≤ b) : a ≤ b + 1 := Y2 fun z => far [] [a, b, c] [(1, .L n0 (.a n2 (.n 1))), (1, .L (.a n2 (.n 1)) n1), (1, .T (.a n1 (.n 1)) n0)] rfl h0 h1 z
theorem Z3p (h0 : a + 20 * (b + 1) + 100 < c) : a + 1 + 20 * b + 100 < c := Zdz fun z => far [] [a, b, c] [(1, .T (.a (.a n0 (.m 20 (.a n1 (.n 1)))) (.n 100)) n2), (1, .L n2 (.a (.a (.a n0 (.n 1)) (.m 20 n1)) (.n 100)))] rfl h0 z
theorem Z2b (h0 : (a : Int) < (b : Int)) : a < b := Zdz fun z => far [] [a, b] [(1, .t (.c n0) (.c n1)), (1, .L n1 n0)] rfl h0 z
theorem Zw0 : 0 ≤ (a : Int) := Zaj fun z => far [] [a] [(1, .t (.c n0) (.n 0))] rfl z
theorem Z3o (h0 : a < b) (h1 : b = c) (h2 : b ≤ 1000000) : (a : Int) < 9223372036854775808 := Zfv fun z => far [] [a, b] [(1, .T n0 n1), (1, .L n1 (.n 1000000)), (1, .l (.n 9223372036854775808) (.c n0))] rfl h0 h2 z
theorem Z3n (h0 : a < c) (h1 : c = b) : (a : Int) < (b : Int) := Zfv fun z => far [] [a, b, c] [(1, .T n0 n2), (1, .L n2 n1), (1, .l (.c n1) (.c n0))] rfl h0 (Nat.le_of_eq h1) z
theorem Z3m : ((a + (b + 1) : Nat) : Int) = ((a + 1 + b : Nat) : Int) := Int.le_antisymm (Zaj fun z => far [] [a, b] [(1, .t (.c (.a (.a n0 (.n 1)) n1)) (.c (.a n0 (.a n1 (.n 1)))))] rfl z) (Zaj fun z => far [] [a, b] [(1, .t (.c (.a n0 (.a n1 (.n 1)))) (.c (.a (.a n0 (.n 1)) n1)))] rfl z)
theorem Z3i : 0 + (a : Int) * 1 = (a : Int) := by omega
theorem Z3e (h0 : b - (a + 1) = 0) (h1 : a + 1 ≤ b) : a + 1 = b := Nat.le_antisymm h1 (Nat.le_of_sub_eq_zero h0)
theorem Z3d (h0 : b - (a + 1) = c + 1) (h1 : a + 1 ≤ b) : a + 1 < b := by clear h1; omega
theorem Z2a (h0 : a - (b + 1) = c + 1) (h1 : b + 1 < a) : a - (b + 1 + 1) = c := congrArg Nat.pred h0
theorem Z3c (h0 : c = a) (h1 : c = b) : a = b := Nat.le_antisymm (Y2 fun z => far [] [a, b, c] [(1, .L n0 n2), (1, .L n2 n1), (1, .T n1 n0)] rfl (Nat.le_of_eq h0.symm) (Nat.le_of_eq h1) z) (Y2 fun z => far [] [a, b, c] [(1, .L n2 n0), (1, .L n1 n2), (1, .T n0 n1)] rfl (Nat.le_of_eq h0) (Nat.le_of_eq h1.symm) z)
theorem Z3b (h0 : a + 50 < b) : a + 1 + 1 < b := Zdz fun z => far [] [a, b] [(1, .T (.a n0 (.n 50)) n1), (1, .L n1 (.a (.a n0 (.n 1)) (.n 1)))] rfl h0 z
theorem Z3a (h0 : c = b) (h1 : 0 < b) (h2 : a < c) : a ≤ b - 1 := by clear h1; omega
theorem Z29 (h0 : b < 64) (h1 : b = a) : a < 64 := Zdz fun z => far [] [a, b] [(1, .T n1 (.n 64)), (1, .L n0 n1), (1, .L (.n 64) n0)] rfl h0 (Nat.le_of_eq h1.symm) z
theorem Z28 : a ≤ a + (b + 1) := Y2 fun z => far [] [a, b] [(1, .T (.a n0 (.a n1 (.n 1))) n0)] rfl z
theorem Z27 (h0 : a ≤ c) : a ≤ b + (c + 1) := Y2 fun z => far [] [a, b, c] [(1, .L n0 n2), (1, .T (.a n1 (.a n2 (.n 1))) n0)] rfl h0 z
theorem Z26 (h0 : a + 1 ≤ c + 1) : a + 1 + 1 ≤ b + (c + 1) + 1 := Y2 fun z => far [] [a, b, c] [(1, .L (.a n0 (.n 1)) (.a n2 (.n 1))), (1, .T (.a (.a n1 (.a n2 (.n 1))) (.n 1)) (.a (.a n0 (.n 1)) (.n 1)))] rfl h0 z
theorem Z25 (h0 : 1 ≤ a) (h1 : a ≤ 30) : a ≤ 4300 := Y2 fun z => far [] [a] [(1, .L n0 (.n 30)), (1, .T (.n 4300) n0)] rfl h1 z
theorem Z24 (h0 : 1 ≤ a) (h1 : a ≤ 30) (h2 : a = 0) : False := far [] [a] [(1, .L (.n 1) n0), (1, .L n0 (.n 0))] rfl h0 (Nat.le_of_eq h2)
theorem Z19 (h0 : ¬(a < 10)) (h1 : a % 10 < 10) : 0 < a / 10 := by clear h1; omega
theorem Z22 (h0 : ¬(a < 10)) (h1 : a < 10) : 0 < (0 : Nat) := Zdz fun z => far [] [a] [(1, .L (.n 10) n0), (1, .T n0 (.n 10))] rfl (Nat.not_lt.1 h0) h1
theorem Z21 (h0 : a < b * 10) (h1 : a % 10 < 10) : a / 10 < b := by clear h1; omega
theorem Z20 (h0 : 0 ≤ (a : Int)) (h1 : (a : Int) < 1000000000000000000000000000000) : a < 1000000000000000000000000000000 := Zdz fun z => far [] [a] [(1, .t (.c n0) (.n 1000000000000000000000000000000)), (1, .L (.n 1000000000000000000000000000000) n0)] rfl h1 z
theorem Z1v (h0 : a < 10) (h1 : b - 48 = a) (h2 : b = 48) : a = 0 := by rw [← h1, h2]
theorem Z1u (h0 : ¬(a < 10)) (h1 : a % 10 < 10) : a / 10 < a := by clear h1; omega
theorem Z1t (h0 : ¬(a < 10)) (h1 : a % 10 < 10) (h2 : a / 10 = 0) : a = 0 := by clear h1; omega
theorem Z1s (h0 : a = 32) : a < 128 := Zdz fun z => far [] [a] [(1, .L n0 (.n 32)), (1, .L (.n 128) n0)] rfl (Nat.le_of_eq h0) z
theorem Zvi (h0 : 48 ≤ a ∧ a ≤ 57) : a < 128 := Zdz fun z => far [] [a] [(1, .L n0 (.n 57)), (1, .L (.n 128) n0)] rfl h0.2 z
theorem Z1r (h0 : a ≤ d + c * 31) (h1 : e ≤ 30) (h2 : d = b + 1 + e) : a ≤ b + (c + 1) * 31 := by omega
theorem Z1o (h0 : a ≤ 1000) : a + 1 ≤ 1001 := Y2 fun z => far [] [a] [(1, .L n0 (.n 1000)), (1, .T (.n 1001) (.a n0 (.n 1)))] rfl h0 z
theorem Z1n (h0 : a + b * c ≤ 100000) : a + b * c ≤ 16777216 := by omega
theorem Z1m (h0 : b + c * d ≤ 100000) (h1 : a ≤ b + c * d) : a ≤ 1000000 := by omega
theorem Zvh (h0 : b = c) (h1 : a < c) : a < b := Zdz fun z => far [] [a, b, c] [(1, .L n2 n1), (1, .T n0 n2), (1, .L n1 n0)] rfl (Nat.le_of_eq h0.symm) h1 z
theorem Z1l (h0 : c = d) (h1 : d ≤ 1000000) (h2 : a ≤ e) (h3 : e < d) (h4 : b = 16777216) : a ≤ b := Y2 fun z => far [] [a, b, d, e] [(1, .L n2 (.n 1000000)), (1, .L n0 n3), (1, .T n3 n2), (1, .L (.n 16777216) n1), (1, .T n1 n0)] rfl h1 h2 h3 (Nat.le_of_eq h4.symm) z
theorem Z1k (h0 : c ≤ b) (h1 : b < d) (h2 : a ≤ c + 1) : a ≤ b + 1 := Y2 fun z => far [] [a, b, c] [(1, .L n2 n1), (1, .L n0 (.a n2 (.n 1))), (1, .T (.a n1 (.n 1)) n0)] rfl h0 h2 z
theorem Z1j (h0 : b = c) (h1 : c ≤ 1000000) (h2 : a ≤ b) : a ≤ 1000000 := Y2 fun z => far [] [a, b, c] [(1, .L n1 n2), (1, .L n2 (.n 1000000)), (1, .L n0 n1), (1, .T (.n 1000000) n0)] rfl (Nat.le_of_eq h0) h1 h2 z
theorem Z1i (h0 : a + 50 < b) : a < b := Zdz fun z => far [] [a, b] [(1, .T (.a n0 (.n 50)) n1), (1, .L n1 n0)] rfl h0 z
theorem Zvg (h0 : a % 2 = 0) : ¬((a + 1) % 2 = 0) := by omega
theorem Zvf (h0 : a % 2 = 1) : (a + 1) % 2 = 0 := by rw [Nat.add_mod, h0]
theorem Zq9 (h0 : a % 2 = 1) : ¬(a % 2 = 0) := by omega
theorem Z1f (h0 : a % 2 = 0) (h1 : b % 2 = 0) : a % 2 = b % 2 := by omega
theorem Z1e (h0 : a % 2 = 1) (h1 : b % 2 = 1) : a % 2 = b % 2 := by omega
theorem Zve (h0 : a < b) : a ≤ b := Y2 fun z => far [] [a, b] [(1, .T n0 n1), (1, .T n1 n0)] rfl h0 z
theorem Zvd (h0 : b < a) : 1 ≤ a - b := by omega
theorem Z1a (h0 : 0 % 2 = (b + 1) % 2) (h1 : b ≥ a) : a ≤ b + 1 := Y2 fun z => far [] [a, b] [(1, .L n0 n1), (1, .T (.a n1 (.n 1)) n0)] rfl h1 z
theorem Z09 (h0 : 0 % 2 = (a + 1) % 2) : (a + 1) % 2 = 0 := by omega
theorem Z08 (h0 : 0 % 2 = (a + 1) % 2) : ¬(a % 2 = 0) := by omega
theorem Z07 (h0 : a + 1 < 0) : False := far [] [a] [(1, .T (.a n0 (.n 1)) (.n 0))] rfl h0
theorem Zvb (h0 : b ≥ a) : a ≤ b + 1 := Y2 fun z => far [] [a, b] [(1, .L n0 n1), (1, .T (.a n1 (.n 1)) n0)] rfl h0 z
theorem Z06 (h0 : a + 1 < b + 1) (h1 : (a + 1) % 2 = (b + 1) % 2) : a < b := Zdz fun z => far [] [a, b] [(1, .T (.a n0 (.n 1)) (.a n1 (.n 1))), (1, .L n1 n0)] rfl h0 z
theorem Zva (h0 : (a + 1) % 2 = (b + 1) % 2) : a % 2 = b % 2 := (Nat.add_mod_right a 2).symm.trans ((Nat.add_mod (a + 1) 1 2).trans ((congrArg (fun x => (x + 1 % 2) % 2) h0).trans ((Nat.add_mod (b + 1) 1 2).symm.trans (Nat.add_mod_right b 2))))
theorem Z05 : a % 2 = (a + 1 + 1) % 2 := (Nat.add_mod_right a 2).symm
theorem Z04 (h0 : b ≥ a) : a ≤ b := Y2 fun z => far [] [a, b] [(1, .L n0 n1), (1, .T n1 n0)] rfl h0 z
theorem Z03 (h0 : b < a) (h1 : a ≤ b + 1) : a = b + 1 := Nat.le_antisymm (Y2 fun z => far [] [a, b] [(1, .L n0 (.a n1 (.n 1))), (1, .T (.a n1 (.n 1)) n0)] rfl h1 z) (Y2 fun z => far [] [a, b] [(1, .T n1 n0), (1, .T n0 (.a n1 (.n 1)))] rfl h0 z)
theorem Z02 (h0 : (a + 1) % 2 = 0 % 2) : ¬(a % 2 = 0) := by omega
theorem Z00 (h0 : (a + 1 + 1) % 2 = 0 % 2) : ¬((a + 1) % 2 = 0) := by omega
theorem Z0z (h0 : (a + 1 + 1) % 2 = 0 % 2) : a % 2 = 0 := by omega
theorem Z0x (h0 : a ≤ b) : a < b + 1 := Zdz fun z => far [] [a, b] [(1, .L n0 n1), (1, .L (.a n1 (.n 1)) n0)] rfl h0 z
theorem Z0w (h0 : a < b) : a < b + 1 := Zdz fun z => far [] [a, b] [(1, .T n0 n1), (1, .L (.a n1 (.n 1)) n0)] rfl h0 z
theorem Z0v (h0 : a < b) : a + 1 < b + 1 := Zdz fun z => far [] [a, b] [(1, .T n0 n1), (1, .L (.a n1 (.n 1)) (.a n0 (.n 1)))] rfl h0 z
theorem Z0u (h0 : a ≤ b) (h1 : b ≤ c) (h2 : c < a) : False := far [] [a, b, c] [(1, .L n0 n1), (1, .L n1 n2), (1, .T n2 n0)] rfl h0 h1 h2
theorem Zq8 (h0 : a = 0) : a ≤ b := Y2 fun z => far [] [a, b] [(1, .L n0 (.n 0)), (1, .T n1 n0)] rfl (Nat.le_of_eq h0) z
theorem Zu8 (h0 : c = a) (h1 : c ≤ b) : a ≤ b := Y2 fun z => far [] [a, b, c] [(1, .L n0 n2), (1, .L n2 n1), (1, .T n1 n0)] rfl (Nat.le_of_eq h0.symm) h1 z
theorem Z0t (h0 : c = a) (h1 : c + d ≤ b) : a ≤ b := Y2 fun z => far [] [a, b, c, d] [(1, .L n0 n2), (1, .L (.a n2 n3) n1), (1, .T n1 n0)] rfl (Nat.le_of_eq h0.symm) h1 z
theorem Z0q (h0 : a = c + d) (h1 : c = b) (h2 : d ≤ 1) : a ≤ b + 1 := Y2 fun z => far [] [a, b, c, d] [(1, .L n0 (.a n2 n3)), (1, .L n2 n1), (1, .L n3 (.n 1)), (1, .T (.a n1 (.n 1)) n0)] rfl (Nat.le_of_eq h0) (Nat.le_of_eq h1) h2 z
theorem Z0p (h0 : b ≤ a) (h1 : a = 0) : a ≤ b + 1 := Y2 fun z => far [] [a, b] [(1, .L n0 (.n 0)), (1, .T (.a n1 (.n 1)) n0)] rfl (Nat.le_of_eq h1) z
theorem Zu7 (h0 : a < b) : (min a b) = a := by omega
theorem Z0d (h0 : b = a + 1) : a + 1 - 1 < a + 1 := by clear h0; omega
theorem Z0c : a ≤ a + b := Y2 fun z => far [] [a, b] [(1, .T (.a n0 n1) n0)] rfl z
theorem Z0b : a ≤ b + a := Y2 fun z => far [] [a, b] [(1, .T (.a n1 n0) n0)] rfl z
theorem Zz7 (h0 : c = a) (h1 : b ≥ c) : a ≤ b := Y2 fun z => far [] [a, b, c] [(1, .L n0 n2), (1, .L n2 n1), (1, .T n1 n0)] rfl (Nat.le_of_eq h0.symm) h1 z
theorem Zz6 (h0 : c = b) (h1 : a < c) : a < b := Zdz fun z => far [] [a, b, c] [(1, .L n2 n1), (1, .T n0 n2), (1, .L n1 n0)] rfl (Nat.le_of_eq h0) h1 z
theorem Zz5 (h0 : b < 128) (h1 : a = b) : a < 128 := Zdz fun z => far [] [a, b] [(1, .T n1 (.n 128)), (1, .L n0 n1), (1, .L (.n 128) n0)] rfl h0 (Nat.le_of_eq h1) z
theorem Zz4 (h0 : b ≤ c * 30) (h1 : a ≤ 30) : a + b ≤ (c + 1) * 30 := by omega
theorem Zz1 (h0 : b ≤ 1000) (h1 : a = b) : a ≤ 1000 := Y2 fun z => far [] [a, b] [(1, .L n1 (.n 1000)), (1, .L n0 n1), (1, .T (.n 1000) n0)] rfl h0 (Nat.le_of_eq h1) z
theorem Zz0 (h0 : a = b) (h1 : 3 = b + 1) : a = 2 := Nat.le_antisymm (Y2 fun z => far [] [a, b] [(1, .L n0 n1), (1, .L (.a n1 (.n 1)) (.n 3)), (1, .T (.n 2) n0)] rfl (Nat.le_of_eq h0) (Nat.le_of_eq h1.symm) z) (Y2 fun z => far [] [a, b] [(1, .L n1 n0), (1, .L (.n 3) (.a n1 (.n 1))), (1, .T n0 (.n 2))] rfl (Nat.le_of_eq h0.symm) (Nat.le_of_eq h1) z)
theorem Zzz (h0 : a = b) (h1 : 2 = b + 1) : a = 1 := Nat.le_antisymm (Y2 fun z => far [] [a, b] [(1, .L n0 n1), (1, .L (.a n1 (.n 1)) (.n 2)), (1, .T (.n 1) n0)] rfl (Nat.le_of_eq h0) (Nat.le_of_eq h1.symm) z) (Y2 fun z => far [] [a, b] [(1, .L n1 n0), (1, .L (.n 2) (.a n1 (.n 1))), (1, .T n0 (.n 1))] rfl (Nat.le_of_eq h0.symm) (Nat.le_of_eq h1) z)
theorem Zzx (h0 : a = b) : a + 1 = b + 1 := Nat.le_antisymm (Y2 fun z => far [] [a, b] [(1, .L n0 n1), (1, .T (.a n1 (.n 1)) (.a n0 (.n 1)))] rfl (Nat.le_of_eq h0) z) (Y2 fun z => far [] [a, b] [(1, .L n1 n0), (1, .T (.a n0 (.n 1)) (.a n1 (.n 1)))] rfl (Nat.le_of_eq h0.symm) z)
theorem Zzw (h0 : a ≤ c + b * 31) (h1 : c ≤ 30) : a ≤ 30 + b * 31 := by omega
theorem Zzv (h0 : b ≤ 40) (h1 : b < 40) (h2 : c = b + 1) (h3 : d = c) (h4 : a ≤ d) : a ≤ 1000 := Y2 fun z => far [] [a, b, c, d] [(1, .L n1 (.n 40)), (1, .L n2 (.a n1 (.n 1))), (1, .L n3 n2), (1, .L n0 n3), (1, .T (.n 1000) n0)] rfl h0 (Nat.le_of_eq h2) (Nat.le_of_eq h3) h4 z
theorem Zzu (h0 : a ≤ 40) (h1 : a < 40) (h2 : b = a + 1) (h3 : c = b) : a ≤ 999 := Y2 fun z => far [] [a] [(1, .L n0 (.n 40)), (1, .T (.n 999) n0)] rfl h0 z
theorem Zzt (h0 : b ≤ 40) (h1 : b < 40) (h2 : a = b + 1) (h3 : c = a) : a ≤ 40 := Y2 fun z => far [] [a, b] [(1, .T n1 (.n 40)), (1, .L n0 (.a n1 (.n 1))), (1, .T (.n 40) n0)] rfl h1 (Nat.le_of_eq h2) z
theorem Zu5 (h0 : b ≤ 40) (h1 : a = b) : a ≤ 40 := Y2 fun z => far [] [a, b] [(1, .L n1 (.n 40)), (1, .L n0 n1), (1, .T (.n 40) n0)] rfl h0 (Nat.le_of_eq h1) z
theorem Zzs (h0 : b ≤ 3) (h1 : a ≤ 1) : (max (a + 1) b) ≤ 3 := by omega
theorem Zzr (h0 : a ≤ 3) : a + 1 ≤ 20 := Y2 fun z => far [] [a] [(1, .L n0 (.n 3)), (1, .T (.n 20) (.a n0 (.n 1)))] rfl h0 z
theorem Zzq (h0 : a ≤ b + 1) : a ≤ b + (0 + 1) + 1 := Y2 fun z => far [] [a, b] [(1, .L n0 (.a n1 (.n 1))), (1, .T (.a (.a n1 (.n 1)) (.n 1)) n0)] rfl h0 z
theorem Zzn (h0 : a + (b + 1) = 2) : a ≤ 2 := Y2 fun z => far [] [a, b] [(1, .L (.a n0 (.a n1 (.n 1))) (.n 2)), (1, .T (.n 2) n0)] rfl (Nat.le_of_eq h0) z
theorem Zzl (h0 : a ≤ 1000) : 0 ≤ (a : Int) := Zaj fun z => far [] [a] [(1, .t (.c n0) (.n 0))] rfl z
theorem Zzk (h0 : a ≤ 1000) : (Int.toNat ((a : Int))) ≤ 1000000 := by omega
theorem Zzj (h0 : a ≤ 1000) : (Int.toNat ((a : Int))) = a := by clear h0; omega
theorem Zzi (h0 : b < 64) (h1 : a + 1 ≤ c) (h2 : c = b) : a ≤ 999999 := Y2 fun z => far [] [a, b, c] [(1, .T n1 (.n 64)), (1, .L (.a n0 (.n 1)) n2), (1, .L n2 n1), (1, .T (.n 999999) n0)] rfl h0 h1 (Nat.le_of_eq h2) z
theorem Zzh (h0 : b + 1 ≤ a) : a - (b + 1) < a - b := by omega
theorem Zzg (h0 : a ≤ 2 * b * c + 2 * b) : a ≤ 2 * b * c + 2 * b * 1 := by omega
theorem Zzf (h0 : c ≤ b) (h1 : a + (d + 1) = c) : a ≤ b := Y2 fun z => far [] [a, b, c, d] [(1, .L n2 n1), (1, .L (.a n0 (.a n3 (.n 1))) n2), (1, .T n1 n0)] rfl h0 (Nat.le_of_eq h1) z
theorem Zze (h0 : a ≤ b) : 2 * a ≤ 2 * b := Y2 fun z => far [] [a, b] [(2, .L n0 n1), (1, .T (.m 2 n1) (.m 2 n0))] rfl h0 z
theorem Zzd (h0 : a ≤ 2 * c * d + 2 * e) (h1 : e ≤ b) (h2 : 2 * c * d ≤ 2 * b * b) : a ≤ 2 * b * b + 2 * b := by omega
theorem Zzc (h0 : a ≤ 100) : 2 * a ≤ 2 * 100 := Y2 fun z => far [] [a] [(2, .L n0 (.n 100)), (1, .T (.n 200) (.m 2 n0))] rfl h0 z
theorem Zzb (h0 : b ≤ 100) (h1 : a ≤ 2 * b * b + 2 * b) (h2 : 2 * b * b ≤ 2 * 100 * 100) : a ≤ 999999 := by omega
theorem Zza (h0 : b ≤ 100) (h1 : a ≤ 2 * b * b + 2 * b) (h2 : 2 * b * b ≤ 2 * 100 * 100) : a ≤ 999998 := by omega
theorem Zy9 (h0 : a ≤ 2 * b * c + 2 * d) : a + 1 + 1 ≤ 2 * b * c + 2 * (d + 1) := by omega
theorem Zy8 (h0 : a ≤ 40) (h1 : 40 ≤ (a : Int)) : a = 40 := Nat.le_antisymm (Y2 fun z => far [] [a] [(1, .L n0 (.n 40)), (1, .T (.n 40) n0)] rfl h0 z) (Y2 fun z => far [] [a] [(1, .l (.n 40) (.c n0)), (1, .T n0 (.n 40))] rfl h1 z)
theorem Zy7 (h0 : a ≤ 40) (h1 : ¬(40 ≤ (a : Int))) : a < 40 := Zdz fun z => far [] [a] [(1, .t (.c n0) (.n 40)), (1, .L (.n 40) n0)] rfl (Int.not_le.1 h1) z
theorem Zyy (h0 : b < 64) (h1 : a + (c + 1) = b) : a ≤ 999999 := Y2 fun z => far [] [a, b, c] [(1, .T n1 (.n 64)), (1, .L (.a n0 (.a n2 (.n 1))) n1), (1, .T (.n 999999) n0)] rfl h0 (Nat.le_of_eq h1) z
theorem Zyx (h0 : a ≤ b) (h1 : ¬(a < b)) : ¬((a : Int) < (b : Int)) := fun z => far [] [a, b] [(1, .L n1 n0), (1, .t (.c n0) (.c n1))] rfl (Nat.not_lt.1 h1) z
theorem Zyw (h0 : a ≤ b) (h1 : ¬(a < b)) : a = b := Nat.le_antisymm (Y2 fun z => far [] [a, b] [(1, .L n0 n1), (1, .T n1 n0)] rfl h0 z) (Y2 fun z => far [] [a, b] [(1, .L n1 n0), (1, .T n0 n1)] rfl (Nat.not_lt.1 h1) z)
theorem Zyu (h0 : a < b) : (a : Int) < (b : Int) := Zfv fun z => far [] [a, b] [(1, .T n0 n1), (1, .l (.c n1) (.c n0))] rfl h0 z
theorem Zyt (h0 : a + (b + 1) ≤ 64) : a + b ≤ 64 := Y2 fun z => far [] [a, b] [(1, .L (.a n0 (.a n1 (.n 1))) (.n 64)), (1, .T (.n 64) (.a n0 n1))] rfl h0 z
theorem Zys (h0 : b < 64) (h1 : a ≤ b) : a ≤ 100 := Y2 fun z => far [] [a, b] [(1, .T n1 (.n 64)), (1, .L n0 n1), (1, .T (.n 100) n0)] rfl h0 h1 z
theorem Zyq (h0 : a + (b + 1) ≤ 64) : a ≤ 999999 := Y2 fun z => far [] [a, b] [(1, .L (.a n0 (.a n1 (.n 1))) (.n 64)), (1, .T (.n 999999) n0)] rfl h0 z
theorem Zyp (h0 : a + (b + 1) ≤ 64) : a + 1 + b ≤ 64 := Y2 fun z => far [] [a, b] [(1, .L (.a n0 (.a n1 (.n 1))) (.n 64)), (1, .T (.n 64) (.a (.a n0 (.n 1)) n1))] rfl h0 z
theorem Zyo (h0 : b < 64) (h1 : a ≤ b) : a ≤ 64 := Y2 fun z => far [] [a, b] [(1, .T n1 (.n 64)), (1, .L n0 n1), (1, .T (.n 64) n0)] rfl h0 h1 z
theorem Zte (h0 : a ≤ 1000) (h1 : 1 ≤ (a : Int)) (h2 : (a : Int) ≤ 30) : 1 ≤ a := Y2 fun z => far [] [a] [(1, .l (.n 1) (.c n0)), (1, .T n0 (.n 1))] rfl h1 z
theorem Zu3 (h0 : a ≤ 1000) (h1 : 1 ≤ (a : Int)) (h2 : (a : Int) ≤ 30) : a ≤ 30 := Y2 fun z => far [] [a] [(1, .l (.c n0) (.n 30)), (1, .T (.n 30) n0)] rfl h2 z
theorem Zyk (h0 : a ≤ 1000) (h1 : 1 ≤ (a : Int)) (h2 : (a : Int) ≤ 30) : a ≤ 640 := Y2 fun z => far [] [a] [(1, .l (.c n0) (.n 30)), (1, .T (.n 640) n0)] rfl h2 z
theorem Zyj (h0 : a ≤ 1000) (h1 : 1 ≤ (a : Int)) (h2 : ¬((a : Int) ≤ 30)) : ¬(a ≤ 30) := fun z => far [] [a] [(1, .t (.n 30) (.c n0)), (1, .L n0 (.n 30))] rfl (Int.not_le.1 h2) z
theorem Zyi (h0 : a ≤ 1000) (h1 : ¬(1 ≤ (a : Int))) : ¬(1 ≤ a) := fun z => far [] [a] [(1, .t (.c n0) (.n 1)), (1, .L (.n 1) n0)] rfl (Int.not_le.1 h1) z
theorem Zyh (h0 : b ≤ 1000) (h1 : a + 1 = c) (h2 : a ≤ b) : a ≤ 1001 := Y2 fun z => far [] [a, b] [(1, .L n1 (.n 1000)), (1, .L n0 n1), (1, .T (.n 1001) n0)] rfl h0 h2 z
theorem Zyg (h0 : b + 1 = c) (h1 : b ≤ 1001) (h2 : a = b) : 0 + 1 + a ≤ 1000000 := Y2 fun z => far [] [a, b] [(1, .L n1 (.n 1001)), (1, .L n0 n1), (1, .T (.n 1000000) (.a (.n 1) n0))] rfl h1 (Nat.le_of_eq h2) z
theorem Zyf (h0 : ¬(a + 1 = b)) : ((a + 1 : Nat) : Int) ≠ (b : Int) := by omega
theorem Zye (h0 : ¬(b + 1 = a)) : ¬(a = b + 1) := by omega
theorem Zyd (h0 : b ≤ 1001) (h1 : a ≤ (b + 1 + 1) * 30) : a + (b + 1 + 1) * 1 ≤ 100000 := by omega
theorem Zyc (h0 : a ≤ 1000) : 3 + a ≤ 1000000 := Y2 fun z => far [] [a] [(1, .L n0 (.n 1000)), (1, .T (.n 1000000) (.a (.n 3) n0))] rfl h0 z
theorem Zyb (h0 : a < 2) : a = 0 ∨ a = 1 := by omega
theorem Zu0 (h0 : b = a) (h1 : a < 2) : a = 0 ∨ a = 1 := by clear h0; omega
theorem Zx8 (h0 : 0 < a) : 0 < (a : Int) := Zfv fun z => far [] [a] [(1, .T (.n 0) n0), (1, .l (.c n0) (.n 0))] rfl h0 z
theorem Zx7 (h0 : 0 < (a : Int)) : (a : Int) ≠ 0 := fun z => far [] [a] [(1, .t (.n 0) (.c n0)), (1, .l (.c n0) (.n 0))] rfl h0 (Int.le_of_eq z)
theorem Zx6 (h0 : a = b) (h1 : b < 2) : a ≤ 999999 := Y2 fun z => far [] [a, b] [(1, .L n0 n1), (1, .T n1 (.n 2)), (1, .T (.n 999999) n0)] rfl (Nat.le_of_eq h0) h1 z
theorem Zx3 (h0 : b = a) (h1 : 0 < a) : 0 < (a : Int) := Zfv fun z => far [] [a] [(1, .T (.n 0) n0), (1, .l (.c n0) (.n 0))] rfl h1 z
theorem Zx2 (h0 : b = a) (h1 : 0 < (a : Int)) : (a : Int) ≠ 0 := fun z => far [] [a] [(1, .t (.n 0) (.c n0)), (1, .l (.c n0) (.n 0))] rfl h1 (Int.le_of_eq z)
theorem Zxz (h0 : a ≤ 30) : a + 1 ≤ 1000000 := Y2 fun z => far [] [a] [(1, .L n0 (.n 30)), (1, .T (.n 1000000) (.a n0 (.n 1)))] rfl h0 z
theorem Zxy (h0 : a ≤ 30) (h1 : b ≤ 30) : a + 1 + b ≤ 1000000 := Y2 fun z => far [] [a, b] [(1, .L n0 (.n 30)), (1, .L n1 (.n 30)), (1, .T (.n 1000000) (.a (.a n0 (.n 1)) n1))] rfl h0 h1 z
theorem Zxx (h0 : b + (c + 1) ≤ 1000) (h1 : a ≤ 1) : a + 1 + b ≤ 1002 := Y2 fun z => far [] [a, b, c] [(1, .L (.a n1 (.a n2 (.n 1))) (.n 1000)), (1, .L n0 (.n 1)), (1, .T (.n 1002) (.a (.a n0 (.n 1)) n1))] rfl h0 h1 z
theorem Zxw (h0 : a ≤ 30 + b * 31) (h1 : b ≤ 1002) : a + 1 ≤ 1000000 := by omega
theorem Zxv (h0 : a ≤ 30 + c * 31) (h1 : b ≤ 30) (h2 : c ≤ 1002) : a + 1 + b ≤ 1000000 := by omega
theorem Zxu (h0 : a ≤ 30 + 1 * 31) : a + 1 ≤ 1000000 := Y2 fun z => far [] [a] [(1, .L n0 (.n 61)), (1, .T (.n 1000000) (.a n0 (.n 1)))] rfl h0 z
theorem Zxt (h0 : a ≤ 30 + 1 * 31) (h1 : b ≤ 30) : a + 1 + b ≤ 1000000 := Y2 fun z => far [] [a, b] [(1, .L n0 (.n 61)), (1, .L n1 (.n 30)), (1, .T (.n 1000000) (.a (.a n0 (.n 1)) n1))] rfl h0 h1 z
theorem Zxs (h0 : a ≤ 1) (h1 : b ≤ 1) : a + b ≤ 1000000 := Y2 fun z => far [] [a, b] [(1, .L n0 (.n 1)), (1, .L n1 (.n 1)), (1, .T (.n 1000000) (.a n0 n1))] rfl h0 h1 z
theorem Zxr (h0 : a ≤ 1) (h1 : b ≤ 1) (h2 : c ≤ 1) : a + b + c ≤ 1000000 := Y2 fun z => far [] [a, b, c] [(1, .L n0 (.n 1)), (1, .L n1 (.n 1)), (1, .L n2 (.n 1)), (1, .T (.n 1000000) (.a (.a n0 n1) n2))] rfl h0 h1 h2 z
theorem Zxo (h0 : a ≤ 40) : (a : Int) ≤ 41 := Zaj fun z => far [] [a] [(1, .L n0 (.n 40)), (1, .t (.n 41) (.c n0))] rfl h0 z
theorem Zxl : a + (min 30 (b - 1)) ≤ a + 30 := by omega
theorem Zxk (h0 : b ≤ 63) : a + (min 30 (b - 1)) ≤ a + (b - 1) := Nat.add_le_add_left (Nat.min_le_right _ _) _
theorem Zxh (h0 : a + b + 1 ≤ 1000) : a + 1 ≤ 1000000 := Y2 fun z => far [] [a, b] [(1, .L (.a (.a n0 n1) (.n 1)) (.n 1000)), (1, .T (.n 1000000) (.a n0 (.n 1)))] rfl h0 z
theorem Zxg (h0 : a + b + 1 ≤ 1000) : a + (0 + 1) + b ≤ 1000 := Y2 fun z => far [] [a, b] [(1, .L (.a (.a n0 n1) (.n 1)) (.n 1000)), (1, .T (.n 1000) (.a (.a n0 (.n 1)) n1))] rfl h0 z
theorem Zxf (h0 : a + (b + 1) ≤ 1000) : a + b ≤ 1000 := Y2 fun z => far [] [a, b] [(1, .L (.a n0 (.a n1 (.n 1))) (.n 1000)), (1, .T (.n 1000) (.a n0 n1))] rfl h0 z
theorem Zxd (h0 : a < (Int.toNat ((b : Int)))) (h1 : c = a) : a < b := by clear h1; omega
theorem Zxb (h0 : a ≤ 30) (h1 : b ≤ 30) : a + b ≤ 60 := Y2 fun z => far [] [a, b] [(1, .L n0 (.n 30)), (1, .L n1 (.n 30)), (1, .T (.n 60) (.a n0 n1))] rfl h0 h1 z
theorem Zxa (h0 : a ≤ 4) (h1 : c ≤ 2) (h2 : b ≤ c * 30) : a + b + (c + 1) * 1 ≤ 100000 := by omega
theorem Zuv (h0 : a = b) (h1 : b < c) (h2 : d = a) (h3 : e = d) (h4 : c ≤ 70) : a ≤ 999999 := Y2 fun z => far [] [a, b, c] [(1, .L n0 n1), (1, .T n1 n2), (1, .L n2 (.n 70)), (1, .T (.n 999999) n0)] rfl (Nat.le_of_eq h0) h1 h4 z
theorem Zw8 (h0 : b ≤ 4) (h1 : c ≤ 2) (h2 : a ≤ b + c * 31) : a ≤ 1000 := by omega
theorem Ztd (h0 : b = c) (h1 : c < d) (h2 : e = b) (h3 : a = e) (h4 : d ≤ 70) : a ≤ 999999 := Y2 fun z => far [] [a, b, c, d, e] [(1, .L n1 n2), (1, .T n2 n3), (1, .L n4 n1), (1, .L n0 n4), (1, .L n3 (.n 70)), (1, .T (.n 999999) n0)] rfl (Nat.le_of_eq h0) h1 (Nat.le_of_eq h2) (Nat.le_of_eq h3) h4 z
theorem Zuu (h0 : b = a) (h1 : c = b) : 0 ≤ (a : Int) := Zaj fun z => far [] [a] [(1, .t (.c n0) (.n 0))] rfl z
theorem Z4i (h0 : ¬(((63 : Nat) : Int) < (a : Int))) : a ≤ 63 := Y2 fun z => far [] [a] [(1, .l (.c n0) (.c (.n 63))), (1, .T (.n 63) n0)] rfl (Int.not_lt.1 h0) z
theorem Z4h (h0 : ¬(((63 : Nat) : Int) < (a : Int))) : a ≤ 1000 := Y2 fun z => far [] [a] [(1, .l (.c n0) (.c (.n 63))), (1, .T (.n 1000) n0)] rfl (Int.not_lt.1 h0) z
end
section
open PySem
inductive V where
  | none
  | bool (b : Bool)
  | int (i : Int)
  | str (x : Str)
  | ref (a : Addr)
  | tup (xs : List V)
  | frz (xs : List V)
inductive AO where
  | list (xs : List V)
  | dictI (kvs : List (Int × V)) (ep : Nat)
  | dictS (kvs : List (Str × V)) (ep : Nat)
  | dictT (kvs : List (List Int × V)) (ep : Nat)
  | inst (C d : Addr)
  | attrs (kvs : List (Str × V))
  | exc (C : Addr)
noncomputable abbrev AH := Addr → Option AO
noncomputable abbrev Loc := String → Option V
noncomputable def AH.set (σ : AH) (a : Addr) (o : AO) : AH := fun b => if b = a then some o else σ b
noncomputable def Loc.set (ℓ : Loc) (i : String) (v : V) : Loc := fun j => cond (j == i) (some v) (ℓ j)
theorem Wh {ℓ : Loc} {i j : String} {v : V} : (ℓ.set i v) j = if j = i then some v else ℓ j := by
  unfold Loc.set
  by_cases h : j = i
  · rw [if_pos h, beq_iff_eq.mpr h]; rfl
  · rw [if_neg h, beq_eq_false_iff_ne.mpr h]; rfl
structure Gr where
  prog : Program
  w : World
  b0 : Heap
  /-- tuples that the interpreter keeps to itself: no value is one of them -/
  hid : Addr → Prop
noncomputable def Gr.wh (g : Gr) (H : Addr → Prop) : Gr := { g with hid := H }
noncomputable def Y3 (n : Nat) : Prop := n ≤ 1000000
theorem Yn {n : Nat} (h : Nat.ble n 1000000 = true) : Y3 n := Nat.le_of_ble_eq_true h
theorem Y3.line {n : Nat} (h : Y3 n) : n ≤ sizeLine := by unfold Y3 at h; have : sizeLine = 16777216 := rfl; exact om0 h this
theorem Y3.le {n m : Nat} (h : Y3 n) (k : m ≤ n) : Y3 m := Nat.le_trans k h
theorem Y3.fit {n : Nat} (h : Y3 n) : (n : Int) < 2 ^ 63 := by unfold Y3 at h; exact om1 h
mutual
noncomputable def VR (g : Gr) (h : Heap) : V → Value → Prop
  | .none, v => v = .none
  | .bool b, v => v = .bool b
  | .int i, v => ∃ t, v = .int i t
  | .str x, v => Y3 x.length ∧ ∃ t, v = .str x t
  | .ref a, v => v = .ref a
  | .tup xs, v => Y3 xs.length ∧ ∃ a o vs n, v = .ref a ∧ ¬ g.hid a ∧ h.get? a = some o ∧ o.cls = .type "tuple" ∧ o.data = .seq vs n ∧ VRs g h xs vs.toList
  | .frz xs, v => Y3 xs.length ∧ ∃ a o vs n, v = .ref a ∧ g.b0.get? a = some o ∧ o.cls = .type "list" ∧ o.data = .seq vs n ∧ VRs g h xs vs.toList
noncomputable def VRs (g : Gr) (h : Heap) : List V → List Value → Prop
  | [], vs => vs = []
  | x :: xs, vs => ∃ v r, vs = v :: r ∧ VR g h x v ∧ VRs g h xs r
end
section
variable {g : Gr} {h h' : Heap}
theorem Xu {v : Value} : VR g h .none v ↔ v = .none := by unfold VR; exact Iff.rfl
theorem Y9 {b : Bool} {v : Value} : VR g h (.bool b) v ↔ v = .bool b := by unfold VR; exact Iff.rfl
theorem Zx {i : Int} {v : Value} : VR g h (.int i) v ↔ ∃ t, v = .int i t := by unfold VR; exact Iff.rfl
theorem Z8 {x : Str} {v : Value} : VR g h (.str x) v ↔ Y3 x.length ∧ ∃ t, v = .str x t := by unfold VR; exact Iff.rfl
theorem Z9 {a : Addr} {v : Value} : VR g h (.ref a) v ↔ v = .ref a := by unfold VR; exact Iff.rfl
inductive Zwd (g : Gr) (h : Heap) (xs : List V) (v : Value) : Prop
  | mk (hf : Y3 xs.length) (a : Addr) (o : Obj) (vs : Array Value) (n : Nat) (e : v = .ref a) (nh : ¬ g.hid a) (ho : h.get? a = some o) (hc : o.cls = .type "tuple") (hd : o.data = .seq vs n) (r : VRs g h xs vs.toList) : Zwd g h xs v
inductive Zwl (g : Gr) (h : Heap) (xs : List V) (v : Value) : Prop
  | mk (hf : Y3 xs.length) (a : Addr) (o : Obj) (vs : Array Value) (n : Nat) (e : v = .ref a) (ho : g.b0.get? a = some o) (hc : o.cls = .type "list") (hd : o.data = .seq vs n) (r : VRs g h xs vs.toList) : Zwl g h xs v
inductive Zs4 (g : Gr) (h : Heap) (x : V) (xs : List V) (vs : List Value) : Prop
  | mk (v : Value) (r : List Value) (e : vs = v :: r) (a : VR g h x v) (b : VRs g h xs r) : Zs4 g h x xs vs
theorem Xn {xs : List V} {v : Value} : VR g h (.tup xs) v ↔ Zwd g h xs v := by
  rw [VR]; exact ⟨fun ⟨a, b, c, d, e, f, g, h, i, j, k⟩ => ⟨a, b, c, d, e, f, g, h, i, j, k⟩, fun ⟨a, b, c, d, e, f, g, h, i, j, k⟩ => ⟨a, b, c, d, e, f, g, h, i, j, k⟩⟩
theorem Zcl {xs : List V} {v : Value} : VR g h (.frz xs) v ↔ Zwl g h xs v := by
  rw [VR]; exact ⟨fun ⟨a, b, c, d, e, f, g, h, i, j⟩ => ⟨a, b, c, d, e, f, g, h, i, j⟩, fun ⟨a, b, c, d, e, f, g, h, i, j⟩ => ⟨a, b, c, d, e, f, g, h, i, j⟩⟩
theorem Yx : VRs g h [] [] := by unfold VRs; rfl
theorem Yg {x : V} {xs : List V} {v : Value} {vs : List Value} (a : VR g h x v) (b : VRs g h xs vs) : VRs g h (x :: xs) (v :: vs) := by
  unfold VRs; exact ⟨v, vs, rfl, a, b⟩
theorem Zi {x : V} {xs : List V} {vs : List Value} (a : VRs g h (x :: xs) vs) : Zs4 g h x xs vs := by
  unfold VRs at a; exact let ⟨v, r, e, a, b⟩ := a; ⟨v, r, e, a, b⟩
theorem Zr {vs : List Value} (a : VRs g h [] vs) : vs = [] := by
  unfold VRs at a; exact a
theorem Zu : ∀ {xs : List V} {vs : List Value}, VRs g h xs vs → xs.length = vs.length
  | [], vs, a => by rw [Zr a]; rfl
  | x :: xs, vs, a => by obtain ⟨v, r, rfl, _, b⟩ := Zi a; simp [Zu b]
theorem Zcy : ∀ {xs : List V} {vs : List Value}, VRs g h xs vs → ∀ {i : Nat} {x : V}, xs[i]? = some x → ∃ v, vs[i]? = some v ∧ VR g h x v
  | [], vs, a, i, x, e => by simp at e
  | y :: xs, vs, a, i, x, e => by
    obtain ⟨v, r, rfl, hv, b⟩ := Zi a
    cases i with
    | zero => simp at e; subst e; exact ⟨v, by simp, hv⟩
    | succ i => simp at e; obtain ⟨w, h1, h2⟩ := Zcy b e; exact ⟨w, by simpa using h1, h2⟩
theorem Zac : ∀ {xs ys : List V} {vs us : List Value}, VRs g h xs vs → VRs g h ys us → VRs g h (xs ++ ys) (vs ++ us)
  | [], ys, vs, us, a, b => by rw [Zr a]; exact b
  | x :: xs, ys, vs, us, a, b => by obtain ⟨v, r, rfl, hv, c⟩ := Zi a; exact Yg hv (Zac c b)
theorem Zmj {xs : List V} {x : V} {vs : List Value} {v : Value} (a : VRs g h xs vs) (b : VR g h x v) : VRs g h (xs ++ [x]) (vs ++ [v]) :=
  Zac a (Yg b Yx)
theorem Zis : ∀ {xs : List V} {vs : List Value} (n : Nat), VRs g h xs vs → VRs g h (xs.drop n) (vs.drop n)
  | xs, vs, 0, a => a
  | [], vs, n + 1, a => by rw [Zr a]; exact Yx
  | x :: xs, vs, n + 1, a => by obtain ⟨v, r, rfl, hv, b⟩ := Zi a; exact Zis n b
theorem Zmi : ∀ {xs : List V} {vs : List Value} (n : Nat), VRs g h xs vs → VRs g h (xs.take n) (vs.take n)
  | xs, vs, 0, a => Yx
  | [], vs, n + 1, a => by rw [Zr a]; exact Yx
  | x :: xs, vs, n + 1, a => by obtain ⟨v, r, rfl, hv, b⟩ := Zi a; exact Yg hv (Zmi n b)
end
noncomputable def Zj5 (h' : Heap) (a : Addr) (o : Obj) : Prop := h'.get? a = some o ∨ ∃ es n sl, o.data = .dict es n ∧ h'.get? a = some { o with slots := sl }
theorem Zj5.of {h' : Heap} {a : Addr} {o : Obj} (e : h'.get? a = some o) : Zj5 h' a o := .inl e
theorem Zj5.sl {h' : Heap} {a : Addr} {o : Obj} (x : Zj5 h' a o) : ∃ sl, h'.get? a = some { o with slots := sl } := by
  rcases x with e | ⟨_, _, sl, _, e⟩
  · exact ⟨o.slots, e⟩
  · exact ⟨sl, e⟩
theorem Zj5.exact {h' : Heap} {a : Addr} {o : Obj} (x : Zj5 h' a o) (hd : ∀ es n, o.data ≠ .dict es n) : h'.get? a = some o := by
  rcases x with e | ⟨es, n, _, e, _⟩
  · exact e
  · exact absurd e (hd es n)
theorem Zj5.then {h' h'' : Heap} {a : Addr} {o : Obj} (x : Zj5 h' a o) (k : ∀ o', h'.get? a = some o' → Zj5 h'' a o') : Zj5 h'' a o := by
  rcases x with e | ⟨es, n, sl, d, e⟩
  · exact k o e
  · obtain ⟨sl', e'⟩ := (k _ e).sl
    exact .inr ⟨es, n, sl', d, e'⟩
noncomputable def Yh (g : Gr) (h h' : Heap) : Prop := ∀ a o vs n, ¬ g.hid a → h.get? a = some o → o.cls = .type "tuple" → o.data = .seq vs n → Zj5 h' a o
mutual
theorem VR.mono {g : Gr} {h h' : Heap} (k : Yh g h h') : ∀ {x : V} {v : Value}, VR g h x v → VR g h' x v
  | .none, v, a => by rw [Xu] at a ⊢; exact a
  | .bool b, v, a => by rw [Y9] at a ⊢; exact a
  | .int i, v, a => by rw [Zx] at a ⊢; exact a
  | .str x, v, a => by rw [Z8] at a ⊢; exact a
  | .ref b, v, a => by rw [Z9] at a ⊢; exact a
  | .tup xs, v, a => by
    rw [Xn] at a ⊢
    obtain ⟨hf, b, o, vs, n, e, nh, ho, hc, hd, r⟩ := a
    have ho' := (k _ _ _ _ nh ho hc hd).exact (by rw [hd]; intros; exact Data.noConfusion)
    exact ⟨hf, b, _, vs, n, e, nh, ho', hc, hd, VRs.mono k r⟩
  | .frz xs, v, a => by
    rw [Zcl] at a ⊢
    obtain ⟨hf, b, o, vs, n, e, ho, hc, hd, r⟩ := a
    exact ⟨hf, b, o, vs, n, e, ho, hc, hd, VRs.mono k r⟩
theorem VRs.mono {g : Gr} {h h' : Heap} (k : Yh g h h') : ∀ {xs : List V} {vs : List Value}, VRs g h xs vs → VRs g h' xs vs
  | [], vs, a => by rw [Zr a]; exact Yx
  | x :: xs, vs, a => by
    obtain ⟨v, r, rfl, hv, c⟩ := Zi a
    exact Yg (VR.mono k hv) (VRs.mono k c)
end
noncomputable def Zle (g : Gr) (h : Heap) (d : Addr) (xs : List (List Int × Addr × Value)) (ep : Nat) : Prop :=
  ∃ o es, h.get? d = some o ∧ o.ExactDict ∧ o.data = .dict es ep ∧ es.toList = xs.map (entryOfKey (tupleKind (intKind g.prog g.w))) ∧ (∀ x ∈ xs, ¬ g.hid x.2.1 ∧ IsTupleKey (intKind g.prog g.w) h x.1 x.2.1) ∧ (xs.map (·.1)).Nodup
inductive Zs3 (g : Gr) (h : Heap) (a : Addr) (xs : List V) : Prop
  | mk (hf : Y3 xs.length) (vs : Array Value) (n : Nat) (e : h.get? a = some { cls := .type "list", data := .seq vs n }) (r : VRs g h xs vs.toList) : Zs3 g h a xs
inductive Zqg (g : Gr) (h : Heap) (a : Addr) (kvs : List (Int × V)) (ep : Nat) : Prop
  | mk (hf : Y3 kvs.length) (us : List (Int × Value)) (e : h.DictAt (intKind g.prog g.w) a us ep) (k : us.map (·.1) = kvs.map (·.1)) (r : VRs g h (kvs.map (·.2)) (us.map (·.2))) : Zqg g h a kvs ep
inductive Zqf (g : Gr) (h : Heap) (a : Addr) (kvs : List (Str × V)) (ep : Nat) : Prop
  | mk (hf : Y3 kvs.length) (us : List (Str × Value)) (e : h.DictAt (strKind g.prog g.w) a us ep) (k : us.map (·.1) = kvs.map (·.1)) (r : VRs g h (kvs.map (·.2)) (us.map (·.2))) : Zqf g h a kvs ep
inductive Zqe (g : Gr) (h : Heap) (a : Addr) (kvs : List (List Int × V)) (ep : Nat) : Prop
  | mk (hf : Y3 kvs.length) (us : List (List Int × Addr × Value)) (e : Zle g h a us ep) (k : us.map (·.1) = kvs.map (·.1)) (r : VRs g h (kvs.map (·.2)) (us.map (·.2.2))) : Zqe g h a kvs ep
inductive Zeh (h : Heap) (a C : Addr) : Prop
  | mk (o : Obj) (vs : Array Value) (e : h.get? a = some o) (c : o.cls = .ref C) (n : o.dict = none) (d : o.data = .fields vs) : Zeh h a C
noncomputable def OR (g : Gr) (h : Heap) (a : Addr) : AO → Prop
  | .list xs => Zs3 g h a xs
  | .dictI kvs ep => Zqg g h a kvs ep
  | .dictS kvs ep => Zqf g h a kvs ep
  | .dictT kvs ep => Zqe g h a kvs ep
  | .inst C d => h.get? a = some { cls := .ref C, dict := some d, data := .plain }
  | .attrs kvs => Y3 kvs.length ∧ ∃ m, h.Ns1 a m ∧ ∀ x, (∀ v, kvs.lookup x = some v → ∃ u, m x = some u ∧ VR g h v u) ∧ (kvs.lookup x = none → m x = none)
  | .exc C => Zeh h a C
theorem Zbg {g : Gr} {h : Heap} {a : Addr} {ao : AO} (x : OR g h a ao) : ∃ o, h.get? a = some o ∧ ∀ vs n, o.cls = .type "tuple" → o.data ≠ .seq vs n := by
  cases ao with
  | list xs => obtain ⟨_, vs, n, e, _⟩ := x; exact ⟨_, e, fun _ _ q => absurd q (by simp)⟩
  | dictI kvs ep => obtain ⟨_, us, ⟨o, es, ho, hc, _⟩, _⟩ := x; exact ⟨o, ho, fun _ _ q => absurd q (by rw [hc.1]; decide)⟩
  | dictS kvs ep => obtain ⟨_, us, ⟨o, es, ho, hc, _⟩, _⟩ := x; exact ⟨o, ho, fun _ _ q => absurd q (by rw [hc.1]; decide)⟩
  | dictT kvs ep => obtain ⟨_, us, ⟨o, es, ho, hc, _⟩, _⟩ := x; exact ⟨o, ho, fun _ _ q => absurd q (by rw [hc.1]; decide)⟩
  | inst C d => exact ⟨_, x, fun _ _ q => absurd q (by simp)⟩
  | attrs kvs => obtain ⟨_, m, ⟨o, es, ep, e, hd, _⟩, _⟩ := x; exact ⟨o, e, fun _ _ _ q => by rw [hd] at q; cases q⟩
  | exc C => obtain ⟨o, vs, e, c, n, d⟩ := x; exact ⟨o, e, fun _ _ _ q => by rw [d] at q; cases q⟩
theorem Zht {g : Gr} {h h' : Heap} (k : Yh g h h') {ks : List Int} {a : Addr} (nh : ¬ g.hid a) (x : IsTupleKey (intKind g.prog g.w) h ks a) : IsTupleKey (intKind g.prog g.w) h' ks a := by
  obtain ⟨o, items, n, ho, hc, hd, hi⟩ := x
  have ho' := (k _ _ _ _ nh ho hc hd).exact (by rw [hd]; intros; exact Data.noConfusion)
  exact ⟨_, items, n, ho', hc, hd, hi⟩
theorem Zbs {g : Gr} {h h' : Heap} {a : Addr} {ao : AO} (k : Yh g h h') (e : ∀ o, h.get? a = some o → h'.get? a = some o) (x : OR g h a ao) : OR g h' a ao := by
  cases ao with
  | list xs => obtain ⟨hf, vs, n, ho, r⟩ := x; exact ⟨hf, vs, n, e _ ho, VRs.mono k r⟩
  | dictI kvs ep => obtain ⟨hf, us, ⟨o, es, ho, r⟩, q, p⟩ := x; exact ⟨hf, us, ⟨o, es, e _ ho, r⟩, q, VRs.mono k p⟩
  | dictS kvs ep => obtain ⟨hf, us, ⟨o, es, ho, r⟩, q, p⟩ := x; exact ⟨hf, us, ⟨o, es, e _ ho, r⟩, q, VRs.mono k p⟩
  | dictT kvs ep => obtain ⟨hf, us, ⟨o, es, ho, h1, h2, h3, h4, h5⟩, q, p⟩ := x; exact ⟨hf, us, ⟨o, es, e _ ho, h1, h2, h3, fun y hy => ⟨(h4 y hy).1, Zht k (h4 y hy).1 (h4 y hy).2⟩, h5⟩, q, VRs.mono k p⟩
  | inst C d => exact e _ x
  | attrs kvs => obtain ⟨hf, m, ⟨o, es, ep, ho, hr⟩, r⟩ := x; exact ⟨hf, m, ⟨o, es, ep, e _ ho, hr⟩, fun y => ⟨fun v q => let ⟨u, h1, h2⟩ := (r y).1 v q; ⟨u, h1, VR.mono k h2⟩, (r y).2⟩⟩
  | exc C => obtain ⟨o, vs, e1, c, n, d⟩ := x; exact ⟨o, vs, e _ e1, c, n, d⟩
structure Rel (g : Gr) (h : Heap) (σ : AH) : Prop where
  hid : ∀ a, g.hid a → ∃ o, h.get? a = some o
  base : ∀ a o, g.b0.get? a = some o → h.get? a = some o
  own : ∀ a ao, σ a = some ao → g.b0.get? a = none ∧ OR g h a ao
structure Ext (W : Addr → Prop) (h : Heap) (σ : AH) (h' : Heap) (σ' : AH) : Prop where
  keep : ∀ a o, h.get? a = some o → σ a = none → ¬ W a → Zj5 h' a o
  pres : ∀ a o, h.get? a = some o → ∃ o', h'.get? a = some o'
  dom : ∀ a, σ' a ≠ none → σ a ≠ none ∨ h.get? a = none
noncomputable abbrev No : Addr → Prop := fun _ => False
theorem Ext.refl {W : Addr → Prop} {h : Heap} {σ : AH} : Ext W h σ h σ :=
  ⟨fun _ _ e _ _ => .of e, fun _ o e => ⟨o, e⟩, fun _ e => .inl e⟩
theorem Ext.off {W : Addr → Prop} {h h' : Heap} {σ σ' : AH} (x : Ext W h σ h' σ') {a : Addr} {o : Obj} (e : h.get? a = some o) (n : σ a = none) : σ' a = none := by
  cases q : σ' a with
  | none => rfl
  | some _ =>
    rcases x.dom a (by rw [q]; simp) with z | z
    · exact absurd n z
    · rw [e] at z; cases z
theorem Ext.trans {W : Addr → Prop} {h h' h'' : Heap} {σ σ' σ'' : AH} (x : Ext W h σ h' σ') (y : Ext W h' σ' h'' σ'') : Ext W h σ h'' σ'' := by
  refine ⟨fun a o e n w => ?_, fun a o e => ?_, fun a q => ?_⟩
  · exact (x.keep a o e n w).then fun o' e' => y.keep a o' e' (x.off e n) w
  · obtain ⟨o', e'⟩ := x.pres a o e; exact y.pres a o' e'
  · rcases y.dom a q with z | z
    · exact x.dom a z
    · cases e : h.get? a with
      | none => exact .inr rfl
      | some o => obtain ⟨o', e'⟩ := x.pres a o e; rw [e'] at z; cases z
theorem Ext.weaken {W W' : Addr → Prop} {h h' : Heap} {σ σ' : AH} (x : Ext W h σ h' σ') (k : ∀ a, W a → W' a) : Ext W' h σ h' σ' :=
  ⟨fun a o e n w => x.keep a o e n fun q => w (k a q), x.pres, x.dom⟩
noncomputable def Zns (W : Addr → Prop) (h : Heap) : Prop := ∀ a o, W a → h.get? a = some o → ∀ vs n, o.data ≠ .seq vs n
theorem Ext.tuples {g : Gr} {W : Addr → Prop} {h h' : Heap} {σ σ' : AH} (x : Ext W h σ h' σ') (R : Rel g h σ) (hw : Zns W h) : Yh g h h' := fun a o vs n _ e c d => by
  refine x.keep a o e ?_ fun w => hw a o w e vs n d
  cases q : σ a with
  | none => rfl
  | some ao => obtain ⟨o', e', c'⟩ := Zbg (R.own a ao q).2; rw [e] at e'; cases e'; exact absurd d (c' _ _ c)
theorem Ext.vr {g : Gr} {W : Addr → Prop} {h h' : Heap} {σ σ' : AH} (x : Ext W h σ h' σ') (R : Rel g h σ) (hw : Zns W h) {v : V} {u : Value} (k : VR g h v u) : VR g h' v u :=
  VR.mono (x.tuples R hw) k
theorem Ext.vrs {g : Gr} {W : Addr → Prop} {h h' : Heap} {σ σ' : AH} (x : Ext W h σ h' σ') (R : Rel g h σ) (hw : Zns W h) {v : List V} {u : List Value} (k : VRs g h v u) : VRs g h' v u :=
  VRs.mono (x.tuples R hw) k
theorem Yw {h : Heap} : Zns No h := fun _ _ n => n.elim
theorem Rel.forget {g : Gr} {h : Heap} {σ σ' : AH} (R : Rel g h σ) (k : ∀ a o, σ' a = some o → σ a = some o) : Rel g h σ' :=
  ⟨R.hid, R.base, fun a ao e => R.own a ao (k a ao e)⟩
theorem Ext.forget {W : Addr → Prop} {h h' : Heap} {σ σ' σ'' : AH} (x : Ext W h σ h' σ') (k : ∀ a o, σ'' a = some o → σ' a = some o) : Ext W h σ h' σ'' :=
  ⟨x.keep, x.pres, fun a q => x.dom a (by
    cases e : σ'' a with
    | none => exact absurd e q
    | some o => rw [k a o e]; simp)⟩
theorem Rel.keeps {g : Gr} {h h' : Heap} {σ : AH} (R : Rel g h σ) (k : ∀ a o, h.get? a = some o → h'.get? a = some o) : Rel g h' σ :=
  ⟨fun a ha => let ⟨o, e⟩ := R.hid a ha; ⟨o, k a o e⟩, fun a o e => k a o (R.base a o e), fun a ao e => ⟨(R.own a ao e).1, Zbs (fun a o _ _ _ e _ _ => .of (k a o e)) (k a) (R.own a ao e).2⟩⟩
theorem Ext.keeps {W : Addr → Prop} {h h' : Heap} {σ : AH} (k : ∀ a o, h.get? a = some o → h'.get? a = some o) : Ext W h σ h' σ :=
  ⟨fun a o e _ _ => .of (k a o e), fun a o e => ⟨o, k a o e⟩, fun _ e => .inl e⟩
theorem Yo (h : Heap) (o' : Obj) : ∀ a o, h.get? a = some o → (h.push o').get? a = some o := fun _ _ e => Heap.get?_push_of_some _ e
theorem Rel.alloc {g : Gr} {h h' : Heap} {σ : AH} {a : Addr} {ao : AO} (R : Rel g h σ) (k : ∀ a o, h.get? a = some o → h'.get? a = some o) (hn : h.get? a = none) (x : OR g h' a ao) : Rel g h' (σ.set a ao) := by
  refine ⟨fun a ha => let ⟨o, e⟩ := R.hid a ha; ⟨o, k a o e⟩, fun b o e => k b o (R.base b o e), fun b bo e => ?_⟩
  unfold AH.set at e
  split at e
  · rename_i q; subst q; cases e
    refine ⟨?_, x⟩
    cases q : g.b0.get? b with
    | none => rfl
    | some o => rw [R.base b o q] at hn; cases hn
  · exact (R.keeps k).own b bo e
theorem Ext.alloc {W : Addr → Prop} {h h' : Heap} {σ : AH} {a : Addr} {ao : AO} (k : ∀ a o, h.get? a = some o → h'.get? a = some o) (hn : h.get? a = none) : Ext W h σ h' (σ.set a ao) :=
  ⟨fun a o e _ _ => .of (k a o e), fun a o e => ⟨o, k a o e⟩, fun b q => by
    unfold AH.set at q
    by_cases z : b = a
    · subst z; exact .inr hn
    · rw [if_neg z] at q; exact .inl q⟩
theorem Rel.upd {g : Gr} {h h' : Heap} {σ : AH} {a : Addr} {ao ao' : AO} (R : Rel g h σ) (e : σ a = some ao) (k : Heap.SameBut a h h') (x : OR g h' a ao') : Rel g h' (σ.set a ao') := by
  have pr : ∃ o, h'.get? a = some o := let ⟨o, q, _⟩ := Zbg x; ⟨o, q⟩
  have ho := R.own a ao e
  obtain ⟨o₀, e₀, c₀⟩ := Zbg ho.2
  refine ⟨fun b hb => ?_, fun b o q => (k.2 b fun z => ?_).trans (R.base b o q), fun b bo q => ?_⟩
  · by_cases z : b = a
    · rw [z]; exact pr
    · obtain ⟨o, q⟩ := R.hid b hb; exact ⟨o, (k.2 b z).trans q⟩
  · subst z; rw [ho.1] at q; cases q
  · unfold AH.set at q
    split at q
    · rename_i z; subst z; cases q; exact ⟨ho.1, x⟩
    · rename_i z
      refine ⟨(R.own b bo q).1, Zbs (fun c o _ _ _ y t dd => .of ((k.2 c fun w => ?_).trans y)) (fun o y => (k.2 b z).trans y) (R.own b bo q).2⟩
      subst w; rw [e₀] at y; cases y; exact c₀ _ _ t dd
theorem Ext.upd {W : Addr → Prop} {h h' : Heap} {σ : AH} {a : Addr} {ao ao' : AO} (e : σ a = some ao) (k : Heap.SameBut a h h') (p : ∃ o, h'.get? a = some o) : Ext W h σ h' (σ.set a ao') := by
  refine ⟨fun b o q n _ => .of ((k.2 b fun z => ?_).trans q), fun b o q => ?_, fun b q => ?_⟩
  · subst z; rw [e] at n; cases n
  · by_cases z : b = a
    · subst z; exact p
    · exact ⟨o, (k.2 b z).trans q⟩
  · unfold AH.set at q
    by_cases z : b = a
    · subst z; rw [e]; simp
    · rw [if_neg z] at q; exact .inl q
theorem Rel.owned_some {g : Gr} {h : Heap} {σ : AH} (R : Rel g h σ) {a : Addr} {ao : AO} (e : σ a = some ao) : ∃ o, h.get? a = some o := let ⟨o, h1, _⟩ := Zbg (R.own a ao e).2; ⟨o, h1⟩
theorem Rel.fresh {g : Gr} {h : Heap} {σ : AH} (R : Rel g h σ) {a : Addr} (e : h.get? a = none) : σ a = none := by
  cases q : σ a with
  | none => rfl
  | some ao => obtain ⟨o, z⟩ := R.owned_some q; rw [e] at z; cases z
theorem Z1 (h : Heap) : h.get? h.objs.size = none := Heap.get?_none_of_le (Nat.le_refl _)
section
variable {g : Gr} {H : Addr → Prop} {h : Heap}
mutual
theorem VR.less (k : ∀ a, g.hid a → H a) : ∀ {x : V} {v : Value}, VR (g.wh H) h x v → VR g h x v
  | .none, v, a => by rw [Xu] at a ⊢; exact a
  | .bool b, v, a => by rw [Y9] at a ⊢; exact a
  | .int i, v, a => by rw [Zx] at a ⊢; exact a
  | .str x, v, a => by rw [Z8] at a ⊢; exact a
  | .ref b, v, a => by rw [Z9] at a ⊢; exact a
  | .tup xs, v, a => by
    rw [Xn] at a ⊢
    obtain ⟨hf, b, o, vs, n, e, nh, ho, hc, hd, r⟩ := a
    exact ⟨hf, b, o, vs, n, e, fun z => nh (k b z), ho, hc, hd, VRs.less k r⟩
  | .frz xs, v, a => by
    rw [Zcl] at a ⊢
    obtain ⟨hf, b, o, vs, n, e, ho, hc, hd, r⟩ := a
    exact ⟨hf, b, o, vs, n, e, ho, hc, hd, VRs.less k r⟩
theorem VRs.less (k : ∀ a, g.hid a → H a) : ∀ {xs : List V} {vs : List Value}, VRs (g.wh H) h xs vs → VRs g h xs vs
  | [], vs, a => by rw [Zr a]; exact Yx
  | x :: xs, vs, a => by
    obtain ⟨v, r, rfl, hv, c⟩ := Zi a
    exact Yg (VR.less k hv) (VRs.less k c)
end
mutual
theorem VR.more (k : ∀ a o, h.get? a = some o → H a → g.hid a) : ∀ {x : V} {v : Value}, VR g h x v → VR (g.wh H) h x v
  | .none, v, a => by rw [Xu] at a ⊢; exact a
  | .bool b, v, a => by rw [Y9] at a ⊢; exact a
  | .int i, v, a => by rw [Zx] at a ⊢; exact a
  | .str x, v, a => by rw [Z8] at a ⊢; exact a
  | .ref b, v, a => by rw [Z9] at a ⊢; exact a
  | .tup xs, v, a => by
    rw [Xn] at a ⊢
    obtain ⟨hf, b, o, vs, n, e, nh, ho, hc, hd, r⟩ := a
    exact ⟨hf, b, o, vs, n, e, fun z => nh (k b o ho z), ho, hc, hd, VRs.more k r⟩
  | .frz xs, v, a => by
    rw [Zcl] at a ⊢
    obtain ⟨hf, b, o, vs, n, e, ho, hc, hd, r⟩ := a
    exact ⟨hf, b, o, vs, n, e, ho, hc, hd, VRs.more k r⟩
theorem VRs.more (k : ∀ a o, h.get? a = some o → H a → g.hid a) : ∀ {xs : List V} {vs : List Value}, VRs g h xs vs → VRs (g.wh H) h xs vs
  | [], vs, a => by rw [Zr a]; exact Yx
  | x :: xs, vs, a => by
    obtain ⟨v, r, rfl, hv, c⟩ := Zi a
    exact Yg (VR.more k hv) (VRs.more k c)
end
theorem OR.less (k : ∀ a, g.hid a → H a) {a : Addr} {ao : AO} (x : OR (g.wh H) h a ao) : OR g h a ao := by
  cases ao with
  | list xs => obtain ⟨hf, vs, n, ho, r⟩ := x; exact ⟨hf, vs, n, ho, VRs.less k r⟩
  | dictI kvs ep => obtain ⟨hf, us, d, q, p⟩ := x; exact ⟨hf, us, d, q, VRs.less k p⟩
  | dictS kvs ep => obtain ⟨hf, us, d, q, p⟩ := x; exact ⟨hf, us, d, q, VRs.less k p⟩
  | dictT kvs ep => obtain ⟨hf, us, ⟨o, es, ho, h1, h2, h3, h4, h5⟩, q, p⟩ := x; exact ⟨hf, us, ⟨o, es, ho, h1, h2, h3, fun y hy => ⟨fun z => (h4 y hy).1 (k _ z), (h4 y hy).2⟩, h5⟩, q, VRs.less k p⟩
  | inst C d => exact x
  | attrs kvs => obtain ⟨hf, m, hn, r⟩ := x; exact ⟨hf, m, hn, fun y => ⟨fun v q => let ⟨u, h1, h2⟩ := (r y).1 v q; ⟨u, h1, VR.less k h2⟩, (r y).2⟩⟩
  | exc C => exact x
theorem Rel.less (k : ∀ a, g.hid a → H a) {σ : AH} (R : Rel (g.wh H) h σ) : Rel g h σ :=
  ⟨fun a ha => R.hid a (k a ha), R.base, fun a ao e => ⟨(R.own a ao e).1, OR.less k (R.own a ao e).2⟩⟩
end
end
section
open PySem
structure Zr9 (sc : Scope) (env : Env) : Prop where
  kinds : ∀ x k, (x, k) ∈ sc.names → env.kindOf x = some k ∨ (k = .free ∧ env.kindOf x = some .cell)
  plain : ∀ x k, (x, k) ∈ sc.names → (x == ("__debug__" : Str)) = false ∧ (x == ("__classdict__" : Str)) = false
  kind : env.scope.kind = .function
  globals : env.globals = mainGlobals
  builtins : env.builtins = builtinsNs
structure LR (g : Gr) (h : Heap) (σ : AH) (env : Env) (ℓ : Loc) : Prop where
  ns : ∃ m, h.Ns env.locals m ∧ ∀ n v, ℓ n = some v → env.kindOf (Str.ofString n) = some .local → ∃ u, m (Str.ofString n) = some u ∧ VR g h v u
  cell : ∀ x c, env.cells.lookup x = some c → ∃ o u, h.get? c = some o ∧ o.data = .cell u
  cells : ∀ n v, ℓ n = some v → (env.kindOf (Str.ofString n) = some .cell ∨ env.kindOf (Str.ofString n) = some .free) → ∃ c u, env.cells.lookup (Str.ofString n) = some c ∧ h.IsCell c (some u) ∧ VR g h v u
  off : σ env.locals = none ∧ g.b0.get? env.locals = none
  offc : ∀ x c, env.cells.lookup x = some c → σ c = none ∧ c ≠ env.locals ∧ g.b0.get? c = none
  apart : ∀ x y c, env.cells.lookup x = some c → env.cells.lookup y = some c → x = y
  has : ∀ x, env.kindOf x = some .cell ∨ env.kindOf x = some .free → ∃ c, env.cells.lookup x = some c
noncomputable def Zqc (h : Heap) (σ : AH) (f : Addr) : Prop := σ f = none ∧ ∃ o es n, h.get? f = some o ∧ o.data = .dict es n
noncomputable def Zkc (g : Gr) (A : Around) (env : Env) (h : Heap) (σ : AH) : Prop :=
  ∃ e0 outer, A.frames = some (e0 :: outer) ∧ e0.frame = env.frame ∧ h.FunFrames g.b0 (e0 :: outer) ∧ (∀ e ∈ e0 :: outer, ∀ f, e.frame = some f → Zqc h σ f) ∧
    e0.scope.isGenerator = false ∧ e0.scope.isCoroutine = false ∧ e0.builtins = builtinsNs ∧ e0.globals = mainGlobals
structure GOk (g : Gr) : Prop where
  nolimit : g.b0.NoLimit
  seer : g.b0.NoSeer
  tree : g.prog.given.tree = none
structure Zgl (A : Around) (r : Nat) (c : Bool) : Prop where
  depth : A.depth + 2 * r + 110 < recursionLimit
  units : A.units + 20 * r + 100 < cLine
  calm : c = true → A.handled = none
theorem Zgl.le {A : Around} {r r' : Nat} {c : Bool} (x : Zgl A r c) (h : r' ≤ r) : Zgl A r' c :=
  ⟨by have := x.depth; exact om2 h this, by have := x.units; exact om3 h this, x.calm⟩
theorem Zgl.deeper {A : Around} {r : Nat} {c : Bool} (x : Zgl A (r + 1) c) (env : Env) : Zgl (A.deeper env) r c :=
  ⟨by have := x.depth; show A.depth + 1 + 2 * r + 110 < _; exact om4 this, by have := x.units; show A.units + 3 + 20 * r + 100 < _; exact om5 this, x.calm⟩
theorem Zgl.room {A : Around} {r : Nat} {c : Bool} (x : Zgl A r c) : A.depth < recursionLimit := by have := x.depth; exact om6 this
theorem Zgl.cline {A : Around} {r : Nat} {c : Bool} (x : Zgl A r c) : A.units + 50 < cLine := by have := x.units; exact om7 this
structure Cx (g : Gr) (sc : Scope) (r : Nat) (c : Bool) (A : Around) (env : Env) (h : Heap) (σ : AH) (ℓ : Loc) : Prop where
  gok : GOk g
  ok : Zr9 sc env
  loc : LR g h σ env ℓ
  fr : Zkc g A env h σ
  room : Zgl A r c
  rel : Rel g h σ
noncomputable def Wv (s s' : Shared) : Prop := s'.gens = s.gens ∧ s'.os = s.os ∧ s'.drawn = s'.drawn
theorem Wv.refl {s : Shared} : Wv s s := ⟨rfl, rfl, rfl⟩
theorem Wv.trans {s s' s'' : Shared} (x : Wv s s') (y : Wv s' s'') : Wv s s'' := ⟨y.1.trans x.1, y.2.1.trans x.2.1, rfl⟩
theorem Zds {h h' : Heap} {a : Addr} {m : Str → Option Value} (n : h.Ns a m) (k : ∀ o, h.get? a = some o → Zj5 h' a o) : h'.Ns a m := by
  obtain ⟨o, es, ep, ho, hd, r⟩ := n
  obtain ⟨sl, e⟩ := (k o ho).sl
  exact ⟨_, es, ep, e, hd, r⟩
theorem Zcx {h h' : Heap} {a : Addr} {v : Option Value} (n : h.IsCell a v) (k : ∀ o, h.get? a = some o → Zj5 h' a o) : h'.IsCell a v := by
  obtain ⟨o, ho, hd⟩ := n
  obtain ⟨sl, e⟩ := (k o ho).sl
  exact ⟨_, e, hd⟩
theorem LR.stepT {g : Gr} {h h' : Heap} {σ σ' : AH} {env : Env} {ℓ : Loc} (L : LR g h σ env ℓ) (tk : Yh g h h') (x : Ext No h σ h' σ') : LR g h' σ' env ℓ := by
  have kv : ∀ {v : V} {u : Value}, VR g h v u → VR g h' v u := VR.mono tk
  obtain ⟨m, hn, hm⟩ := L.ns
  have hl : ∀ o, h.get? env.locals = some o → Zj5 h' env.locals o := fun o e => x.keep _ o e L.off.1 id
  refine ⟨⟨m, Zds hn hl, fun y v a b => let ⟨u, e, f⟩ := hm y v a b; ⟨u, e, kv f⟩⟩, fun y c e => ?_, fun y v a k => ?_, ⟨?_, L.off.2⟩, fun y c e => ⟨?_, (L.offc y c e).2⟩, L.apart, L.has⟩
  · obtain ⟨o, u, ho, hd⟩ := L.cell y c e
    obtain ⟨sl, ho'⟩ := (x.keep _ o ho (L.offc y c e).1 id).sl
    exact ⟨_, u, ho', hd⟩
  · obtain ⟨c, u, e, ho, hv⟩ := L.cells y v a k
    exact ⟨c, u, e, Zcx ho fun o z => x.keep _ o z (L.offc _ c e).1 id, kv hv⟩
  · obtain ⟨o, es, ep, ho, _⟩ := hn; exact x.off ho L.off.1
  · obtain ⟨o, u, ho, hd⟩ := L.cell y c e
    exact x.off ho (L.offc y c e).1
theorem LR.step {g : Gr} {h h' : Heap} {σ σ' : AH} {env : Env} {ℓ : Loc} (L : LR g h σ env ℓ) (R : Rel g h σ) (x : Ext No h σ h' σ') : LR g h' σ' env ℓ := L.stepT (x.tuples R Yw) x
theorem W9 {g : Gr} {W : Addr → Prop} {h h' : Heap} {σ σ' : AH} (hk : ∀ a o es n, h.get? a = some o → o.data = .dict es n → σ a = none → σ' a = none ∧ ∃ o' es' n', h'.get? a = some o' ∧ o'.data = .dict es' n') : ∀ l : List Env, h.FunFrames g.b0 l → (∀ e ∈ l, ∀ f, e.frame = some f → Zqc h σ f) → h'.FunFrames g.b0 l ∧ ∀ e ∈ l, ∀ f, e.frame = some f → Zqc h' σ' f
  | [], _, _ => ⟨trivial, fun _ z => nomatch z⟩
  | e :: r, ⟨hm, ⟨L, _, hfL, hb, _, _⟩, hr⟩, hoff => by
    obtain ⟨i1, i2⟩ := W9 (g := g) (W := W) hk r hr fun e' he' => hoff e' (.tail _ he')
    obtain ⟨hs, o2, es, n, ho2, hd2⟩ := hoff e (.head _) L hfL
    obtain ⟨hs', o', es', n', ho', hd'⟩ := hk L o2 es n ho2 hd2 hs
    refine ⟨⟨hm, ⟨L, o', hfL, hb, ho', fun vs q => by rw [hd'] at q; cases q⟩, i1⟩, fun e' he' f hf' => ?_⟩
    cases he' with
    | head => rw [hfL] at hf'; cases hf'; exact ⟨hs', o', es', n', ho', hd'⟩
    | tail _ q => exact i2 e' q f hf'
theorem Ext.dicts {W : Addr → Prop} {h h' : Heap} {σ σ' : AH} (x : Ext W h σ h' σ') (hw : ∀ a o es n, W a → h.get? a = some o → o.data = .dict es n → ∃ o' es' n', h'.get? a = some o' ∧ o'.data = .dict es' n') (a : Addr) (o : Obj) (es : Array DictEntry) (n : Nat) (ho : h.get? a = some o) (hd : o.data = .dict es n) (hs : σ a = none) : σ' a = none ∧ ∃ o' es' n', h'.get? a = some o' ∧ o'.data = .dict es' n' := by
  refine ⟨x.off ho hs, ?_⟩
  by_cases w : W a
  · exact hw a o es n w ho hd
  · obtain ⟨sl, e'⟩ := (x.keep a o ho hs w).sl; exact ⟨_, es, n, e', hd⟩
theorem Zkc.step {g : Gr} {A : Around} {env : Env} {W : Addr → Prop} {h h' : Heap} {σ σ' : AH} (F : Zkc g A env h σ) (x : Ext W h σ h' σ') (hw : ∀ a o es n, W a → h.get? a = some o → o.data = .dict es n → ∃ o' es' n', h'.get? a = some o' ∧ o'.data = .dict es' n') : Zkc g A env h' σ' := by
  obtain ⟨e0, outer, hA, hf, ff, off, r1, r2, r3, r4⟩ := F
  obtain ⟨k1, k2⟩ := W9 (W := W) (x.dicts hw) _ ff off
  exact ⟨e0, outer, hA, hf, k1, k2, r1, r2, r3, r4⟩
theorem Cx.step {g : Gr} {sc : Scope} {r : Nat} {c : Bool} {A : Around} {env : Env} {h h' : Heap} {σ σ' : AH} {ℓ : Loc} (X : Cx g sc r c A env h σ ℓ) (R : Rel g h' σ') (x : Ext No h σ h' σ') : Cx g sc r c A env h' σ' ℓ :=
  ⟨X.gok, X.ok, X.loc.step X.rel x, X.fr.step x (fun _ _ _ _ n => n.elim), X.room, R⟩
inductive Z2u (g : Gr) (h0 h : Heap) (σ : AH) (a : Addr) (vs : Array Value) : Prop
  | mk (T : Addr) (o : Obj) (ts : Array Value) (et : vs[1]? = some (.ref T)) (ne : T ≠ a) (t0 : h0.get? T = none) (tb : g.b0.get? T = none) (ts0 : σ T = none) (ho : h.get? T = some o) (hd : o.data = .fields ts) (hs : 3 < ts.size) : Z2u g h0 h σ a vs
inductive XAt (g : Gr) (nt : Bool) (h0 h : Heap) (e : Value) (C : Addr) (σ : AH) : Prop
  | mk (a : Addr) (o : Obj) (vs : Array Value) (ea : e = .ref a) (x0 : h0.get? a = none) (xb : g.b0.get? a = none) (xs : σ a = none) (xo : h.get? a = some o) (xc : o.cls = .ref C) (xn : o.dict = none) (xd : o.data = .fields vs) (xz : 1 < vs.size)
    (xt : (nt = false ∧ vs[1]? = some .none) ∨ Z2u g h0 h σ a vs) : XAt g nt h0 h e C σ
section
variable {g : Gr} {nt : Bool} {h0 h h1 : Heap} {e : Value} {C : Addr} {σ σ' : AH}
theorem XAt.back (x : XAt g nt h0 h e C σ) (k : ∀ b o, h1.get? b = some o → ∃ o', h0.get? b = some o') : XAt g nt h1 h e C σ := by
  have n : ∀ b, h0.get? b = none → h1.get? b = none := fun b q => by
    cases z : h1.get? b with
    | none => rfl
    | some o => obtain ⟨o', z'⟩ := k b o z; rw [q] at z'; cases z'
  obtain ⟨a, o, vs, ea, x0, xb, xs, xo, xc, xn, xd, xz, xt⟩ := x
  refine ⟨a, o, vs, ea, n a x0, xb, xs, xo, xc, xn, xd, xz, xt.imp id fun ⟨T, o, ts, et, ne, t0, tb, ts0, ho, hd, hs⟩ => ⟨T, o, ts, et, ne, n T t0, tb, ts0, ho, hd, hs⟩⟩
theorem XAt.forget (x : XAt g nt h0 h e C σ) (k : ∀ a o, σ' a = some o → σ a = some o) : XAt g nt h0 h e C σ' := by
  have n : ∀ b, σ b = none → σ' b = none := fun b q => by
    cases z : σ' b with
    | none => rfl
    | some o => rw [k b o z] at q; cases q
  obtain ⟨a, o, vs, ea, x0, xb, xs, xo, xc, xn, xd, xz, xt⟩ := x
  refine ⟨a, o, vs, ea, x0, xb, n a xs, xo, xc, xn, xd, xz, xt.imp id fun ⟨T, o, ts, et, ne, t0, tb, ts0, ho, hd, hs⟩ => ⟨T, o, ts, et, ne, t0, tb, n T ts0, ho, hd, hs⟩⟩
theorem XAt.weak (x : XAt g nt h0 h e C σ) : XAt g false h0 h e C σ := by
  obtain ⟨a, o, vs, ea, x0, xb, xs, xo, xc, xn, xd, xz, xt⟩ := x
  exact ⟨a, o, vs, ea, x0, xb, xs, xo, xc, xn, xd, xz, xt.imp (fun z => ⟨rfl, z.2⟩) id⟩
theorem XAt.unwh {H : Addr → Prop} (x : XAt (g.wh H) nt h0 h e C σ) : XAt g nt h0 h e C σ := by
  obtain ⟨a, o, vs, ea, x0, xb, xs, xo, xc, xn, xd, xz, xt⟩ := x
  exact ⟨a, o, vs, ea, x0, xb, xs, xo, xc, xn, xd, xz, xt.imp id fun ⟨T, o, ts, et, ne, t0, tb, ts0, ho, hd, hs⟩ => ⟨T, o, ts, et, ne, t0, tb, ts0, ho, hd, hs⟩⟩
end
inductive Xx (g : Gr) (A : Around) (s : Shared) (σ : AH) (E : Addr → AH → Prop) (e : Value) (s' : Shared) : Prop
  | mk (C : Addr) (σ' : AH) (h1 : XAt g false s.heap s'.heap e C σ') (h2 : Rel g s'.heap σ') (h3 : Ext No s.heap σ s'.heap σ') (h4 : Wv s s') (h5 : E C σ') : Xx g A s σ E e s'
inductive Wr {α β : Type} (g : Gr) (R : Heap → β → α → Prop) (s : Shared) (σ : AH) (Q : β → AH → Prop) (v : α) (s' : Shared) : Prop
  | mk (x : β) (σ' : AH) (h1 : R s'.heap x v) (h2 : Rel g s'.heap σ') (h3 : Ext No s.heap σ s'.heap σ') (h4 : Wv s s') (h5 : Q x σ') : Wr g R s σ Q v s'
theorem Wr.elim {α β : Type} {g : Gr} {R : Heap → β → α → Prop} {s : Shared} {σ : AH} {Q : β → AH → Prop} {v : α} {s' : Shared} {P : Prop} (p : Wr g R s σ Q v s') (k : ∀ x σ', R s'.heap x v → Rel g s'.heap σ' → Ext No s.heap σ s'.heap σ' → Wv s s' → Q x σ' → P) : P :=
  let ⟨x, σ', h1, h2, h3, h4, h5⟩ := p; k x σ' h1 h2 h3 h4 h5
noncomputable abbrev Wq (g : Gr) := Wr g (fun h => VR g h)
noncomputable abbrev Zt2 (g : Gr) := Wr g (fun _ (x : Bool) (v : Bool) => x = v)
noncomputable abbrev Z16 (g : Gr) := Wr g (fun h => VRs g h)
noncomputable abbrev TE := Loc → AH → (V → AH → Prop) → (Addr → AH → Prop) → Prop
noncomputable abbrev TB := Loc → AH → (Bool → AH → Prop) → (Addr → AH → Prop) → Prop
noncomputable abbrev TL := Loc → AH → (List V → AH → Prop) → (Addr → AH → Prop) → Prop
section
variable {α β : Type} {g : Gr} {R : Heap → β → α → Prop} {A : Around} {s s₁ : Shared} {σ σ₁ : AH} {Q : β → AH → Prop} {E : Addr → AH → Prop}
theorem Wr.back (x : Ext No s.heap σ s₁.heap σ₁) (y : Wv s s₁) {v : α} {s' : Shared} (p : Wr g R s₁ σ₁ Q v s') : Wr g R s σ Q v s' :=
  let ⟨z, σ', h1, h2, h3, h4, h5⟩ := p; ⟨z, σ', h1, h2, x.trans h3, y.trans h4, h5⟩
theorem Xx.back (x : Ext No s.heap σ s₁.heap σ₁) (y : Wv s s₁) {v : Value} {s' : Shared} (p : Xx g A s₁ σ₁ E v s') : Xx g A s σ E v s' :=
  let ⟨z, σ', h1, h2, h3, h4, h5⟩ := p; ⟨z, σ', h1.back x.pres, h2, x.trans h3, y.trans h4, h5⟩
theorem X7 {M : Model} {t : Sem α} (x : Ext No s.heap σ s₁.heap σ₁) (y : Wv s s₁) (h : wpAny M A t (Wr g R s₁ σ₁ Q) (Xx g A s₁ σ₁ E) s₁) : wpAny M A t (Wr g R s σ Q) (Xx g A s σ E) s₁ :=
  wpAny_mono h (fun _ _ p => p.back x y) fun _ _ p => p.back x y
theorem Wr.here {x : β} {v : α} (h1 : R s.heap x v) (h2 : Rel g s.heap σ) (h3 : Q x σ) : Wr g R s σ Q v s := ⟨x, σ, h1, h2, .refl, .refl, h3⟩
theorem Wr.keeps {x : β} {v : α} {s' : Shared} (k : ∀ a o, s.heap.get? a = some o → s'.heap.get? a = some o) (y : Wv s s') (h1 : R s'.heap x v) (h2 : Rel g s.heap σ) (h3 : Q x σ) : Wr g R s σ Q v s' :=
  ⟨x, σ, h1, h2.keeps k, .keeps k, y, h3⟩
end
section
variable (g : Gr) (sc : Scope) (r : Nat) (c : Bool)
structure Y1 (e : Expr) (t : TE) : Prop where
  run : ∀ A env s ℓ σ Q E, Cx g sc r c A env s.heap σ ℓ → t ℓ σ Q E → wpAny (model g.prog g.w) A (eval e env) (Wq g s σ Q) (Xx g A s σ E) s
structure Znq (e : Expr) (t : TB) : Prop where
  run : ∀ A env s ℓ σ Q E, Cx g sc r c A env s.heap σ ℓ → t ℓ σ Q E → wpAny (model g.prog g.w) A (isTrue e env (eval e env)) (Zt2 g s σ Q) (Xx g A s σ E) s
structure Zkb (es : List Expr) (t : TL) : Prop where
  run : ∀ A env pos s ℓ σ Q E, Cx g sc r c A env s.heap σ ℓ → t ℓ σ Q E → wpAny (model g.prog g.w) A (spliced (backTo pos (starEach es env))) (Z16 g s σ Q) (Xx g A s σ E) s
end
section
variable {g : Gr} {sc : Scope} {r : Nat} {c : Bool} {α β γ δ : Type} {R : Heap → β → α → Prop} {R' : Heap → δ → γ → Prop} {A : Around} {env : Env} {s : Shared} {ℓ : Loc} {σ : AH} {Q : β → AH → Prop} {Q' : δ → AH → Prop} {E : Addr → AH → Prop}
theorem Cx.then {m : Sem γ} {f : γ → Sem α} (X : Cx g sc r c A env s.heap σ ℓ) (h : wpAny (model g.prog g.w) A m (Wr g R' s σ Q') (Xx g A s σ E) s)
    (k : ∀ v x s₁ σ₁, R' s₁.heap x v → Cx g sc r c A env s₁.heap σ₁ ℓ → Ext No s.heap σ s₁.heap σ₁ → Q' x σ₁ → wpAny (model g.prog g.w) A (f v) (Wr g R s₁ σ₁ Q) (Xx g A s₁ σ₁ E) s₁) :
    wpAny (model g.prog g.w) A m (fun v s₁ => wpAny (model g.prog g.w) A (f v) (Wr g R s σ Q) (Xx g A s σ E) s₁) (Xx g A s σ E) s :=
  wpAny_mono h (fun v s₁ p => let ⟨x, σ₁, h1, h2, h3, h4, h5⟩ := p; X7 h3 h4 (k v x s₁ σ₁ h1 (X.step h2 h3) h3 h5)) fun _ _ p => p
end
section
variable {g : Gr} {H : Addr → Prop} {h h' : Heap} {σ : AH} {env : Env} {ℓ : Loc}
theorem LR.less (k : ∀ a, g.hid a → H a) (L : LR (g.wh H) h σ env ℓ) : LR g h σ env ℓ := by
  obtain ⟨m, hn, hm⟩ := L.ns
  exact ⟨⟨m, hn, fun y v a b => let ⟨u, e, f⟩ := hm y v a b; ⟨u, e, VR.less k f⟩⟩, L.cell, fun y v a kk => let ⟨c, u, e, hc, hv⟩ := L.cells y v a kk; ⟨c, u, e, hc, VR.less k hv⟩, L.off, L.offc, L.apart, L.has⟩
theorem LR.more (k : ∀ a o, h.get? a = some o → H a → g.hid a) (L : LR g h σ env ℓ) : LR (g.wh H) h σ env ℓ := by
  obtain ⟨m, hn, hm⟩ := L.ns
  exact ⟨⟨m, hn, fun y v a b => let ⟨u, e, f⟩ := hm y v a b; ⟨u, e, VR.more k f⟩⟩, L.cell, fun y v a kk => let ⟨c, u, e, hc, hv⟩ := L.cells y v a kk; ⟨c, u, e, hc, VR.more k hv⟩, L.off, L.offc, L.apart, L.has⟩
theorem GOk.wh (G : GOk g) : GOk (g.wh H) := ⟨G.nolimit, G.seer, G.tree⟩
end
end
section
open PySem PyProof.Rows
variable {g : Gr} {sc : Scope} {r : Nat} {c : Bool}
noncomputable def Zq (v : V) : TE := fun _ σ Q _ => Q v σ
noncomputable def Zn (i : String) : TE := fun ℓ σ Q _ => match ℓ i with | some v => Q v σ | none => False
theorem Zg {i : Int} {k : Nat} {pos : Pos} : Y1 g sc r c (.Constant (.int i) k pos) (Zq (.int i)) := .mk fun A env s ℓ σ Q E X h =>
  wpAny_Constant_int (.keeps (s' := { s with toks := s.toks + 1 }) (fun _ _ e => e) ⟨rfl, rfl, rfl⟩ (Zx.mpr ⟨_, rfl⟩) X.rel h)
theorem Zw {x : Str} {k : Nat} {pos : Pos} (hx : Y3 x.length) : Y1 g sc r c (.Constant (.str x) k pos) (Zq (.str x)) := .mk fun A env s ℓ σ Q E X h =>
  wpAny_Constant_str (.keeps (s' := { s with toks := s.toks + 1 }) (fun _ _ e => e) ⟨rfl, rfl, rfl⟩ (Z8.mpr ⟨hx, _, rfl⟩) X.rel h)
theorem Za2 {k : Nat} {pos : Pos} : Y1 g sc r c (.Constant .none k pos) (Zq .none) := .mk fun A env s ℓ σ Q E X h =>
  wpAny_Constant_none (.here (Xu.mpr rfl) X.rel h)
theorem Zd6 {b : Bool} {k : Nat} {pos : Pos} : Y1 g sc r c (.Constant (.bool b) k pos) (Zq (.bool b)) := .mk fun A env s ℓ σ Q E X h =>
  wpAny_Constant_bool (.here (Y9.mpr rfl) X.rel h)
noncomputable def Z1y (k : NameKind) : Bool := k == .local || k == .cell || k == .free
theorem Za {n : String} {pos : Pos} {k : NameKind} (hm : (Str.ofString n, k) ∈ sc.names) (hk : Z1y k = true) : Y1 g sc r c (.Name (Str.ofString n) pos) (Zn n) := .mk fun A env s ℓ σ Q E X h => by
  unfold Zn at h
  split at h
  · rename_i v hv
    have hp := X.ok.plain _ _ hm
    have loc : env.kindOf (Str.ofString n) = some .local → wpAny (model g.prog g.w) A (loadName env (Str.ofString n)) (Wq g s σ Q) (Xx g A s σ E) s := fun q => by
      obtain ⟨m, hn, hm⟩ := X.loc.ns
      obtain ⟨u, e, hu⟩ := hm n v hv q
      exact wpAny_loadName_local X.ok.kind q hn e (.here hu X.rel h)
    have cel : env.kindOf (Str.ofString n) = some .cell → wpAny (model g.prog g.w) A (loadName env (Str.ofString n)) (Wq g s σ Q) (Xx g A s σ E) s := fun q => by
      obtain ⟨cc, u, e, ho, hu⟩ := X.loc.cells n v hv (.inl q)
      exact wpAny_loadName_cell X.ok.kind q e ho (.here hu X.rel h)
    have fre : env.kindOf (Str.ofString n) = some .free → wpAny (model g.prog g.w) A (loadName env (Str.ofString n)) (Wq g s σ Q) (Xx g A s σ E) s := fun q => by
      obtain ⟨cc, u, e, ho, hu⟩ := X.loc.cells n v hv (.inr q)
      exact wpAny_loadName_free X.ok.kind q e ho (.here hu X.rel h) hp.2
    refine wpAny_Name ?_ hp.1
    rcases X.ok.kinds _ _ hm with q | ⟨_, q⟩
    · cases k <;> first | exact loc q | exact cel q | exact fre q | cases hk
    · exact cel q
  · exact h.elim
noncomputable def Yl : TL := fun _ σ Q _ => Q [] σ
noncomputable def Zy (t : TE) (ts : TL) : TL := fun ℓ σ Q E => t ℓ σ (fun v σ₁ => ts ℓ σ₁ (fun vs σ₂ => Q (v :: vs) σ₂) E) E
noncomputable def Ze2 : Expr → Bool
  | .Starred .. => true
  | _ => false
theorem Ym {e : Expr} {es : List Expr} (env : Env) (h : Ze2 e = false) : starEach (e :: es) env = (false, eval e env) :: starEach es env := by
  cases e <;> first | rfl | cases h
theorem Zf : Zkb g sc r c [] Yl := .mk fun A env pos s ℓ σ Q E X h => wpAny_items_nil (.here Yx X.rel h)
theorem Zb {e : Expr} {es : List Expr} {t : TE} {ts : TL} (h1 : Y1 g sc r c e t) (h2 : Zkb g sc r c es ts) (hs : Ze2 e = false := by rfl) :
    Zkb g sc r c (e :: es) (Zy t ts) := .mk fun A env pos s ℓ σ Q E X h => by
  refine wpAny_items_cons ?_ (Ym env hs)
  refine wpAny_mono (h1.run A env s ℓ σ _ E X h) (fun v s₁ p => ?_) fun _ _ p => p
  refine Wr.elim p fun x σ₁ hv hR hx hs1 hq => ?_
  refine wpAny_mono (h2.run A env pos s₁ ℓ σ₁ _ E (X.step hR hx) hq) (fun vs s₂ p => ?_) fun _ _ p => p.back hx hs1
  refine Wr.elim p fun xs σ₂ hvs hR2 hx2 hs2 hq2 => ?_
  exact ⟨x :: xs, σ₂, Yg (hx2.vr hR Yw hv) hvs, hR2, hx.trans hx2, hs1.trans hs2, hq2⟩
noncomputable def Wx (ts : TL) : TE := fun ℓ σ Q E => ts ℓ σ (fun vs σ₁ => Y3 vs.length ∧ ∀ a, σ₁ a = none → Q (.ref a) (σ₁.set a (.list vs))) E
noncomputable def Ww (ts : TL) : TE := fun ℓ σ Q E => ts ℓ σ (fun vs σ₁ => Y3 vs.length ∧ Q (.tup vs) σ₁) E
theorem Zbn {s s₁ : Shared} {σ σ₁ : AH} {Q : V → AH → Prop} {vs : List Value} {xs : List V} {n : Nat} (hx : Ext No s.heap σ s₁.heap σ₁) (hs : Wv s s₁) (hR : Rel g s₁.heap σ₁) (hv : VRs g s₁.heap xs vs) (hft : Y3 xs.length) (hq : ∀ a, σ₁ a = none → Q (.ref a) (σ₁.set a (.list xs))) {s' : Shared}
    (e : s' = { s₁ with heap := s₁.heap.push { cls := .type "list", data := .seq vs.toArray n }, toks := s'.toks }) : Wq g s σ Q (.ref s₁.heap.objs.size) s' := by
  rw [e]
  have hk := Yo s₁.heap { cls := .type "list", data := .seq vs.toArray n }
  have hf := Z1 s₁.heap
  refine ⟨.ref _, _, Z9.mpr rfl, hR.alloc hk hf ?_, hx.trans (.alloc hk hf), hs.trans ⟨rfl, rfl, rfl⟩, hq _ (hR.fresh hf)⟩
  exact ⟨hft, vs.toArray, n, Heap.get?_push_size _ rfl, VRs.mono (fun a o _ _ _ e _ _ => .of (hk a o e)) hv⟩
theorem Zcc {s s₁ : Shared} {σ σ₁ : AH} {Q : V → AH → Prop} {vs : List Value} {xs : List V} {n : Nat} (hx : Ext No s.heap σ s₁.heap σ₁) (hs : Wv s s₁) (hR : Rel g s₁.heap σ₁) (hv : VRs g s₁.heap xs vs) (hft : Y3 xs.length) (hq : Q (.tup xs) σ₁) {s' : Shared}
    (e : s' = { s₁ with heap := s₁.heap.push { cls := .type "tuple", data := .seq vs.toArray n }, toks := s'.toks }) : Wq g s σ Q (.ref s₁.heap.objs.size) s' := by
  rw [e]
  have hk := Yo s₁.heap { cls := .type "tuple", data := .seq vs.toArray n }
  refine ⟨.tup xs, σ₁, Xn.mpr ⟨hft, _, _, vs.toArray, n, rfl, fun nh => (by obtain ⟨o, e⟩ := hR.hid _ nh; rw [Z1] at e; cases e), Heap.get?_push_size _ rfl, rfl, rfl, VRs.mono (fun a o _ _ _ e _ _ => .of (hk a o e)) hv⟩, hR.keeps hk, hx.trans (.keeps hk), hs.trans ⟨rfl, rfl, rfl⟩, hq⟩
theorem Z3 {es : List Expr} {ts : TL} {pos : Pos} (h1 : Zkb g sc r c es ts) : Y1 g sc r c (.List es pos) (Wx ts) := .mk fun A env s ℓ σ Q E X h => by
  refine wpAny_List (wpAny_mono (h1.run A env pos s ℓ σ _ E X h) (fun vs s₁ p => ?_) fun _ _ p => p)
  obtain ⟨xs, σ₁, hv, hR, hx, hs, hf, hq⟩ := p
  exact ⟨(Zu hv ▸ hf).line, Zbn hx hs hR hv hf hq rfl⟩
theorem Z0 {es : List Expr} {ts : TL} {k : Nat} {pos : Pos} (h1 : Zkb g sc r c es ts) : Y1 g sc r c (.Tuple es k pos) (Ww ts) := .mk fun A env s ℓ σ Q E X h => by
  refine wpAny_Tuple (wpAny_mono (h1.run A env pos s ℓ σ _ E X h) (fun vs s₁ p => ?_) fun _ _ p => p)
  obtain ⟨xs, σ₁, hv, hR, hx, hs, hf, hq⟩ := p
  exact ⟨(Zu hv ▸ hf).line, Zcc hx hs hR hv hf hq rfl⟩
end
section
open PySem PyProof.Rows
variable {g : Gr} {sc : Scope} {r : Nat} {c : Bool}
mutual
noncomputable def Y0 (σ : AH) : PyData → V → Prop
  | .none, v => v = .none
  | .bool b, v => v = .bool b
  | .int i, v => v = .int i
  | .str x, v => v = .str x
  | .list ds, v => ∃ a xs, v = .ref a ∧ σ a = some (.list xs) ∧ Xf σ ds xs
  | .tuple ds, v => ∃ xs, v = .tup xs ∧ Xf σ ds xs
  | .dict _, _ => False
noncomputable def Xf (σ : AH) : List PyData → List V → Prop
  | [], xs => xs = []
  | d :: ds, xs => ∃ x r, xs = x :: r ∧ Y0 σ d x ∧ Xf σ ds r
end
mutual
theorem Wf {h : Heap} {σ : AH} (R : Rel g h σ) : ∀ {d : PyData} {x : V} {v : Value}, Y0 σ d x → VR g h x v → ∃ as, Reads h v d as
  | .none, x, v, hd, hv => by unfold Y0 at hd; subst hd; rw [Xu] at hv; subst hv; exact ⟨_, .none⟩
  | .bool b, x, v, hd, hv => by unfold Y0 at hd; subst hd; rw [Y9] at hv; subst hv; exact ⟨_, .bool b⟩
  | .int i, x, v, hd, hv => by unfold Y0 at hd; subst hd; rw [Zx] at hv; obtain ⟨t, rfl⟩ := hv; exact ⟨_, .int i t⟩
  | .str i, x, v, hd, hv => by unfold Y0 at hd; subst hd; rw [Z8] at hv; obtain ⟨_, t, rfl⟩ := hv; exact ⟨_, .str i t⟩
  | .list ds, x, v, hd, hv => by
    unfold Y0 at hd; obtain ⟨a, xs, rfl, e, hds⟩ := hd
    rw [Z9] at hv; subst hv
    obtain ⟨_, _, vs, n, ho, hvs⟩ := R.own a _ e
    obtain ⟨as, q⟩ := Zdq R hds hvs
    exact ⟨_, .list ho rfl rfl q⟩
  | .tuple ds, x, v, hd, hv => by
    unfold Y0 at hd; obtain ⟨xs, rfl, hds⟩ := hd
    rw [Xn] at hv; obtain ⟨_, a, o, vs, n, rfl, nh, ho, hc, hdt, hvs⟩ := hv
    obtain ⟨as, q⟩ := Zdq R hds hvs
    exact ⟨_, .tuple ho hc hdt q⟩
  | .dict _, x, v, hd, hv => by unfold Y0 at hd; exact hd.elim
theorem Zdq {h : Heap} {σ : AH} (R : Rel g h σ) : ∀ {ds : List PyData} {xs : List V} {vs : List Value}, Xf σ ds xs → VRs g h xs vs → ∃ as, ReadsAll h vs ds as
  | [], xs, vs, hd, hv => by unfold Xf at hd; subst hd; rw [Zr hv]; exact ⟨_, .nil⟩
  | d :: ds, xs, vs, hd, hv => by
    unfold Xf at hd; obtain ⟨x, r, rfl, h1, h2⟩ := hd
    obtain ⟨v, w, rfl, h3, h4⟩ := Zi hv
    obtain ⟨as, p⟩ := Wf R h1 h3
    obtain ⟨bs, q⟩ := Zdq R h2 h4
    exact ⟨_, .cons p q⟩
end
noncomputable def Lay (d : PyData) : Prop := d.canLay0 = true ∧ d.depth ≤ 20
noncomputable def Wl : V → AH → Option Bool
  | .none, _ => some false
  | .bool b, _ => some b
  | .int i, _ => some (i != 0)
  | .str x, _ => some ((x.length : Int) != 0)
  | .tup xs, _ => some (!xs.isEmpty)
  | .frz xs, _ => some (!xs.isEmpty)
  | .ref a, σ => match σ a with
    | some (.list xs) => some (!xs.isEmpty)
    | some (.dictI kvs _) => some (!kvs.isEmpty)
    | _ => none
theorem W8 {α β : Type} {xs : List α} {ys : Array β} (h : xs.length = ys.size) : (!ys.isEmpty) = !xs.isEmpty := by
  cases xs with
  | nil => simp at h; have : ys = #[] := by simpa using h.symm
           subst this; rfl
  | cons x xs => have : ys.size ≠ 0 := by simp at h; exact om8 h
                 have h2 : ys.isEmpty = false := by unfold Array.isEmpty; exact decide_eq_false this
                 rw [h2]; rfl
theorem X8 {h : Heap} {σ : AH} (G : GOk g) (R : Rel g h σ) {a : Addr} {ao : AO} (e : σ a = some ao) : (a == sysModules) = false := by
  obtain ⟨mm, ⟨o, es, ep, ho, _⟩, _⟩ := G.seer.mods
  cases q : a == sysModules with
  | false => rfl
  | true =>
    have := (R.own a ao e).1
    rw [show a = sysModules from beq_iff_eq.mp q, ho] at this; cases this
theorem Zc2 {A : Around} {E : Value → Shared → Prop} {s : Shared} {σ : AH} {x : V} {v : Value} {b : Bool} {Q : Bool → Shared → Prop} (G : GOk g) (R : Rel g s.heap σ) (hv : VR g s.heap x v) (ht : Wl x σ = some b)
    (hq : ∀ tk, Q b { s with toks := tk }) : wpAny (model g.prog g.w) A (truthy v) Q E s := by
  cases x with
  | none => rw [Xu] at hv; subst hv; cases ht; exact truthy_none (hq s.toks)
  | bool b' => rw [Y9] at hv; subst hv; cases ht; exact wpAny_truthy_bool (hq s.toks)
  | int i => rw [Zx] at hv; obtain ⟨t, rfl⟩ := hv; cases ht; exact PySem.P.truthy_int (hq s.toks)
  | str y => rw [Z8] at hv; obtain ⟨hf, t, rfl⟩ := hv; cases ht; exact PySem.P.truthy_str (by have := hf.fit; exact om9 this) (hq _)
  | tup xs =>
    rw [Xn] at hv; obtain ⟨hf, a, o, vs, n, rfl, nh, ho, hc, hd, hvs⟩ := hv
    have hl : xs.length = vs.size := by rw [Zu hvs]; simp
    cases ht
    exact truthy_tuple ⟨o, ho, hc, n, hd⟩ (by rw [← hl]; exact hf.fit) (by rw [W8 hl]; exact hq _)
  | frz xs =>
    rw [Zcl] at hv; obtain ⟨hf, a, o, vs, n, rfl, ho, hc, hd, hvs⟩ := hv
    have hl : xs.length = vs.size := by rw [Zu hvs]; simp
    cases ht
    exact wpAny_truthy_list ⟨o, R.base _ _ ho, hc, n, hd⟩ (by rw [← hl]; exact hf.fit) (by rw [W8 hl]; exact hq _)
  | ref a =>
    rw [Z9] at hv; subst hv
    simp only [Wl] at ht
    split at ht
    · rename_i xs e
      obtain ⟨_, hf, vs, n, ho, hvs⟩ := R.own a _ e
      have hl : xs.length = vs.size := by rw [Zu hvs]; simp
      cases ht
      exact wpAny_truthy_list ⟨_, ho, rfl, n, rfl⟩ (by rw [← hl]; exact hf.fit) (by rw [W8 hl]; exact hq _)
    · rename_i kvs ep e
      obtain ⟨_, hf, us, hd, hk, hvs⟩ := R.own a _ e
      have hl : us.length = kvs.length := by have := congrArg List.length hk; simpa using this
      cases ht
      refine wpAny_truthy_dict (X8 G R e) hd.dictOf (by rw [hl]; exact hf.fit) ?_
      have : us.isEmpty = kvs.isEmpty := by cases us <;> cases kvs <;> simp at hl ⊢
      rw [this]; exact hq _
    · cases ht
noncomputable def Zdg (t : TE) : TB := fun ℓ σ Q E => t ℓ σ (fun v σ₁ => match Wl v σ₁ with | some b => Q b σ₁ | none => False) E
theorem We {e : Expr} {t : TE} (h1 : Y1 g sc r c e t) (he : ∀ env whole, isTrue e env whole = (do let v ← whole; standAt e.pos; holding [v] (truthy v))) : Znq g sc r c e (Zdg t) := .mk fun A env s ℓ σ Q E X h => by
  refine wpAny_isTrue_value (X.then (h1.run A env s ℓ σ _ E X h) fun v x s₁ σ₁ hv X₁ hx hq => ?_) (he env _)
  split at hq
  · rename_i b hb; exact Zc2 X.gok X₁.rel hv hb fun tk => .keeps (fun _ _ e => e) ⟨rfl, rfl, rfl⟩ rfl X₁.rel hq
  · exact hq.elim
noncomputable def Zi0 (t : TB) : TB := fun ℓ σ Q E => t ℓ σ (fun b σ₁ => Q (!b) σ₁) E
theorem Zae {e : Expr} {t : TB} {pos : Pos} (h1 : Znq g sc r c e t) : Znq g sc r c (.UnaryOp .Not e pos) (Zi0 t) := .mk fun A env s ℓ σ Q E X h =>
  wpAny_isTrue_Not (wpAny_mono (h1.run A env s ℓ σ _ E X h) (fun b s₁ p => let ⟨x, σ₁, h1, h2, h3, h4, h5⟩ := p; ⟨!x, σ₁, by rw [h1], h2, h3, h4, h5⟩) fun _ _ p => p)
structure Zld (g : Gr) (sc : Scope) (r : Nat) (c : Bool) (op : BoolOp) (es : List Expr) (t : TB) : Prop where
  run : ∀ A env s ℓ σ Q E, Cx g sc r c A env s.heap σ ℓ → t ℓ σ Q E → wpAny (model g.prog g.w) A (allTrue op es env) (Zt2 g s σ Q) (Xx g A s σ E) s
noncomputable def Zkg (t ts : TB) : TB := fun ℓ σ Q E => t ℓ σ (fun b σ₁ => match b with | true => ts ℓ σ₁ Q E | false => Q false σ₁) E
noncomputable def Zsg (t ts : TB) : TB := fun ℓ σ Q E => t ℓ σ (fun b σ₁ => match b with | true => Q true σ₁ | false => ts ℓ σ₁ Q E) E
noncomputable def Xo (b : Bool) : TB := fun _ σ Q _ => Q b σ
theorem Zav : Zld g sc r c .And [] (Xo true) := .mk fun A env s ℓ σ Q E X h => wpAny_allTrue_And_nil (.here rfl X.rel h)
theorem Wa : Zld g sc r c .Or [] (Xo false) := .mk fun A env s ℓ σ Q E X h => wpAny_allTrue_Or_nil (.here rfl X.rel h)
theorem Zai {e : Expr} {es : List Expr} {t ts : TB} (h1 : Znq g sc r c e t) (h2 : Zld g sc r c .And es ts) : Zld g sc r c .And (e :: es) (Zkg t ts) := .mk fun A env s ℓ σ Q E X h => by
  refine wpAny_allTrue_And_cons (wpAny_mono (h1.run A env s ℓ σ _ E X h) (fun b s₁ p => ?_) fun _ _ p => p)
  obtain ⟨x, σ₁, rfl, hR, hx, hs, hq⟩ := p
  cases x with
  | true => exact X7 hx hs (h2.run A env s₁ ℓ σ₁ Q E (X.step hR hx) hq)
  | false => exact ⟨false, σ₁, rfl, hR, hx, hs, hq⟩
theorem Xq {e : Expr} {es : List Expr} {t ts : TB} (h1 : Znq g sc r c e t) (h2 : Zld g sc r c .Or es ts) : Zld g sc r c .Or (e :: es) (Zsg t ts) := .mk fun A env s ℓ σ Q E X h => by
  refine wpAny_allTrue_Or_cons (wpAny_mono (h1.run A env s ℓ σ _ E X h) (fun b s₁ p => ?_) fun _ _ p => p)
  obtain ⟨x, σ₁, rfl, hR, hx, hs, hq⟩ := p
  cases x with
  | false => exact X7 hx hs (h2.run A env s₁ ℓ σ₁ Q E (X.step hR hx) hq)
  | true => exact ⟨true, σ₁, rfl, hR, hx, hs, hq⟩
theorem Y6 {op : BoolOp} {es : List Expr} {t : TB} {pos : Pos} (h1 : Zld g sc r c op es t) : Znq g sc r c (.BoolOp op es pos) t := .mk fun A env s ℓ σ Q E X h =>
  wpAny_isTrue_BoolOp (h1.run A env s ℓ σ Q E X h)
noncomputable def Zf3 : V → Bool
  | .none => true
  | _ => false
noncomputable def eqD (a b : V) (σ : AH) (Q : Bool → Prop) : Prop := match a, b with
  | .int i, .int j => Q (i == j)
  | a, b => ∃ da db, Y0 σ da a ∧ Y0 σ db b ∧ Lay da ∧ Lay db ∧ Q (PyData.eqv da db)
noncomputable def inD (x c : V) (σ : AH) (Q : Bool → Prop) : Prop := match c with
  | .tup xs => ∃ ds d, Xf σ ds xs ∧ Y0 σ d x ∧ Lay (.tuple ds) ∧ Lay d ∧ Q (ds.any fun y => PyData.eqv y d)
  | .ref a => match σ a with
    | some (.list xs) => ∃ ds d, Xf σ ds xs ∧ Y0 σ d x ∧ Lay (.list ds) ∧ Lay d ∧ Q (ds.any fun y => PyData.eqv y d)
    | some (.dictI kvs _) => match x with | .int k => Q (kvs.any fun kv => kv.1 == k) | _ => False
    | some (.dictT kvs _) => ∃ ks : List Int, x = .tup (ks.map V.int) ∧ Q (kvs.any fun kv => kv.1 == ks)
    | _ => False
  | _ => False
noncomputable def Zax (op : CmpOp) (a b : V) (σ : AH) (Q : Bool → Prop) : Prop := match op with
  | .Lt => match a, b with | .int i, .int j => Q (decide (i < j)) | _, _ => False
  | .LtE => match a, b with | .int i, .int j => Q (decide (i ≤ j)) | _, _ => False
  | .Gt => match a, b with | .int i, .int j => Q (decide (j < i)) | _, _ => False
  | .GtE => match a, b with | .int i, .int j => Q (decide (j ≤ i)) | _, _ => False
  | .Eq => eqD a b σ Q
  | .NotEq => eqD a b σ fun r => Q (!r)
  | .Is => match b with | .none => Q (Zf3 a) | .bool true => (match a with | .bool x => Q x | _ => False) | _ => False
  | .IsNot => match b with | .none => Q (!Zf3 a) | _ => False
  | .In => inD a b σ Q
  | .NotIn => inD a b σ fun r => Q (!r)
end
section
open PySem PyProof.Rows
variable {g : Gr} {sc : Scope} {r : Nat} {c : Bool}
theorem Zjo {h : Heap} {a : V} {u : Value} (hv : VR g h a u) : (u == .none) = Zf3 a := by
  cases a with
  | none => rw [Xu] at hv; subst hv; rfl
  | bool b => rw [Y9] at hv; subst hv; rfl
  | int i => rw [Zx] at hv; obtain ⟨t, rfl⟩ := hv; rfl
  | str x => rw [Z8] at hv; obtain ⟨_, t, rfl⟩ := hv; rfl
  | ref a => rw [Z9] at hv; subst hv; rfl
  | tup xs => rw [Xn] at hv; obtain ⟨_, a, _, _, _, rfl, _⟩ := hv; rfl
  | frz xs => rw [Zcl] at hv; obtain ⟨_, a, _, _, _, rfl, _⟩ := hv; rfl
theorem Zdf {us : List (Int × Value)} {kvs : List (Int × V)} (hk : us.map (·.1) = kvs.map (·.1)) (k : Int) : (valueAt us k).isSome = kvs.any fun kv => kv.1 == k := by
  induction us generalizing kvs with
  | nil => cases kvs with
    | nil => rfl
    | cons _ _ => simp at hk
  | cons u us ih => cases kvs with
    | nil => simp at hk
    | cons kv kvs =>
      simp only [List.map_cons, List.cons.injEq] at hk
      have := ih hk.2
      unfold valueAt at this ⊢
      rw [List.find?_cons, List.any_cons, ← hk.1]
      by_cases e : u.1 = k
      · simp [e]
      · have e' : (u.1 == k) = false := by simpa using e
        simp only [e, decide_false, e', Bool.false_or]; exact this
theorem Ze7 {us : List (List Int × Addr × Value)} {kvs : List (List Int × V)} (hk : us.map (·.1) = kvs.map (·.1)) (k : List Int) : (atKey us k).isSome = kvs.any fun kv => kv.1 == k := by
  induction us generalizing kvs with
  | nil => cases kvs with
    | nil => rfl
    | cons _ _ => simp at hk
  | cons u us ih => cases kvs with
    | nil => simp at hk
    | cons kv kvs =>
      simp only [List.map_cons, List.cons.injEq] at hk
      have := ih hk.2
      unfold atKey at this ⊢
      rw [List.find?_cons, List.any_cons, ← hk.1]
      by_cases e : u.1 = k
      · simp [e]
      · have e' : (u.1 == k) = false := by simpa using e
        simp only [e, decide_false, e', Bool.false_or]; exact this
theorem Zea {h : Heap} : ∀ {ks : List Int} {vs : List Value}, VRs g h (ks.map V.int) vs → ItemsAre (intKind g.prog g.w) ks vs
  | [], vs, a => by rw [Zr a]; exact .nil
  | k :: ks, vs, a => by
    obtain ⟨v, r, rfl, hv, b⟩ := Zi a
    rw [Zx] at hv; obtain ⟨t, rfl⟩ := hv
    exact .cons (intKind_is _ _ k t) (Zea b)
theorem Zb7 {h : Heap} {ks : List Int} {v : Value} (hv : VR g h (.tup (ks.map V.int)) v) : ∃ a, v = .ref a ∧ ¬ g.hid a ∧ IsTupleKey (intKind g.prog g.w) h ks a := by
  rw [Xn] at hv; obtain ⟨_, a, o, vs, n, rfl, nh, ho, hc, hd, hvs⟩ := hv
  exact ⟨a, rfl, nh, o, vs, n, ho, hc, hd, Zea hvs⟩
theorem Zle.ofH {h : Heap} {d : Addr} {xs : List (List Int × Addr × Value)} {ep : Nat} (x : Zle g h d xs ep) : h.DictOfH (tupleKind (intKind g.prog g.w)) d xs := let ⟨o, es, h1, h2, h3, h4, h5, h6⟩ := x; ⟨o, es, ep, h1, h2, h3, h4, fun y hy => (h5 y hy).2, h6⟩
section
variable {A : Around} {env : Env} {E : Value → Shared → Prop} {s : Shared} {σ : AH} {ℓ : Loc}
inductive Zr6 (s : Shared) (Q : Bool → Prop) (v : Value) (s' : Shared) : Prop
  | mk (b : Bool) (tk : Nat) (e : v = .bool b) (f : s' = { s with toks := tk }) (q : Q b) : Zr6 s Q v s'
theorem Z14 {a b : V} {u v : Value} {Q : Bool → Prop} (X : Cx g sc r c A env s.heap σ ℓ) (ha : VR g s.heap a u) (hb : VR g s.heap b v) (h : eqD a b σ Q) : wpAny (model g.prog g.w) A (compareOp .Eq u v) (Zr6 s Q) E s := by
  have hu := X.room.cline
  have gen : (∃ da db, Y0 σ da a ∧ Y0 σ db b ∧ Lay da ∧ Lay db ∧ Q (PyData.eqv da db)) → wpAny (model g.prog g.w) A (compareOp .Eq u v) (Zr6 s Q) E s := by
    rintro ⟨da, db, h1, h2, h3, h4, h5⟩
    obtain ⟨as, ra⟩ := Wf X.rel h1 ha
    obtain ⟨bs, rb⟩ := Wf X.rel h2 hb
    have := h3.2
    exact SeqAt.compareEq_reads ra rb h3.1 h4.1 (by exact Z2n hu this) ⟨_, s.toks, rfl, rfl, h5⟩
  unfold eqD at h
  split at h
  · rw [Zx] at ha hb; obtain ⟨t, rfl⟩ := ha; obtain ⟨t', rfl⟩ := hb
    exact PySem.P.eq_int ⟨_, s.toks, rfl, rfl, h⟩
  · exact gen h
theorem Z1w {a b : V} {u v : Value} {Q : Bool → Prop} (X : Cx g sc r c A env s.heap σ ℓ) (ha : VR g s.heap a u) (hb : VR g s.heap b v) (h : eqD a b σ fun r => Q (!r)) : wpAny (model g.prog g.w) A (compareOp .NotEq u v) (Zr6 s Q) E s := by
  have hu := X.room.cline
  have gen : (∃ da db, Y0 σ da a ∧ Y0 σ db b ∧ Lay da ∧ Lay db ∧ Q (!PyData.eqv da db)) → wpAny (model g.prog g.w) A (compareOp .NotEq u v) (Zr6 s Q) E s := by
    rintro ⟨da, db, h1, h2, h3, h4, h5⟩
    obtain ⟨as, ra⟩ := Wf X.rel h1 ha
    obtain ⟨bs, rb⟩ := Wf X.rel h2 hb
    have := h3.2
    exact SeqAt.compareNe_reads ra rb h3.1 h4.1 (by exact Z2n hu this) ⟨_, s.toks, rfl, rfl, h5⟩
  unfold eqD at h
  split at h
  · rw [Zx] at ha hb; obtain ⟨t, rfl⟩ := ha; obtain ⟨t', rfl⟩ := hb
    exact PySem.P.ne_int ⟨_, s.toks, rfl, rfl, h⟩
  · exact gen h
theorem Zl4 {ds : List PyData} (h : Lay (.list ds)) : PyData.canLayAll0 ds = true ∧ PyData.depthAll ds ≤ 20 := by
  refine ⟨h.1, ?_⟩
  have := h.2
  unfold PyData.depth at this
  exact Z2m this
theorem Zji {ds : List PyData} (h : Lay (.tuple ds)) : PyData.canLayAll0 ds = true ∧ PyData.depthAll ds ≤ 20 := by
  refine ⟨h.1, ?_⟩
  have := h.2
  unfold PyData.depth at this
  exact Z2m this
theorem Z1z {a b : V} {u v : Value} {Q : Bool → Prop} (X : Cx g sc r c A env s.heap σ ℓ) (ha : VR g s.heap a u) (hb : VR g s.heap b v) (h : inD a b σ Q) : wpAny (model g.prog g.w) A (compareOp .In u v) (Zr6 s Q) E s := by
  have hu := X.room.cline
  unfold inD at h
  split at h
  · rename_i xs
    obtain ⟨ds, d, h1, h2, h3, h4, h5⟩ := h
    obtain ⟨bs, rb⟩ := Wf (d := .tuple ds) X.rel (by unfold Y0; exact ⟨xs, rfl, h1⟩) hb
    obtain ⟨as, ra⟩ := Wf X.rel h2 ha
    obtain ⟨k1, k2⟩ := Zji h3
    exact SeqAt.in_tuple_reads rb ra k1 h4.1 (by exact Zwr hu k2) ⟨_, s.toks, rfl, rfl, h5⟩
  · rename_i l
    split at h
    · rename_i xs e
      obtain ⟨ds, d, h1, h2, h3, h4, h5⟩ := h
      obtain ⟨bs, rb⟩ := Wf (d := .list ds) X.rel (by unfold Y0; exact ⟨l, xs, rfl, e, h1⟩) hb
      obtain ⟨as, ra⟩ := Wf X.rel h2 ha
      obtain ⟨k1, k2⟩ := Zl4 h3
      exact SeqAt.in_list_reads rb ra k1 h4.1 (by exact Zwr hu k2) ⟨_, s.toks, rfl, rfl, h5⟩
    · rename_i kvs ep e
      split at h
      · rename_i k
        rw [Zx] at ha; obtain ⟨t, rfl⟩ := ha
        rw [Z9] at hb; subst hb
        obtain ⟨_, hf, us, hd, hk, hvs⟩ := X.rel.own l _ e
        exact wpAny_in_of (intKind_is _ _ k t) (X8 X.gok X.rel e) hd.dictOf.mapOf ⟨_, _, rfl, rfl, by rw [Zdf hk]; exact h⟩
      · exact h.elim
    · rename_i kvs ep e
      obtain ⟨ks, rfl, h⟩ := h
      obtain ⟨ka, rfl, _, hka⟩ := Zb7 ha
      rw [Z9] at hb; subst hb
      obtain ⟨_, hf, us, hd, hk, hvs⟩ := X.rel.own l _ e
      exact wpAny_in_heap (knd := tupleKind (intKind g.prog g.w)) (tupleKind_room_in1 (by exact Zvc hu)) hka (X8 X.gok X.rel e) hd.ofH ⟨_, _, rfl, rfl, by rw [Ze7 hk]; exact h⟩
    · exact h.elim
  · exact h.elim
theorem Zrc {a b : V} {u v : Value} {Q : Bool → Prop} (X : Cx g sc r c A env s.heap σ ℓ) (ha : VR g s.heap a u) (hb : VR g s.heap b v) (h : inD a b σ fun r => Q (!r)) : wpAny (model g.prog g.w) A (compareOp .NotIn u v) (Zr6 s Q) E s := by
  have hu := X.room.cline
  unfold inD at h
  split at h
  · rename_i xs
    obtain ⟨ds, d, h1, h2, h3, h4, h5⟩ := h
    obtain ⟨bs, rb⟩ := Wf (d := .tuple ds) X.rel (by unfold Y0; exact ⟨xs, rfl, h1⟩) hb
    obtain ⟨as, ra⟩ := Wf X.rel h2 ha
    obtain ⟨k1, k2⟩ := Zji h3
    exact SeqAt.notIn_tuple_reads rb ra k1 h4.1 (by exact Zwr hu k2) ⟨_, s.toks, rfl, rfl, h5⟩
  · rename_i l
    split at h
    · rename_i xs e
      obtain ⟨ds, d, h1, h2, h3, h4, h5⟩ := h
      obtain ⟨bs, rb⟩ := Wf (d := .list ds) X.rel (by unfold Y0; exact ⟨l, xs, rfl, e, h1⟩) hb
      obtain ⟨as, ra⟩ := Wf X.rel h2 ha
      obtain ⟨k1, k2⟩ := Zl4 h3
      exact SeqAt.notIn_list_reads rb ra k1 h4.1 (by exact Zwr hu k2) ⟨_, s.toks, rfl, rfl, h5⟩
    · rename_i kvs ep e
      split at h
      · rename_i k
        rw [Zx] at ha; obtain ⟨t, rfl⟩ := ha
        rw [Z9] at hb; subst hb
        obtain ⟨_, hf, us, hd, hk, hvs⟩ := X.rel.own l _ e
        refine wpAny_notIn_of (intKind_is _ _ k t) (X8 X.gok X.rel e) hd.dictOf.mapOf ⟨_, _, rfl, rfl, ?_⟩
        rw [Zdf hk]; exact h
      · exact h.elim
    · rename_i kvs ep e
      obtain ⟨ks, rfl, h⟩ := h
      obtain ⟨ka, rfl, _, hka⟩ := Zb7 ha
      rw [Z9] at hb; subst hb
      obtain ⟨_, hf, us, hd, hk, hvs⟩ := X.rel.own l _ e
      refine wpAny_notIn_heap (knd := tupleKind (intKind g.prog g.w)) (tupleKind_room_in1 (by exact Zvc hu)) hka (X8 X.gok X.rel e) hd.ofH ⟨_, _, rfl, rfl, ?_⟩
      rw [Ze7 hk]; exact h
    · exact h.elim
  · exact h.elim
theorem Zkw (b : Bool) : isSame (.bool b) (.bool true) = pure b := by cases b <;> rfl
theorem Zhk {op : CmpOp} {a b : V} {u v : Value} {Q : Bool → Prop} (X : Cx g sc r c A env s.heap σ ℓ) (ha : VR g s.heap a u) (hb : VR g s.heap b v) (h : Zax op a b σ Q) : wpAny (model g.prog g.w) A (compareOp op u v) (Zr6 s Q) E s := by
  cases op with
  | Lt => simp only [Zax] at h; split at h
          · rw [Zx] at ha hb; obtain ⟨t, rfl⟩ := ha; obtain ⟨t', rfl⟩ := hb; exact PySem.P.lt_int ⟨_, s.toks, rfl, rfl, h⟩
          · exact h.elim
  | LtE => simp only [Zax] at h; split at h
           · rw [Zx] at ha hb; obtain ⟨t, rfl⟩ := ha; obtain ⟨t', rfl⟩ := hb; exact PySem.P.le_int ⟨_, s.toks, rfl, rfl, h⟩
           · exact h.elim
  | Gt => simp only [Zax] at h; split at h
          · rw [Zx] at ha hb; obtain ⟨t, rfl⟩ := ha; obtain ⟨t', rfl⟩ := hb; exact PySem.P.gt_int ⟨_, s.toks, rfl, rfl, h⟩
          · exact h.elim
  | GtE => simp only [Zax] at h; split at h
           · rw [Zx] at ha hb; obtain ⟨t, rfl⟩ := ha; obtain ⟨t', rfl⟩ := hb; exact PySem.P.ge_int ⟨_, s.toks, rfl, rfl, h⟩
           · exact h.elim
  | Eq => exact Z14 X ha hb h
  | NotEq => exact Z1w X ha hb h
  | Is =>
    simp only [Zax] at h
    split at h
    · rw [Xu] at hb; subst hb; exact is_none ⟨_, s.toks, rfl, rfl, by rw [Zjo ha]; exact h⟩
    · rw [Y9] at hb; subst hb
      split at h
      · rw [Y9] at ha; subst ha
        show wpAny _ A (do return Value.bool (← isSame _ _)) _ E s
        rw [Zkw]; exact wpAny_bind (wpAny_pure (wpAny_pure ⟨_, s.toks, rfl, rfl, h⟩))
      · exact h.elim
    · exact h.elim
  | IsNot =>
    simp only [Zax] at h
    split at h
    · rw [Xu] at hb; subst hb; exact isNot_none ⟨_, s.toks, rfl, rfl, by rw [Zjo ha]; exact h⟩
    · exact h.elim
  | In => exact Z1z X ha hb h
  | NotIn => exact Zrc X ha hb h
end
noncomputable def Zwz (op : CmpOp) (t₁ t₂ : TE) : TE := fun ℓ σ Q E => t₁ ℓ σ (fun a σ₁ => t₂ ℓ σ₁ (fun b σ₂ => Zax op a b σ₂ fun r => Q (.bool r) σ₂) E) E
noncomputable def Wn (op : CmpOp) (t₁ t₂ : TE) : TB := fun ℓ σ Q E => t₁ ℓ σ (fun a σ₁ => t₂ ℓ σ₁ (fun b σ₂ => Zax op a b σ₂ fun r => Q r σ₂) E) E
noncomputable def Zlo (op op' : CmpOp) (t₁ t₂ t₃ : TE) : TB := fun ℓ σ Q E => t₁ ℓ σ (fun a σ₁ => t₂ ℓ σ₁ (fun b σ₂ => Zax op a b σ₂ fun r => match r with | true => t₃ ℓ σ₂ (fun d σ₃ => Zax op' b d σ₃ fun q => Q q σ₃) E | false => Q false σ₂) E) E
theorem Zh4 {op : CmpOp} {e₁ e₂ : Expr} {t₁ t₂ : TE} {pos : Pos} (h1 : Y1 g sc r c e₁ t₁) (h2 : Y1 g sc r c e₂ t₂) (hm : behindInMarks op e₂ = false) : Y1 g sc r c (.Compare e₁ [op] [e₂] pos) (Zwz op t₁ t₂) := .mk fun A env s ℓ σ Q E X h => by
  refine wpAny_Compare1 (wpAny_mono (h1.run A env s ℓ σ _ E X h) (fun u s₁ p => ?_) fun _ _ p => p) hm
  refine Wr.elim p fun a σ₁ hu hR hx hs hq => ?_
  have X₁ := X.step hR hx
  refine wpAny_mono (h2.run A env s₁ ℓ σ₁ _ E X₁ hq) (fun v s₂ p => ?_) fun _ _ p => p.back hx hs
  refine Wr.elim p fun b σ₂ hv hR2 hx2 hs2 hq2 => ?_
  refine wpAny_mono (Zhk (E := fun _ _ => False) (X₁.step hR2 hx2) (hx2.vr hR Yw hu) hv hq2) (fun w s₃ p => ?_) fun _ _ p => p.elim
  obtain ⟨bb, tk, rfl, rfl, hq3⟩ := p
  exact ⟨.bool bb, σ₂, Y9.mpr rfl, hR2, hx.trans hx2, hs.trans (hs2.trans ⟨rfl, rfl, rfl⟩), hq3⟩
theorem Yb {op : CmpOp} {e₁ e₂ : Expr} {t₁ t₂ : TE} {pos : Pos} (h1 : Y1 g sc r c e₁ t₁) (h2 : Y1 g sc r c e₂ t₂) (hm : behindInMarks op e₂ = false) : Znq g sc r c (.Compare e₁ [op] [e₂] pos) (Wn op t₁ t₂) := .mk fun A env s ℓ σ Q E X h => by
  refine wpAny_isTrue_Compare1 (wpAny_mono (h1.run A env s ℓ σ _ E X h) (fun u s₁ p => ?_) fun _ _ p => p) hm
  refine Wr.elim p fun a σ₁ hu hR hx hs hq => ?_
  have X₁ := X.step hR hx
  refine wpAny_mono (h2.run A env s₁ ℓ σ₁ _ E X₁ hq) (fun v s₂ p => ?_) fun _ _ p => p.back hx hs
  refine Wr.elim p fun b σ₂ hv hR2 hx2 hs2 hq2 => ?_
  refine wpAny_mono (Zhk (E := fun _ _ => False) (X₁.step hR2 hx2) (hx2.vr hR Yw hu) hv hq2) (fun w s₃ p => ?_) fun _ _ p => p.elim
  obtain ⟨bb, tk, rfl, rfl, hq3⟩ := p
  exact wpAny_truthy_bool ⟨bb, σ₂, rfl, hR2, hx.trans hx2, hs.trans (hs2.trans ⟨rfl, rfl, rfl⟩), hq3⟩
theorem Zfo {op op' : CmpOp} {e₁ e₂ e₃ : Expr} {t₁ t₂ t₃ : TE} {pos : Pos} (h1 : Y1 g sc r c e₁ t₁) (h2 : Y1 g sc r c e₂ t₂) (h3 : Y1 g sc r c e₃ t₃) (hm : lastMarks [op, op'] [e₂, e₃] = false) :
    Znq g sc r c (.Compare e₁ [op, op'] [e₂, e₃] pos) (Zlo op op' t₁ t₂ t₃) := .mk fun A env s ℓ σ Q E X h => by
  refine isTrue_chain (wpAny_mono (h1.run A env s ℓ σ _ E X h) (fun u s₁ p => ?_) fun _ _ p => p) hm
  refine Wr.elim p fun a σ₁ hu hR hx hs hq => ?_
  have X₁ := X.step hR hx
  refine test_link (wpAny_mono (h2.run A env s₁ ℓ σ₁ _ E X₁ hq) (fun v s₂ p => ?_) fun _ _ p => p.back hx hs)
  refine Wr.elim p fun b σ₂ hv hR2 hx2 hs2 hq2 => ?_
  have X₂ := X₁.step hR2 hx2
  refine wpAny_mono (Zhk (E := fun _ _ => False) X₂ (hx2.vr hR Yw hu) hv hq2) (fun w s₃ p => ?_) fun _ _ p => p.elim
  obtain ⟨bb, tk, rfl, rfl, hq3⟩ := p
  have hs' : Wv s { s₂ with toks := tk } := hs.trans (hs2.trans ⟨rfl, rfl, rfl⟩)
  refine wpAny_truthy_bool ?_
  cases bb with
  | false => exact ⟨false, σ₂, rfl, hR2, hx.trans hx2, hs', hq3⟩
  | true =>
    refine test_last (wpAny_mono (h3.run A env { s₂ with toks := tk } ℓ σ₂ _ E X₂ hq3) (fun y s₄ p => ?_) fun _ _ p => Xx.back (s₁ := { s₂ with toks := tk }) (hx.trans hx2) hs' p)
    refine Wr.elim p fun d σ₃ hy hR3 hx3 hs3 hq4 => ?_
    refine wpAny_mono (Zhk (E := fun _ _ => False) (X₂.step hR3 hx3) (hx3.vr hR2 Yw hv) hy hq4) (fun w s₅ p => ?_) fun _ _ p => p.elim
    obtain ⟨bb, tk', rfl, rfl, hq5⟩ := p
    exact wpAny_truthy_bool ⟨bb, σ₃, rfl, hR3, (hx.trans hx2).trans hx3, hs'.trans (hs3.trans ⟨rfl, rfl, rfl⟩), hq5⟩
end
section
open PySem PyProof.Rows
variable {g : Gr} {sc : Scope} {r : Nat} {c : Bool}
noncomputable def Zcj (op : Operator) (a b : V) (σ : AH) (Q : V → AH → Prop) : Prop := match op with
  | .Add => match a, b with
    | .int i, .int j => Q (.int (i + j)) σ
    | .str x, .str y => Y3 (x.length + y.length) ∧ Q (.str (x ++ y)) σ
    | .tup xs, .tup ys => Y3 (xs.length + ys.length) ∧ Q (.tup (xs ++ ys)) σ
    | .ref l, .ref m => ∃ xs ys, σ l = some (.list xs) ∧ σ m = some (.list ys) ∧ Y3 (xs.length + ys.length) ∧ ∀ a, σ a = none → Q (.ref a) (σ.set a (.list (xs ++ ys)))
    | _, _ => False
  | .Sub => match a, b with | .int i, .int j => Q (.int (i - j)) σ | _, _ => False
  | .Mult => match a, b with
    | .int i, .int j => IntMulOk i j ∧ Q (.int (i * j)) σ
    | .str x, .int n => (n = 0 ∨ n = 1) ∧ Q (.str (if n = 1 then x else Str.empty)) σ
    | _, _ => False
  | .FloorDiv => match a, b with | .int i, .int j => j ≠ 0 ∧ Q (.int (i.fdiv j)) σ | _, _ => False
  | .Mod => match a, b with | .int i, .int j => j ≠ 0 ∧ Q (.int (i.fmod j)) σ | _, _ => False
  | .Pow => match a, b with | .int i, .int j => (0 ≤ j ∧ j ≤ 1000000 ∧ i.natAbs < 2 ^ 64) ∧ Q (.int (i ^ j.toNat)) σ | _, _ => False
  | _ => False
section
variable {A : Around} {env : Env} {E : Value → Shared → Prop} {s : Shared} {σ : AH} {ℓ : Loc} {Q : V → AH → Prop}
theorem Xj {x : V} {v : Value} {tk : Nat} (R : Rel g s.heap σ) (hv : VR g s.heap x v) (h : Q x σ) : Wq g s σ Q v { s with toks := tk } :=
  .keeps (fun _ _ e => e) ⟨rfl, rfl, rfl⟩ hv R h
theorem Zoy (X : Cx g sc r c A env s.heap σ ℓ) : PylongRoom (model g.prog g.w) A s := by
  obtain ⟨e0, outer, hA, hf, ff, off, h1, h2, h3, h4⟩ := X.fr
  refine PylongRoom.of (X.gok.nolimit.keeps X.rel.base) ?_ (SeerAt.of (X.gok.seer.keeps X.rel.base) X.gok.tree hA h1 h2 h3 h4)
  have := X.room.depth
  show A.depth + 100 < _
  exact Z4z this
theorem Zwa {op : Operator} {a b : V} {u v : Value} (X : Cx g sc r c A env s.heap σ ℓ) (ha : VR g s.heap a u) (hb : VR g s.heap b v) (h : Zcj op a b σ Q) : wpAny (model g.prog g.w) A (binaryOp op u v) (Wq g s σ Q) E s := by
  cases op with
  | Add =>
    simp only [Zcj] at h
    split at h
    · rw [Zx] at ha hb; obtain ⟨t, rfl⟩ := ha; obtain ⟨t', rfl⟩ := hb
      exact PySem.P.add_int (Xj X.rel (Zx.mpr ⟨_, rfl⟩) h)
    · rw [Z8] at ha hb; obtain ⟨hfa, t, rfl⟩ := ha; obtain ⟨hfb, t', rfl⟩ := hb
      exact PyProof.Rows.add_str (fun t' tk => Xj X.rel (Z8.mpr ⟨by rw [Str.length_append]; exact h.1, _, rfl⟩) h.2) h.1.line
    · rename_i xs ys
      rw [Xn] at ha hb
      obtain ⟨hfa, l, ⟨cls, dd, data, sl⟩, vs, n, rfl, nh, ho, hc, hd, hvs⟩ := ha
      obtain ⟨hfb, m, ⟨cls2, dd2, data2, sl2⟩, ws, n2, rfl, nh2, ho2, hc2, hd2, hws⟩ := hb
      simp only at hc hd hc2 hd2
      subst hc hd hc2 hd2
      have hl := Zu hvs
      have hl2 := Zu hws
      simp only [Array.length_toList] at hl hl2
      by_cases e1 : vs.isEmpty = true
      · have : xs = [] := by have : vs.size = 0 := by simpa using e1
                             cases xs with | nil => rfl | cons _ _ => simp at hl; omega
        subst this
        exact concat_meets ⟨_, ho, rfl⟩ ⟨_, ho2, rfl⟩ noFill_tuple_add seq_tuple_add PySem.F.slot_tuple_add PySem.F.entry_tuple_add (PySem.F.args_tuple_add_2 _ _) (tuple_addW0 l m vs ws n n2 dd dd2 sl sl2 e1)
          ⟨ho, ho2, Xj X.rel (Xn.mpr ⟨hfb, m, _, ws, n2, rfl, nh2, ho2, rfl, rfl, hws⟩) h.2⟩
      · by_cases e2 : ws.isEmpty = true
        · have : ys = [] := by have : ws.size = 0 := by simpa using e2
                               cases ys with | nil => rfl | cons _ _ => simp at hl2; omega
          subst this
          refine concat_meets ⟨_, ho, rfl⟩ ⟨_, ho2, rfl⟩ noFill_tuple_add seq_tuple_add PySem.F.slot_tuple_add PySem.F.entry_tuple_add (PySem.F.args_tuple_add_2 _ _) (tuple_addW1 l m vs ws n n2 dd dd2 sl sl2 e1 e2)
            ⟨ho, ho2, Xj X.rel (Xn.mpr ⟨hfa, l, _, vs, n, rfl, nh, ho, rfl, rfl, hvs⟩) ?_⟩
          rw [List.append_nil] at h; exact h.2
        · refine concat_meets ⟨_, ho, rfl⟩ ⟨_, ho2, rfl⟩ noFill_tuple_add seq_tuple_add PySem.F.slot_tuple_add PySem.F.entry_tuple_add (PySem.F.args_tuple_add_2 _ _) (tuple_addW2 l m vs ws n n2 dd dd2 sl sl2 e1 e2 (by rw [← hl, ← hl2]; exact h.1.line))
            ⟨ho, ho2, ?_⟩
          have e : vs ++ ws = (vs.toList ++ ws.toList).toArray := by simp
          rw [e]
          exact Zcc .refl .refl X.rel (Zac hvs hws) (by rw [List.length_append]; exact h.1) h.2 rfl
    · rename_i l m
      obtain ⟨xs, ys, e1, e2, hf, hq⟩ := h
      rw [Z9] at ha hb; subst ha hb
      obtain ⟨_, hfa, vs, n, ho, hvs⟩ := X.rel.own l _ e1
      obtain ⟨_, hfb, ws, n2, ho2, hws⟩ := X.rel.own m _ e2
      have hl := Zu hvs
      have hl2 := Zu hws
      simp only [Array.length_toList] at hl hl2
      refine concat_meets ⟨_, ho, rfl⟩ ⟨_, ho2, rfl⟩ noFill_list_add seq_list_add PySem.F.slot_list_add PySem.F.entry_list_add (PySem.F.args_list_add_2 _ _) (list_addW l m vs ws n n2 none none #[] #[] (by rw [← hl, ← hl2]; exact hf.line)) ⟨ho, ho2, ?_⟩
      have e : vs ++ ws = (vs.toList ++ ws.toList).toArray := by simp
      rw [e]
      exact Zbn .refl .refl X.rel (Zac hvs hws) (by rw [List.length_append]; exact hf) hq rfl
    · exact h.elim
  | Sub =>
    simp only [Zcj] at h; split at h
    · rw [Zx] at ha hb; obtain ⟨t, rfl⟩ := ha; obtain ⟨t', rfl⟩ := hb
      exact PySem.P.sub_int (Xj X.rel (Zx.mpr ⟨_, rfl⟩) h)
    · exact h.elim
  | Mult =>
    simp only [Zcj] at h; split at h
    · rw [Zx] at ha hb; obtain ⟨t, rfl⟩ := ha; obtain ⟨t', rfl⟩ := hb
      exact PySem.P.mul_int (Xj X.rel (Zx.mpr ⟨_, rfl⟩) h.2) h.1
    · rw [Z8] at ha; rw [Zx] at hb; obtain ⟨hf, t, rfl⟩ := ha; obtain ⟨t', rfl⟩ := hb
      obtain ⟨hn, h⟩ := h
      rcases hn with rfl | rfl
      · exact PySem.P.mul_str_none (by decide) (by decide) (Xj X.rel (Z8.mpr ⟨by unfold Y3; decide, _, rfl⟩) h)
      · exact PySem.P.mul_str (by decide) (fun _ z => by simp at z) (fun _ z => by simp at z) (.here (Z8.mpr ⟨hf, _, rfl⟩) X.rel h)
    · exact h.elim
  | FloorDiv =>
    simp only [Zcj] at h; split at h
    · rw [Zx] at ha hb; obtain ⟨t, rfl⟩ := ha; obtain ⟨t', rfl⟩ := hb
      exact floordiv_int h.1 (Xj X.rel (Zx.mpr ⟨_, rfl⟩) h.2) (.inr (Zoy X))
    · exact h.elim
  | Mod =>
    simp only [Zcj] at h; split at h
    · rw [Zx] at ha hb; obtain ⟨t, rfl⟩ := ha; obtain ⟨t', rfl⟩ := hb
      exact mod_int' h.1 (Xj X.rel (Zx.mpr ⟨_, rfl⟩) h.2)
    · exact h.elim
  | Pow =>
    simp only [Zcj] at h; split at h
    · rw [Zx] at ha hb; obtain ⟨t, rfl⟩ := ha; obtain ⟨t', rfl⟩ := hb
      exact pow_int_small h.1.1 h.1.2.1 h.1.2.2 (Xj X.rel (Zx.mpr ⟨_, rfl⟩) h.2)
    · exact h.elim
  | _ => exact h.elim
end
noncomputable def Zdm (op : Operator) (t₁ t₂ : TE) : TE := fun ℓ σ Q E => t₁ ℓ σ (fun a σ₁ => t₂ ℓ σ₁ (fun b σ₂ => Zcj op a b σ₂ Q) E) E
theorem Zp {op : Operator} {e₁ e₂ : Expr} {t₁ t₂ : TE} {pos : Pos} (h1 : Y1 g sc r c e₁ t₁) (h2 : Y1 g sc r c e₂ t₂) : Y1 g sc r c (.BinOp e₁ op e₂ pos) (Zdm op t₁ t₂) := .mk fun A env s ℓ σ Q E X h => by
  refine wpAny_BinOp (wpAny_mono (h1.run A env s ℓ σ _ E X h) (fun u s₁ p => ?_) fun _ _ p => p)
  refine Wr.elim p fun a σ₁ hu hR hx hs hq => ?_
  have X₁ := X.step hR hx
  refine wpAny_mono (h2.run A env s₁ ℓ σ₁ _ E X₁ hq) (fun v s₂ p => ?_) fun _ _ p => p.back hx hs
  refine Wr.elim p fun b σ₂ hv hR2 hx2 hs2 hq2 => ?_
  exact X7 (hx.trans hx2) (hs.trans hs2) (Zwa (X₁.step hR2 hx2) (hx2.vr hR Yw hu) hv hq2)
noncomputable def Zwn (t : TE) : TE := fun ℓ σ Q E => t ℓ σ (fun v σ₁ => match Wl v σ₁ with | some b => Q (.bool (!b)) σ₁ | none => False) E
theorem Zqv {e : Expr} {t : TE} {pos : Pos} (h1 : Y1 g sc r c e t) : Y1 g sc r c (.UnaryOp .Not e pos) (Zwn t) := .mk fun A env s ℓ σ Q E X h => by
  refine wpAny_UnaryOp (X.then (h1.run A env s ℓ σ _ E X h) fun v x s₁ σ₁ hv X₁ hx hq => ?_)
  split at hq
  · rename_i b hb; exact not_value (Zc2 X.gok X₁.rel hv hb fun tk => Xj X₁.rel (Y9.mpr rfl) hq)
  · exact hq.elim
structure Zue (g : Gr) (sc : Scope) (r : Nat) (c : Bool) (op : BoolOp) (es : List Expr) (t : TE) : Prop where
  run : ∀ A env pos s ℓ σ Q E, Cx g sc r c A env s.heap σ ℓ → t ℓ σ Q E → wpAny (model g.prog g.w) A (boolOp pos op (evalEach es env)) (Wq g s σ Q) (Xx g A s σ E) s
noncomputable def Zt8 (t ts : TE) : TE := fun ℓ σ Q E => t ℓ σ (fun v σ₁ => match Wl v σ₁ with | some true => ts ℓ σ₁ Q E | some false => Q v σ₁ | none => False) E
noncomputable def tOr (t ts : TE) : TE := fun ℓ σ Q E => t ℓ σ (fun v σ₁ => match Wl v σ₁ with | some false => ts ℓ σ₁ Q E | some true => Q v σ₁ | none => False) E
theorem Zfc {op : BoolOp} {e : Expr} {t : TE} (h1 : Y1 g sc r c e t) : Zue g sc r c op [e] t := .mk fun A env pos s ℓ σ Q E X h => h1.run A env s ℓ σ Q E X h
theorem Zh1 {e e' : Expr} {es : List Expr} {t ts : TE} (h1 : Y1 g sc r c e t) (h2 : Zue g sc r c .And (e' :: es) ts) : Zue g sc r c .And (e :: e' :: es) (Zt8 t ts) := .mk fun A env pos s ℓ σ Q E X h => by
  show wpAny _ A (do let v ← eval e env; standAt pos; let t ← holding [v] (truthy v); match BoolOp.And, t with | .And, false | .Or, true => pure v | _, _ => boolOp pos .And (evalEach (e' :: es) env)) _ _ s
  refine wpAny_bind (X.then (h1.run A env s ℓ σ _ E X h) fun v x s₁ σ₁ hv X₁ hx hq => ?_)
  refine wpAny_bind (wpAny_standAt (wpAny_bind (wpAny_holding ?_)))
  split at hq
  · rename_i hb; exact Zc2 X.gok X₁.rel hv hb fun tk => X7 (s := s₁) (s₁ := { s₁ with toks := tk }) .refl ⟨rfl, rfl, rfl⟩ (h2.run A env pos _ ℓ σ₁ Q E X₁ hq)
  · rename_i hb; exact Zc2 X.gok X₁.rel hv hb fun tk => wpAny_pure (Xj X₁.rel hv hq)
  · exact hq.elim
theorem Zs7 {e e' : Expr} {es : List Expr} {t ts : TE} (h1 : Y1 g sc r c e t) (h2 : Zue g sc r c .Or (e' :: es) ts) : Zue g sc r c .Or (e :: e' :: es) (tOr t ts) := .mk fun A env pos s ℓ σ Q E X h => by
  show wpAny _ A (do let v ← eval e env; standAt pos; let t ← holding [v] (truthy v); match BoolOp.Or, t with | .And, false | .Or, true => pure v | _, _ => boolOp pos .Or (evalEach (e' :: es) env)) _ _ s
  refine wpAny_bind (X.then (h1.run A env s ℓ σ _ E X h) fun v x s₁ σ₁ hv X₁ hx hq => ?_)
  refine wpAny_bind (wpAny_standAt (wpAny_bind (wpAny_holding ?_)))
  split at hq
  · rename_i hb; exact Zc2 X.gok X₁.rel hv hb fun tk => X7 (s := s₁) (s₁ := { s₁ with toks := tk }) .refl ⟨rfl, rfl, rfl⟩ (h2.run A env pos _ ℓ σ₁ Q E X₁ hq)
  · rename_i hb; exact Zc2 X.gok X₁.rel hv hb fun tk => wpAny_pure (Xj X₁.rel hv hq)
  · exact hq.elim
theorem Zb9 {op : BoolOp} {es : List Expr} {t : TE} {pos : Pos} (h1 : Zue g sc r c op es t) : Y1 g sc r c (.BoolOp op es pos) t := .mk fun A env s ℓ σ Q E X h => h1.run A env pos s ℓ σ Q E X h
end
section
open PySem PyProof.Rows
variable {g : Gr} {sc : Scope} {r : Nat} {c : Bool}
noncomputable def atV (xs : List V) (k : Int) : Option V := (seqIndex? k xs.length).bind (xs[·]?)
noncomputable def Za8 (o i : V) (σ : AH) (Q : V → Prop) : Prop := match o with
  | .tup xs => match i with | .int k => (match atV xs k with | some x => Q x | none => False) | _ => False
  | .frz xs => match i with | .int k => (match atV xs k with | some x => Q x | none => False) | _ => False
  | .ref a => match σ a with
    | some (.list xs) => (match i with | .int k => (match atV xs k with | some x => Q x | none => False) | _ => False)
    | some (.dictI kvs _) => (match i with | .int k => (match kvs.lookup k with | some x => Q x | none => False) | _ => False)
    | some (.dictS kvs _) => (match i with | .str k => (match kvs.lookup k with | some x => Q x | none => False) | _ => False)
    | some (.dictT kvs _) => ∃ ks : List Int, i = .tup (ks.map V.int) ∧ (match kvs.lookup ks with | some x => Q x | none => False)
    | _ => False
  | _ => False
theorem Zcb {k : Int} {n j : Nat} (h : seqIndex? k n = some j) : j < n ∧ ((0 ≤ k ∧ j = k.toNat) ∨ (k < 0 ∧ -(n : Int) ≤ k ∧ j = (k + n).toNat)) := by
  unfold seqIndex? at h
  dsimp only at h
  by_cases hk : k < 0
  · rw [if_pos hk] at h
    split at h
    · rename_i q
      simp only [Bool.and_eq_true, decide_eq_true_eq] at q
      cases h
      exact ⟨by exact Z4y hk q, .inr ⟨hk, by exact Z4x q, rfl⟩⟩
    · cases h
  · rw [if_neg hk] at h
    split at h
    · rename_i q
      simp only [Bool.and_eq_true, decide_eq_true_eq] at q
      cases h
      exact ⟨by exact Z4w hk q, .inl ⟨by exact Z4v hk, rfl⟩⟩
    · cases h
theorem Zme {xs : List V} {k : Int} {x : V} (h : atV xs k = some x) : ∃ j, seqIndex? k xs.length = some j ∧ xs[j]? = some x := by
  unfold atV at h
  exact Option.bind_eq_some_iff.mp h
theorem Zcv {K : Type} [DecidableEq K] {g : Gr} {h : Heap} {kvs : List (K × V)} {us : List (K × Value)} (hk : us.map (·.1) = kvs.map (·.1)) (hv : VRs g h (kvs.map (·.2)) (us.map (·.2))) {k : K} {x : V} (e : kvs.lookup k = some x) :
    ∃ v, valueAt us k = some v ∧ VR g h x v := by
  induction kvs generalizing us with
  | nil => cases e
  | cons kv kvs ih =>
    cases us with
    | nil => simp at hk
    | cons u us =>
      simp only [List.map_cons, List.cons.injEq] at hk hv
      obtain ⟨v, r, e2, h1, h2⟩ := Zi hv
      cases e2
      rw [List.lookup_cons] at e
      unfold valueAt
      rw [List.find?_cons]
      by_cases q : k = kv.1
      · have : (k == kv.1) = true := by simpa using q
        rw [this] at e; cases e
        have : decide (u.1 = k) = true := by rw [hk.1, q]; simp
        rw [this]; exact ⟨_, rfl, h1⟩
      · have : (k == kv.1) = false := by simpa using q
        rw [this] at e
        have : decide (u.1 = k) = false := by rw [hk.1]; simpa using fun z => q z.symm
        rw [this]; exact ih hk.2 h2 e
theorem Zkp {g : Gr} {h : Heap} {kvs : List (List Int × V)} {us : List (List Int × Addr × Value)} (hk : us.map (·.1) = kvs.map (·.1)) (hv : VRs g h (kvs.map (·.2)) (us.map (·.2.2))) {k : List Int} {x : V} (e : kvs.lookup k = some x) :
    ∃ p, atKey us k = some p ∧ VR g h x p.2 := by
  induction kvs generalizing us with
  | nil => cases e
  | cons kv kvs ih =>
    cases us with
    | nil => simp at hk
    | cons u us =>
      simp only [List.map_cons, List.cons.injEq] at hk hv
      obtain ⟨v, r, e2, h1, h2⟩ := Zi hv
      cases e2
      rw [List.lookup_cons] at e
      unfold atKey
      rw [List.find?_cons]
      by_cases q : k = kv.1
      · have : (k == kv.1) = true := by simpa using q
        rw [this] at e; cases e
        have : decide (u.1 = k) = true := by rw [hk.1, q]; simp
        rw [this]; exact ⟨_, rfl, h1⟩
      · have : (k == kv.1) = false := by simpa using q
        rw [this] at e
        have : decide (u.1 = k) = false := by rw [hk.1]; simpa using fun z => q z.symm
        rw [this]; exact ih hk.2 h2 e
section
variable {A : Around} {env : Env} {E : Value → Shared → Prop} {s : Shared} {σ : AH} {ℓ : Loc}
theorem Zhd {l : Addr} {o : Obj} {vs : Array Value} {n : Nat} {xs : List V} {k : Int} {t : Tok} {x : V} {P : Value → Shared → Prop} (ho : s.heap.get? l = some o) (hc : o.cls = .type "list") (hd : o.data = .seq vs n) (hf : Y3 xs.length) (hvs : VRs g s.heap xs vs.toList)
    (e : atV xs k = some x) (hq : ∀ v, VR g s.heap x v → P v s) : wpAny (model g.prog g.w) A (getItem (.ref l) (.int k t)) P E s := by
  obtain ⟨j, e1, e2⟩ := Zme e
  obtain ⟨v, e3, hv⟩ := Zcy hvs e2
  have hl := Zu hvs
  simp only [Array.length_toList] at hl
  obtain ⟨hj, hk⟩ := Zcb e1
  have := hf
  unfold Y3 at this
  rcases hk with ⟨h0, rfl⟩ | ⟨h0, h1, rfl⟩
  · exact wpAny_getItem_list ⟨o, ho, hc, n, hd⟩ h0 (by exact Z4u hl this hj) (by rw [← Array.getElem?_toList]; exact e3) (hq v hv)
  · refine wpAny_getItem_list_neg ⟨o, ho, hc, n, hd⟩ h0 (by rw [← hl]; exact h1) (by exact Z4t hl this h1) ?_ (hq v hv)
    rw [← hl, ← Array.getElem?_toList]; exact e3
theorem Zcm {a : Addr} {o : Obj} {T : String} (ho : s.heap.get? a = some o) (hc : o.cls = .type T) : s.TypeIs (.ref a) T := ⟨o, ho, hc⟩
theorem Zpe {value slice : Expr} {o i : V} {u v : Value} {Q : V → Prop} {P : Value → Shared → Prop} (X : Cx g sc r c A env s.heap σ ℓ) (ho : VR g s.heap o u) (hi : VR g s.heap i v) (h : Za8 o i σ Q)
    (hs : ∀ a b, subscripted slice false a b = operate [a, b] (getItem a b)) (hq : ∀ x w tk, Q x → VR g s.heap x w → P w { s with toks := tk }) : wpAny (model g.prog g.w) A (subscriptTail value slice u v) P E s := by
  have hu := X.room.cline
  unfold Za8 at h
  split at h
  · rename_i xs
    split at h
    · rename_i k
      split at h
      · rename_i x e
        rw [Zx] at hi; obtain ⟨t, rfl⟩ := hi
        rw [Xn] at ho; obtain ⟨hf, a, ob, vs, n, rfl, nh, hob, hc, hd, hvs⟩ := ho
        obtain ⟨j, e1, e2⟩ := Zme e
        obtain ⟨w, e3, hw⟩ := Zcy hvs e2
        have hl := Zu hvs
        simp only [Array.length_toList] at hl
        obtain ⟨hj, hk⟩ := Zcb e1
        have := hf
        unfold Y3 at this
        exact tail_any (Zcm hob hc) slot_tuple_getitem.lookup (getItem_tuple ⟨ob, hob, hc, n, hd⟩ (by exact Z4s hl hk this) (by exact Z4r hl hj hk this) (by rw [← hl]; exact e1) (by rw [← Array.getElem?_toList]; exact e3) (hq x w s.toks h hw)) (hs _ _)
      · exact h.elim
    · exact h.elim
  · rename_i xs
    split at h
    · rename_i k
      split at h
      · rename_i x e
        rw [Zx] at hi; obtain ⟨t, rfl⟩ := hi
        rw [Zcl] at ho; obtain ⟨hf, a, ob, vs, n, rfl, hob, hc, hd, hvs⟩ := ho
        exact tail_any (Zcm (X.rel.base _ _ hob) hc) slot_list_getitem.lookup (Zhd (X.rel.base _ _ hob) hc hd hf hvs e fun w hw => hq x w s.toks h hw) (hs _ _)
      · exact h.elim
    · exact h.elim
  · rename_i a
    rw [Z9] at ho; subst ho
    split at h
    · rename_i xs ea
      obtain ⟨_, hf, vs, n, hob, hvs⟩ := X.rel.own a _ ea
      split at h
      · rename_i k
        split at h
        · rename_i x e
          rw [Zx] at hi; obtain ⟨t, rfl⟩ := hi
          exact tail_any (Zcm hob rfl) slot_list_getitem.lookup (Zhd hob rfl rfl hf hvs e fun w hw => hq x w s.toks h hw) (hs _ _)
        · exact h.elim
      · exact h.elim
    · rename_i kvs ep ea
      obtain ⟨_, hf, us, hd, hk, hvs⟩ := X.rel.own a _ ea
      split at h
      · rename_i k
        split at h
        · rename_i x e
          rw [Zx] at hi; obtain ⟨t, rfl⟩ := hi
          obtain ⟨w, e2, hw⟩ := Zcv hk hvs e
          exact tail_any hd.dictOf.typeIs slot_dict_getitem.lookup (wpAny_getItem_of (intKind_is _ _ k t) hd.dictOf.mapOf e2 (hq x w _ h hw)) (hs _ _)
        · exact h.elim
      · exact h.elim
    · rename_i kvs ep ea
      obtain ⟨_, hf, us, hd, hk, hvs⟩ := X.rel.own a _ ea
      split at h
      · rename_i k
        split at h
        · rename_i x e
          rw [Z8] at hi; obtain ⟨_, t, rfl⟩ := hi
          obtain ⟨w, e2, hw⟩ := Zcv hk hvs e
          exact tail_any hd.dictOf.typeIs slot_dict_getitem.lookup (wpAny_getItem_of (strKind_is _ _ k t) hd.dictOf.mapOf e2 (hq x w _ h hw)) (hs _ _)
        · exact h.elim
      · exact h.elim
    · rename_i kvs ep ea
      obtain ⟨_, hf, us, hd, hk, hvs⟩ := X.rel.own a _ ea
      obtain ⟨ks, rfl, h⟩ := h
      split at h
      · rename_i x e
        obtain ⟨ka, rfl, _, hka⟩ := Zb7 hi
        obtain ⟨p, e2, hw⟩ := Zkp hk hvs e
        exact tail_any hd.ofH.typeIs slot_dict_getitem.lookup (wpAny_getItem_heap (knd := tupleKind (intKind g.prog g.w)) (tupleKind_room_in1 (by exact Zvc hu)) hka hd.ofH e2 (hq x p.2 _ h hw)) (hs _ _)
      · exact h.elim
    · exact h.elim
  · exact h.elim
end
noncomputable def Y4 (t₁ t₂ : TE) : TE := fun ℓ σ Q E => t₁ ℓ σ (fun a σ₁ => t₂ ℓ σ₁ (fun b σ₂ => Za8 a b σ₂ fun x => Q x σ₂) E) E
theorem Zj {e₁ e₂ : Expr} {t₁ t₂ : TE} {pos : Pos} (h1 : Y1 g sc r c e₁ t₁) (h2 : Y1 g sc r c e₂ t₂) (hs : ∀ a b, subscripted e₂ false a b = operate [a, b] (getItem a b)) : Y1 g sc r c (.Subscript e₁ e₂ pos) (Y4 t₁ t₂) := .mk fun A env s ℓ σ Q E X h => by
  refine Subscript_ (wpAny_mono (h1.run A env s ℓ σ _ E X h) (fun u s₁ p => ?_) fun _ _ p => p)
  refine Wr.elim p fun a σ₁ hu hR hx hs1 hq => ?_
  have X₁ := X.step hR hx
  refine wpAny_mono (h2.run A env s₁ ℓ σ₁ _ E X₁ hq) (fun v s₂ p => ?_) fun _ _ p => p.back hx hs1
  refine Wr.elim p fun b σ₂ hv hR2 hx2 hs2 hq2 => ?_
  exact X7 (hx.trans hx2) (hs1.trans hs2) (Zpe (X₁.step hR2 hx2) (hx2.vr hR Yw hu) hv hq2 hs fun x w tk hx hw => Xj hR2 hw hx)
noncomputable def loN : Option Int → Nat
  | some a => a.toNat
  | none => 0
noncomputable def hiN (n : Nat) : Option Int → Nat
  | some b => min b.toNat n
  | none => n
noncomputable def Zhw {α : Type} (xs : List α) : Option Int → List α
  | some b => xs.take b.toNat
  | none => xs
noncomputable def Zfg {α : Type} (lo hi : Option Int) (xs : List α) : List α := (Zhw xs hi).drop (loN lo)
noncomputable def Zb4 : Option Int → Prop
  | some a => 0 ≤ a
  | none => True
theorem Zdu {α : Type} (lo hi : Option Int) (xs : List α) : (Zfg lo hi xs).length ≤ xs.length := by
  unfold Zfg
  rw [List.length_drop]
  cases hi with
  | none => exact Nat.sub_le _ _
  | some b => unfold Zhw; rw [List.length_take]; exact Z4q
theorem Zlb {g : Gr} {h : Heap} {xs : List V} {vs : List Value} (lo hi : Option Int) (a : VRs g h xs vs) : VRs g h (Zfg lo hi xs) (Zfg lo hi vs) := by
  unfold Zfg
  cases hi with
  | none => exact Zis _ a
  | some b => exact Zis _ (Zmi _ a)
theorem Zg5 {α : Type} (xs : List α) (a b : Nat) : (xs.drop (min a xs.length)).take (min b xs.length - min a xs.length) = (xs.take b).drop a := by
  rw [List.drop_take, List.take_eq_take_min (i := b - a), List.length_drop, Nat.sub_min_sub_right]
  rcases Nat.le_total a xs.length with q | q
  · rw [Nat.min_eq_left q]
  · rw [Nat.min_eq_right q, List.drop_eq_nil_of_le (Nat.le_refl _), List.drop_eq_nil_of_le q, List.take_nil, List.take_nil]
theorem Zr2 {a : Int} (h : 0 ≤ a) (n : Nat) : min a (n : Int) = ((min a.toNat n : Nat) : Int) := by
  obtain ⟨m, rfl⟩ := Int.eq_ofNat_of_zero_le h
  rw [Int.toNat_natCast]
  rcases Nat.le_total m n with q | q
  · rw [Nat.min_eq_left q, Int.min_eq_left (Int.ofNat_le.2 q)]
  · rw [Nat.min_eq_right q, Int.min_eq_right (Int.ofNat_le.2 q)]
theorem Zl7 {α : Type} (xs : List α) (hi : Option Int) : Zhw xs hi = xs.take (hiN xs.length hi) := by
  cases hi with
  | none => unfold Zhw hiN; rw [List.take_length]
  | some b => unfold Zhw hiN; rw [← List.take_take, List.take_length]
theorem Zsr (n : Nat) (hi : Option Int) : hiN n hi ≤ n := by cases hi <;> simp only [hiN] <;> omega
theorem Zh5 (items : Array Value) {lo hi : Option Int} (h1 : Zb4 lo) (h2 : Zb4 hi) : (slicePick items lo hi none).toList = Zfg lo hi items.toList := by
  have hn : items.toList.length = items.size := by simp
  have e : sliceBounds lo hi none items.size = (((min (loN lo) items.size : Nat) : Int), ((hiN items.size hi : Nat) : Int), 1) := by
    simp only [sliceBounds, Option.getD_none, show (1 : Int) > 0 by decide, if_true]
    congr 1
    · cases lo with
      | none => simp [loN]
      | some a => have : 0 ≤ a := h1
                  unfold loN; dsimp only; rw [if_neg (Int.not_lt.2 this), Zr2 this]; exact Int.max_eq_right (Int.natCast_nonneg _)
    · congr 1
      cases hi with
      | none => rfl
      | some b => have : 0 ≤ b := h2
                  unfold hiN; dsimp only; rw [if_neg (Int.not_lt.2 this), Zr2 this]; exact Int.max_eq_right (Int.natCast_nonneg _)
  unfold slicePick
  rw [e]
  simp only [sliceRange_one, pick_run]
  unfold Zfg
  rw [Zl7]
  have := Zg5 items.toList (loN lo) (hiN items.toList.length hi)
  rw [Nat.min_eq_left (Zsr _ hi), hn] at this
  rw [hn]
  exact this
end
section
open PySem PyProof.Rows
variable {g : Gr} {sc : Scope} {r : Nat} {c : Bool}
section
variable {prog : Program} {w : World} {A : Around} {E : Value → Shared → Prop} {s : Shared}
theorem Zdh {v : Value} {k : Option Int} {Q : Option Int → Shared → Prop} (p : IsPart v k) (h : Q k s) : wpAny (model prog w) A (Builtin.Slice.slicePartIndex v) Q E s := by
  cases p with
  | none => exact slicePart_none h
  | int i t => exact slicePart_int h
theorem Znp {lo hi : Option Int} (h1 : Zb4 lo) (h2 : Zb4 hi) (n : Nat) : Builtin.Slice.sliceAdjust lo hi 1 (n : Int) = (((min (loN lo) n : Nat) : Int), ((hiN n hi : Nat) : Int)) := by
  unfold Builtin.Slice.sliceAdjust
  have e : ¬ ((1 : Int) < 0) := by exact Z4p
  simp only [e, if_false]
  congr 1
  · cases lo with
    | none => simp [loN]
    | some a => have : 0 ≤ a := h1
                simp only [loN]; rw [if_neg (Int.not_lt.2 this), Zr2 this]
  · cases hi with
    | none => rfl
    | some b => have : 0 ≤ b := h2
                simp only [hiN]; rw [if_neg (Int.not_lt.2 this), Zr2 this]
theorem Zm8 (a b : Nat) : Builtin.Slice.slicePlaces (a : Int) (b : Int) 1 = b - a := by
  unfold Builtin.Slice.slicePlaces
  have h1 : (1 : Int) > 0 := by decide
  simp only [h1, if_true, Int.ediv_one]
  split <;> omega
theorem Zfa {sl : Addr} {vl vu : Value} {lo hi : Option Int} {n : Nat} {Q : Int × Int × Nat → Shared → Prop} (hs : s.heap.IsSliceOf sl vl vu .none) (p1 : IsPart vl lo) (p2 : IsPart vu hi) (h1 : Zb4 lo) (h2 : Zb4 hi)
    (h : Q (((min (loN lo) n : Nat) : Int), 1, hiN n hi - min (loN lo) n) s) : wpAny (model prog w) A (Builtin.Slice.sliceApplied (.ref sl) (pure (n : Int))) Q E s := by
  obtain ⟨os, hos, hcs, hds⟩ := id hs
  unfold Builtin.Slice.sliceApplied Builtin.Slice.sliceFields
  refine wpAny_bind (wpAny_bind (wpAny_field hos hds (x := vl) rfl (wpAny_bind (wpAny_field hos hds (x := vu) rfl (wpAny_bind (wpAny_field hos hds (x := .none) rfl (wpAny_pure ?_)))))))
  refine wpAny_bind (slicePart_none ?_)
  show wpAny _ _ (if ((1 : Int) == 0) = true then _ else _) _ _ s
  rw [if_neg (by decide)]
  refine wpAny_bind (Zdh p1 (wpAny_bind (Zdh p2 (wpAny_bind (wpAny_pure ?_)))))
  show wpAny _ _ (match Builtin.Slice.sliceAdjust lo hi 1 (n : Int) with | (lo, hi) => pure (lo, (1 : Int), Builtin.Slice.slicePlaces lo hi 1)) _ _ s
  rw [Znp h1 h2]
  show wpAny _ _ (pure (((min (loN lo) n : Nat) : Int), (1 : Int), Builtin.Slice.slicePlaces ((min (loN lo) n : Nat) : Int) ((hiN n hi : Nat) : Int) 1)) _ _ s
  rw [Zm8]
  exact wpAny_pure h
theorem Zlw (xs : Array Value) (lo hi : Option Int) : ((List.range (hiN xs.size hi - min (loN lo) xs.size)).filterMap fun (k : Nat) => xs[(((min (loN lo) xs.size : Nat) : Int) + (k : Int) * 1).toNat]?) = Zfg lo hi xs.toList := by
  have hn : xs.toList.length = xs.size := by simp
  have e : (fun (k : Nat) => xs[(((min (loN lo) xs.size : Nat) : Int) + (k : Int) * 1).toNat]?) = fun k => xs[min (loN lo) xs.size + k]? := by
    funext k
    rw [Int.mul_one]; rfl
  rw [e]
  have := pick_run xs (min (loN lo) xs.size) (hiN xs.size hi - min (loN lo) xs.size)
  rw [List.filterMap_map] at this
  have e2 : ((fun x => xs[x]?) ∘ fun x => min (loN lo) xs.size + x) = fun k => xs[min (loN lo) xs.size + k]? := rfl
  rw [e2] at this
  rw [this]
  unfold Zfg
  rw [Zl7]
  have q := Zg5 xs.toList (loN lo) (hiN xs.toList.length hi)
  rw [Nat.min_eq_left (Zsr _ hi), hn] at q
  rw [hn]; exact q
theorem Zer {t sl : Addr} {items : Array Value} {vl vu : Value} {lo hi : Option Int} {Q : Value → Shared → Prop} (ht : IsTup s.heap t items) (hs : s.heap.IsSliceOf sl vl vu .none) (p1 : IsPart vl lo) (p2 : IsPart vu hi) (h1 : Zb4 lo) (h2 : Zb4 hi)
    (hq1 : Zfg lo hi items.toList = items.toList → Q (.ref t) s) (hq2 : Q (.ref s.heap.objs.size) { s with heap := s.heap.push { cls := .type "tuple", data := .seq (Zfg lo hi items.toList).toArray } })
    (hsz : items.size ≤ sizeLine) : wpAny (model prog w) A (getItem (.ref t) (.ref sl)) Q E s := by
  have hdrop : sizeOk (.seq (Zfg lo hi items.toList).toArray) := by
    show (Zfg lo hi items.toList).toArray.size ≤ sizeLine
    have h3 := Zdu lo hi items.toList
    have h4 : items.toList.length = items.size := by simp
    have h5 : (Zfg lo hi items.toList).toArray.size = (Zfg lo hi items.toList).length := List.size_toArray
    exact Z4o hsz h3 h4 h5
  obtain ⟨os, hos, hcs, hds⟩ := id hs
  have hTs : s.TypeIs (.ref sl) "slice" := ⟨os, hos, hcs⟩
  unfold getItem
  try with_reducible refine wpAny_holding ?_
  refine wpAny_bind (wpAny_sequenceKey ht.typeIs (by decide) ?_)
  refine wpAny_bind (wpAny_callSpecial?_slot (name := Str.ofString "__getitem__") ht.typeIs slot_tuple_getitem
    (wpAny_call_entry slot_tuple_getitem ht.typeIs entry_tuple_getitem ?_ (args_tuple_getitem _ _)))
  show wpAny _ _ (Builtin.Tuple.tupleItemsOf (.ref t) >>= _) _ _ s
  refine wpAny_bind (tupleItemsOf_ ht ?_)
  refine wpAny_bind (wpAny_typeOf hTs ?_)
  rw [if_pos (by decide)]
  refine wpAny_bind (Zfa hs p1 p2 h1 h2 ?_)
  show wpAny _ _ (if (((min (loN lo) items.size : Nat) : Int) == 0 && (1 : Int) == 1 && (hiN items.size hi - min (loN lo) items.size) == items.size) = true then _ else _) _ _ s
  split
  · rename_i q
    simp only [Bool.and_eq_true, beq_iff_eq] at q
    have e : Zfg lo hi items.toList = items.toList := by
      rw [← Zlw, q.2]
      have : min (loN lo) items.size = 0 := by exact Z4n q
      rw [this]
      have e2 := pick_run items 0 items.size
      rw [List.filterMap_map] at e2
      have e3 : ((fun x => items[x]?) ∘ fun x => 0 + x) = fun (k : Nat) => items[(((0 : Nat) : Int) + (k : Int) * 1).toNat]? := by
        funext k
        show items[0 + k]? = _
        congr 1; exact Z4m
      rw [e3] at e2
      rw [e2, List.drop_zero]
      exact List.take_of_length_le (by simp)
    refine wpAny_bind (m := Builtin.Tuple.tupleIsExact (.ref t)) ?_
    unfold Builtin.Tuple.tupleIsExact
    refine wpAny_bind (wpAny_typeOf ht.typeIs (wpAny_pure ?_))
    rw [if_pos (by decide)]
    exact wpAny_bind (wpAny_rule (wpAny_pure ⟨_, rfl, wpAny_pure (hq1 e)⟩))
  · rw [Zlw]
    exact wpAny_bind (m := Builtin.Tuple.tupleExact _) (wpAny_newObj_type (wpAny_pure ⟨_, rfl, wpAny_pure hq2⟩) hdrop)
end
structure Zww (g : Gr) (sc : Scope) (r : Nat) (c : Bool) (e : Option Expr) (t : TE) : Prop where
  run : ∀ A env s ℓ σ Q E, Cx g sc r c A env s.heap σ ℓ → t ℓ σ Q E → wpAny (model g.prog g.w) A (evalPart e env) (Wq g s σ Q) (Xx g A s σ E) s
theorem Zod : Zww g sc r c none (Zq .none) := .mk fun A env s ℓ σ Q E X h => wpAny_pure (.here (Xu.mpr rfl) X.rel h)
theorem Zfm {e : Expr} {t : TE} (h1 : Y1 g sc r c e t) : Zww g sc r c (some e) t := .mk h1.run
noncomputable def Zj3 : V → Option (Option Int)
  | .none => some none
  | .int i => some (some i)
  | _ => none
theorem Zjn {g : Gr} {h : Heap} {x : V} {v : Value} {k : Option Int} (hv : VR g h x v) (e : Zj3 x = some k) : IsPart v k := by
  cases x with
  | none => rw [Xu] at hv; subst hv; cases e; exact .none
  | int i => rw [Zx] at hv; obtain ⟨t, rfl⟩ := hv; cases e; exact .int i t
  | _ => cases e
noncomputable def Zlp (o : V) (lo hi : V) (σ : AH) (Q : V → AH → Prop) : Prop := match Zj3 lo, Zj3 hi with
  | some l, some h => Zb4 l ∧ Zb4 h ∧ (match o with
    | .tup xs => Q (.tup (Zfg l h xs)) σ
    | .frz xs => ∀ a, σ a = none → Q (.ref a) (σ.set a (.list (Zfg l h xs)))
    | .ref a => (match σ a with
      | some (.list xs) => ∀ a, σ a = none → Q (.ref a) (σ.set a (.list (Zfg l h xs)))
      | _ => False)
    | _ => False)
  | _, _ => False
noncomputable def Zn5 (t t₁ t₂ : TE) : TE := fun ℓ σ Q E => t ℓ σ (fun o σ₁ => t₁ ℓ σ₁ (fun lo σ₂ => t₂ ℓ σ₂ (fun hi σ₃ => Zlp o lo hi σ₃ Q) E) E) E
theorem Zgz {e : Expr} {lo hi : Option Expr} {t t₁ t₂ : TE} {p pos : Pos} (h0 : Y1 g sc r c e t) (h1 : Zww g sc r c lo t₁) (h2 : Zww g sc r c hi t₂) : Y1 g sc r c (.Subscript e (.Slice lo hi none p) pos) (Zn5 t t₁ t₂) := .mk fun A env s ℓ σ Q E X h => by
  refine Subscript_ (wpAny_mono (h0.run A env s ℓ σ _ E X h) (fun u s₁ q => ?_) fun _ _ q => q)
  obtain ⟨o, σ₁, hu, hR, hx, hs1, hq⟩ := q
  have X₁ := X.step hR hx
  refine wpAny_Slice (wpAny_mono (h1.run A env s₁ ℓ σ₁ _ E X₁ hq) (fun vl s₂ q => ?_) fun _ _ q => q.back hx hs1)
  obtain ⟨lo', σ₂, hl, hR2, hx2, hs2, hq2⟩ := q
  have X₂ := X₁.step hR2 hx2
  have hx02 := hx.trans hx2
  have hs02 := hs1.trans hs2
  refine wpAny_mono (h2.run A env s₂ ℓ σ₂ _ E X₂ hq2) (fun vu s₃ q => ?_) fun _ _ q => q.back hx02 hs02
  obtain ⟨hi', σ₃, hh, hR3, hx3, hs3, hq3⟩ := q
  have X₃ := X₂.step hR3 hx3
  have hx03 := hx02.trans hx3
  have hs03 := hs02.trans hs3
  rw [evalPart_none]
  refine wpAny_pure ?_
  have hu3 : VR g s₃.heap o u := hx3.vr hR2 Yw (hx2.vr hR Yw hu)
  have hl3 := hx3.vr hR2 Yw hl
  unfold Zlp at hq3
  split at hq3
  · rename_i l hb e1 e2
    obtain ⟨n1, n2, hq3⟩ := hq3
    have p1 := Zjn hl3 e1
    have p2 := Zjn hh e2
    have hk := Yo s₃.heap { cls := .type "slice", data := .fields #[vl, vu, .none] }
    have sub : ∀ a b, subscripted (.Slice lo hi none p) false a b = operate [b, a] (getItem a b) := fun _ _ => rfl
    have hR4 := hR3.keeps hk
    have hx04 : Ext No s.heap σ (s₃.heap.push { cls := .type "slice", data := .fields #[vl, vu, .none] }) σ₃ := hx03.trans (.keeps hk)
    have hs04 : Wv s { s₃ with heap := s₃.heap.push { cls := .type "slice", data := .fields #[vl, vu, .none] } } := hs03.trans ⟨rfl, rfl, rfl⟩
    have cutL : ∀ (a : Addr) (ob : Obj) (vs : Array Value) (n : Nat) (xs : List V), s₃.heap.get? a = some ob → ob.cls = .type "list" → ob.data = .seq vs n → Y3 xs.length → VRs g s₃.heap xs vs.toList →
        (∀ a, σ₃ a = none → Q (.ref a) (σ₃.set a (.list (Zfg l hb xs)))) →
        wpAny (model g.prog g.w) A (subscriptTail e (.Slice lo hi none p) (.ref a) (.ref s₃.heap.objs.size)) (Wq g s σ Q) (Xx g A s σ E) { s₃ with heap := s₃.heap.push { cls := .type "slice", data := .fields #[vl, vu, .none] } } := by
      intro a ob vs n xs hob hc hd hf hvs hQ
      have hlen := Zu hvs
      simp only [Array.length_toList] at hlen
      refine tail_any (Zcm (s := { s₃ with heap := s₃.heap.push { cls := .type "slice", data := .fields #[vl, vu, .none] } }) (hk _ _ hob) hc) slot_list_getitem.lookup ?_ (sub _ _)
      refine wpAny_getItem_list_slice (s := { s₃ with heap := s₃.heap.push { cls := .type "slice", data := .fields #[vl, vu, .none] } }) ⟨ob, hk _ _ hob, hc, n, hd⟩ (Heap.IsSliceOf.new ..) p1 p2 .none (by simp) ?_ (by rw [← hlen]; exact hf.line)
      refine Zbn (vs := (slicePick vs l hb none).toList) (n := 0) (s₁ := { s₃ with heap := s₃.heap.push { cls := .type "slice", data := .fields #[vl, vu, .none] } }) hx04 hs04 hR4 ?_ (hf.le (Zdu ..)) hQ rfl
      rw [Zh5 vs n1 n2]
      exact Zlb _ _ (VRs.mono (fun a o _ _ _ e _ _ => .of (hk a o e)) hvs)
    split at hq3
    · rename_i xs
      rw [Xn] at hu3; obtain ⟨hf, a, ob, vs, n, rfl, nh, hob, hc, hd, hvs⟩ := hu3
      have hlen := Zu hvs
      simp only [Array.length_toList] at hlen
      have ht : IsTup (s₃.heap.push { cls := .type "slice", data := .fields #[vl, vu, .none] }) a vs := ⟨ob, hk _ _ hob, hc, n, hd⟩
      have hvs4 := VRs.mono (g := g) (h' := s₃.heap.push { cls := .type "slice", data := .fields #[vl, vu, .none] }) (fun a o _ _ _ e _ _ => .of (hk a o e)) hvs
      refine tail_any (Zcm (s := { s₃ with heap := s₃.heap.push { cls := .type "slice", data := .fields #[vl, vu, .none] } }) (hk _ _ hob) hc) slot_tuple_getitem.lookup ?_ (sub _ _)
      refine Zer (s := { s₃ with heap := s₃.heap.push { cls := .type "slice", data := .fields #[vl, vu, .none] } }) ht (Heap.IsSliceOf.new ..) p1 p2 n1 n2 (fun ec => ?_) ?_ (by rw [← hlen]; exact hf.line)
      · have : Zfg l hb xs = xs := by
          apply List.ext_getElem?
          have h1 := Zu (Zlb l hb hvs)
          rw [ec] at h1
          have h2 : (Zfg l hb xs).length = xs.length := by rw [h1]; simp [hlen]
          intro i
          unfold Zfg at h2 ⊢
          rw [List.length_drop] at h2
          have h4 : (Zhw xs hb).length ≤ xs.length := by
            cases hb with
            | none => exact Nat.le_refl _
            | some b => simp only [Zhw]; rw [List.length_take]; exact Z4l hlen h2
          by_cases h5 : xs.length = 0
          · have : xs = [] := List.length_eq_zero_iff.mp h5
            subst this
            cases hb <;> simp [Zhw]
          · have h6 : loN l = 0 := by exact Z4k hlen h2 h4 h5
            rw [h6, List.drop_zero]
            cases hb with
            | none => rfl
            | some b =>
              simp only [Zhw] at h2 h4 ⊢
              rw [h6, List.length_take] at h2
              rw [List.take_of_length_le (by exact Z4j hlen h2)]
        rw [this] at hq3
        exact ⟨.tup xs, σ₃, Xn.mpr ⟨hf, a, ob, vs, n, rfl, nh, hk _ _ hob, hc, hd, hvs4⟩, hR4, hx04, hs04, hq3⟩
      · exact Zcc (s₁ := { s₃ with heap := s₃.heap.push { cls := .type "slice", data := .fields #[vl, vu, .none] } }) (n := 0) hx04 hs04 hR4 (Zlb l hb hvs4) (hf.le (Zdu ..)) hq3 rfl
    · rename_i xs
      rw [Zcl] at hu3; obtain ⟨hf, a, ob, vs, n, rfl, hob, hc, hd, hvs⟩ := hu3
      exact cutL a ob vs n xs (hR3.base _ _ hob) hc hd hf hvs hq3
    · rename_i a
      rw [Z9] at hu3; subst hu3
      split at hq3
      · rename_i xs ea
        obtain ⟨_, hf, vs, n, hob, hvs⟩ := hR3.own a _ ea
        exact cutL a _ vs n xs hob rfl rfl hf hvs hq3
      · exact hq3.elim
    · exact hq3.elim
  · exact hq3.elim
end
section
open PySem PyProof.Rows
variable {g : Gr} {sc : Scope} {r : Nat} {c : Bool}
theorem Wt {a b : String} (h : Str.ofString a = Str.ofString b) : a = b := by
  rw [Str.ofString_eq_toList, Str.ofString_eq_toList] at h
  have h1 : (a.toList.map Char.toNat).toArray = (b.toList.map Char.toNat).toArray := Str.mk.inj h
  have h2 : a.toList.map Char.toNat = b.toList.map Char.toNat := by simpa using h1
  have h3 : a.toList = b.toList := by
    have inj : ∀ (x y : List Char), x.map Char.toNat = y.map Char.toNat → x = y := by
      intro x
      induction x with
      | nil => intro y e; cases y with | nil => rfl | cons _ _ => simp at e
      | cons c x ih =>
        intro y e
        cases y with
        | nil => simp at e
        | cons d y =>
          simp only [List.map_cons, List.cons.injEq] at e
          have : c = d := Char.toNat_inj.mp e.1
          rw [this, ih y e.2]
    exact inj _ _ h2
  exact String.toList_inj.mp h3
inductive Fl where
  | next
  | brk
  | cont
  | ret (v : V)
noncomputable def Z2x (g : Gr) (h : Heap) : Fl → Flow → Prop
  | .next, f => f = .next
  | .brk, f => f = .brk
  | .cont, f => f = .cont
  | .ret v, f => ∃ u, f = .ret u ∧ VR g h v u
noncomputable abbrev TS := Loc → AH → (Fl → Loc → AH → Prop) → (Addr → Loc → AH → Prop) → Prop
noncomputable def Own (env : Env) : Addr → Prop := fun a => a = env.locals ∨ ∃ x, env.cells.lookup x = some a
inductive Zcz (g : Gr) (env : Env) (s : Shared) (σ : AH) (Q : Fl → Loc → AH → Prop) (f : Flow) (s' : Shared) : Prop
  | mk (f' : Fl) (ℓ' : Loc) (σ' : AH) (h0 : Z2x g s'.heap f' f) (h1 : LR g s'.heap σ' env ℓ') (h2 : Rel g s'.heap σ') (h3 : Ext (Own env) s.heap σ s'.heap σ') (h4 : Wv s s') (h5 : Q f' ℓ' σ') : Zcz g env s σ Q f s'
inductive Zgk (g : Gr) (nt : Bool) (A : Around) (env : Env) (s : Shared) (σ : AH) (E : Addr → Loc → AH → Prop) (e : Value) (s' : Shared) : Prop
  | mk (C : Addr) (ℓ' : Loc) (σ' : AH) (h1 : XAt g nt s.heap s'.heap e C σ') (h2 : LR g s'.heap σ' env ℓ') (h3 : Rel g s'.heap σ') (h4 : Ext (Own env) s.heap σ s'.heap σ') (h5 : Wv s s') (h6 : E C ℓ' σ') : Zgk g nt A env s σ E e s'
noncomputable abbrev Zar (g : Gr) := Zgk g false
section
variable (g : Gr) (sc : Scope) (r : Nat) (c : Bool)
structure Zlc (st : Stmt) (t : TS) : Prop where
  run : ∀ A env s ℓ σ Q E, Cx g sc r c A env s.heap σ ℓ → t ℓ σ Q E → wpAny (model g.prog g.w) A (exec st env) (Zcz g env s σ Q) (Zar g A env s σ E) s
structure Zdw (st : List Stmt) (t : TS) : Prop where
  run : ∀ A env s ℓ σ Q E, Cx g sc r c A env s.heap σ ℓ → t ℓ σ Q E → wpAny (model g.prog g.w) A (execs st env) (Zcz g env s σ Q) (Zar g A env s σ E) s
end
section
variable {A : Around} {env : Env} {s s₁ : Shared} {σ σ₁ : AH} {ℓ ℓ₁ : Loc}
theorem LR.noSeq {h : Heap} (L : LR g h σ env ℓ) : Zns (Own env) h := by
  rintro a o (rfl | ⟨x, e⟩) ho vs n hd
  · obtain ⟨m, ⟨o', es, ep, ho', hd', _⟩, _⟩ := L.ns
    rw [ho] at ho'; cases ho'; rw [hd] at hd'; cases hd'
  · obtain ⟨o', u, ho', hd'⟩ := L.cell x a e
    rw [ho] at ho'; cases ho'; rw [hd] at hd'; cases hd'
theorem LR.noFields {h : Heap} (L : LR g h σ env ℓ) {a : Addr} (w : Own env a) : ∃ o, h.get? a = some o ∧ ∀ vs, o.data ≠ .fields vs := by
  rcases w with rfl | ⟨x, e⟩
  · obtain ⟨m, ⟨o', es, ep, ho', hd', _⟩, _⟩ := L.ns
    exact ⟨o', ho', fun vs q => by rw [q] at hd'; cases hd'⟩
  · obtain ⟨o', u, ho', hd'⟩ := L.cell x a e
    exact ⟨o', ho', fun vs q => by rw [q] at hd'; cases hd'⟩
theorem LR.dicts {h h' : Heap} (L : LR g h σ env ℓ) (L' : LR g h' σ₁ env ℓ₁) (a : Addr) (o : Obj) (es : Array DictEntry) (n : Nat) (w : Own env a) (ho : h.get? a = some o) (hd : o.data = .dict es n) : ∃ o' es' n', h'.get? a = some o' ∧ o'.data = .dict es' n' := by
  rcases w with rfl | ⟨x, e⟩
  · obtain ⟨m, ⟨o', es', ep, ho', hd', _⟩, _⟩ := L'.ns
    exact ⟨o', es', ep, ho', hd'⟩
  · obtain ⟨o', u, ho', hd'⟩ := L.cell x a e
    rw [ho] at ho'; cases ho'; rw [hd] at hd'; cases hd'
theorem Cx.stepS (X : Cx g sc r c A env s.heap σ ℓ) (L : LR g s₁.heap σ₁ env ℓ₁) (R : Rel g s₁.heap σ₁) (x : Ext (Own env) s.heap σ s₁.heap σ₁) : Cx g sc r c A env s₁.heap σ₁ ℓ₁ :=
  ⟨X.gok, X.ok, L, X.fr.step x (X.loc.dicts L), X.room, R⟩
theorem Zcz.back {Q : Fl → Loc → AH → Prop} (x : Ext (Own env) s.heap σ s₁.heap σ₁) (y : Wv s s₁) {f : Flow} {s' : Shared} (p : Zcz g env s₁ σ₁ Q f s') : Zcz g env s σ Q f s' :=
  let ⟨a, b, d, h1, h2, h3, h4, h5, h6⟩ := p; ⟨a, b, d, h1, h2, h3, x.trans h4, y.trans h5, h6⟩
theorem Zar.back {E : Addr → Loc → AH → Prop} (x : Ext (Own env) s.heap σ s₁.heap σ₁) (y : Wv s s₁) {f : Value} {s' : Shared} (p : Zar g A env s₁ σ₁ E f s') : Zar g A env s σ E f s' :=
  let ⟨a, b, d, h1, h2, h3, h4, h5, h6⟩ := p; ⟨a, b, d, h1.back x.pres, h2, h3, x.trans h4, y.trans h5, h6⟩
theorem Zkd {M : Model} {t : Sem Flow} {Q : Fl → Loc → AH → Prop} {E : Addr → Loc → AH → Prop} (x : Ext (Own env) s.heap σ s₁.heap σ₁) (y : Wv s s₁) (h : wpAny M A t (Zcz g env s₁ σ₁ Q) (Zar g A env s₁ σ₁ E) s₁) : wpAny M A t (Zcz g env s σ Q) (Zar g A env s σ E) s₁ :=
  wpAny_mono h (fun _ _ p => p.back x y) fun _ _ p => p.back x y
theorem Ext.own {h h' : Heap} (x : Ext No h σ h' σ₁) : Ext (Own env) h σ h' σ₁ := x.weaken fun _ n => n.elim
theorem Xx.toS {E : Addr → Loc → AH → Prop} (X : Cx g sc r c A env s.heap σ ℓ) {e : Value} {s' : Shared} (p : Xx g A s σ (fun C σ' => E C ℓ σ') e s') : Zar g A env s σ E e s' :=
  let ⟨C, σ', h1, h2, h3, h4, h5⟩ := p; ⟨C, ℓ, σ', h1, X.loc.step X.rel h3, h2, h3.own, h4, h5⟩
theorem Zc5 {n : String} {k : NameKind} {x : V} {u : Value} {P : Unit → Shared → Prop} {E : Value → Shared → Prop} (X : Cx g sc r c A env s.heap σ ℓ) (hm : (Str.ofString n, k) ∈ sc.names) (hk : (k == .local || k == .cell) = true) (hv : VR g s.heap x u)
    (h : ∀ s' a, (k = .local → a = env.locals) → (k = .cell → env.cells.lookup (Str.ofString n) = some a) → Own env a → LR g s'.heap σ env (ℓ.set n x) → Rel g s'.heap σ → Ext (· = a) s.heap σ s'.heap σ → Wv s s' → P () s') : wpAny (model g.prog g.w) A (storeName env (Str.ofString n) u) P E s := by
  have hcls : (env.scope.kind == .class || (env.scope.kind == .module && env.locals != env.globals)) = false := by rw [X.ok.kind]; rfl
  have kd : env.kindOf (Str.ofString n) = some k := by
    rcases X.ok.kinds _ _ hm with q | ⟨q, _⟩
    · exact q
    · subst q; cases hk
  have relOf : ∀ (a : Addr) (h' : Heap), Own env a → Heap.SameBut a s.heap h' → (∃ o, h'.get? a = some o) → Rel g h' σ := fun a h' w hs hp => by
    have hoff : σ a = none ∧ g.b0.get? a = none := by
      rcases w with rfl | ⟨y, e⟩
      · exact X.loc.off
      · exact ⟨(X.loc.offc y a e).1, (X.loc.offc y a e).2.2⟩
    have hne : ∀ b, b = a → σ b = none := fun b q => by rw [q]; exact hoff.1
    refine ⟨fun b hb => ?_, fun b o q => (hs.2 b fun z => ?_).trans (X.rel.base b o q), fun b bo q => ⟨(X.rel.own b bo q).1, Zbs (fun d o vs m _ y t dd => .of ((hs.2 d fun z => ?_).trans y)) (fun o y => (hs.2 b fun z => ?_).trans y) (X.rel.own b bo q).2⟩⟩
    · by_cases z : b = a
      · rw [z]; exact hp
      · obtain ⟨o, q⟩ := X.rel.hid b hb; exact ⟨o, (hs.2 b z).trans q⟩
    · rw [z, hoff.2] at q; cases q
    · exact X.loc.noSeq d o (by rw [z]; exact w) y vs m dd
    · rw [z, hoff.1] at q; cases q
  have extOf : ∀ (a : Addr) (h' : Heap), Own env a → Heap.SameBut a s.heap h' → (∃ o, h'.get? a = some o) → Ext (· = a) s.heap σ h' σ := fun a h' w hs hp =>
    ⟨fun b o q _ nw => .of ((hs.2 b fun z => nw z).trans q), fun b o q => by
      by_cases z : b = a
      · rw [z]; exact hp
      · exact ⟨o, (hs.2 b z).trans q⟩, fun b q => .inl q⟩
  cases k with
  | «local» =>
    obtain ⟨m, hn, hmm⟩ := X.loc.ns
    refine wpAny_storeName_local kd hn (fun h' hn' hs' => ?_) hcls
    have w : Own env env.locals := .inl rfl
    have pr : ∃ o, h'.get? env.locals = some o := let ⟨o, _, _, e, _⟩ := hn'; ⟨o, e⟩
    have R' := relOf _ h' w hs' pr
    have x' := extOf _ h' w hs' pr
    have kv : ∀ {v : V} {u : Value}, VR g s.heap v u → VR g h' v u := x'.vr X.rel fun b o z => X.loc.noSeq b o (z ▸ w)
    refine h { s with heap := h', toks := s.toks + 1 } env.locals (fun _ => rfl) (fun z => nomatch z) w ⟨⟨_, hn', fun y v e kk => ?_⟩, fun y cc e => ?_, fun y v e kk => ?_, X.loc.off, X.loc.offc, X.loc.apart, X.loc.has⟩ R' x' ⟨rfl, rfl, rfl⟩
    · rw [Wh] at e
      split at e
      · rename_i z; subst z; cases e; exact ⟨u, by simp, kv hv⟩
      · rename_i z
        obtain ⟨u', e1, e2⟩ := hmm y v e kk
        exact ⟨u', by rw [if_neg fun q => z (Wt q)]; exact e1, kv e2⟩
    · obtain ⟨o, u', ho, hd⟩ := X.loc.cell y cc e
      exact ⟨o, u', (hs'.2 cc (X.loc.offc y cc e).2.1).trans ho, hd⟩
    · rw [Wh] at e
      split at e
      · rename_i z; subst z; rw [kd] at kk; rcases kk with kk | kk <;> cases kk
      · obtain ⟨cc, u', e1, ho, hu⟩ := X.loc.cells y v e kk
        obtain ⟨o, e2, e3⟩ := ho
        exact ⟨cc, u', e1, ⟨o, (hs'.2 cc (X.loc.offc _ cc e1).2.1).trans e2, e3⟩, kv hu⟩
  | cell =>
    have : ∃ cc, env.cells.lookup (Str.ofString n) = some cc := X.loc.has _ (.inl kd)
    obtain ⟨cc, ec⟩ := this
    obtain ⟨o, v0, ho, hd⟩ := X.loc.cell _ cc ec
    refine wpAny_storeName_cell X.ok.kind kd ec ⟨o, ho, hd⟩ fun h' hc' hs' => ?_
    have w : Own env cc := .inr ⟨_, ec⟩
    have pr : ∃ o, h'.get? cc = some o := let ⟨o, e, _⟩ := hc'; ⟨o, e⟩
    have R' := relOf _ h' w hs' pr
    have x' := extOf _ h' w hs' pr
    have kv : ∀ {v : V} {u : Value}, VR g s.heap v u → VR g h' v u := x'.vr X.rel fun b o z => X.loc.noSeq b o (z ▸ w)
    have hnl : env.locals ≠ cc := fun q => (X.loc.offc _ cc ec).2.1 q.symm
    obtain ⟨m, hn, hmm⟩ := X.loc.ns
    refine h { s with heap := h' } cc (fun z => nomatch z) (fun _ => ec) w ⟨⟨m, hn.sameBut hs' hnl, fun y v e kk => ?_⟩, fun y cc' e => ?_, fun y v e kk => ?_, X.loc.off, X.loc.offc, X.loc.apart, X.loc.has⟩ R' x' ⟨rfl, rfl, rfl⟩
    · rw [Wh] at e
      split at e
      · rename_i z; subst z; rw [kd] at kk; cases kk
      · obtain ⟨u', e1, e2⟩ := hmm y v e kk
        exact ⟨u', e1, kv e2⟩
    · by_cases z : cc' = cc
      · obtain ⟨o', e1, e2⟩ := hc'; exact ⟨o', _, by rw [z]; exact e1, e2⟩
      · obtain ⟨o', u', ho', hd'⟩ := X.loc.cell y cc' e
        exact ⟨o', u', (hs'.2 cc' z).trans ho', hd'⟩
    · rw [Wh] at e
      split at e
      · rename_i z; subst z; cases e; exact ⟨cc, u, ec, hc', kv hv⟩
      · rename_i z
        obtain ⟨c2, u', e1, ho', hu⟩ := X.loc.cells y v e kk
        obtain ⟨o2, e2, e3⟩ := ho'
        have ne : c2 ≠ cc := fun q => z (Wt (X.loc.apart _ _ cc (q ▸ e1) ec))
        exact ⟨c2, u', e1, ⟨o2, (hs'.2 c2 ne).trans e2, e3⟩, kv hu⟩
  | _ => cases hk
end
end
section
open PySem PyProof.Rows
variable {g : Gr} {sc : Scope} {r : Nat} {c : Bool}
structure Zay (g : Gr) (h0 h h' : Heap) (σ : AH) : Prop where
  up : ∀ a o, h.get? a = some o → (h0.get? a ≠ none ∨ ∀ vs, o.data ≠ .fields vs) → Zj5 h' a o
  pres : ∀ a o, h.get? a = some o → ∃ o', h'.get? a = some o'
  own : ∀ a o, h.get? a = some o → σ a ≠ none → h'.get? a = some o
  base : ∀ a o, g.b0.get? a = some o → h.get? a = some o → h'.get? a = some o
section
variable {h0 h h' h'' : Heap} {σ σ0 : AH} {env : Env} {ℓ : Loc} {A : Around}
theorem Zay.refl : Zay g h0 h h σ := ⟨fun _ _ e _ => .of e, fun _ o e => ⟨o, e⟩, fun _ _ e _ => e, fun _ _ _ e => e⟩
theorem Zay.trans (t : Zay g h0 h h' σ) (u : Zay g h0 h' h'' σ) : Zay g h0 h h'' σ := by
  refine ⟨fun a o e k => ?_, fun a o e => let ⟨o', e'⟩ := t.pres a o e; u.pres a o' e', fun a o e k => u.own a o (t.own a o e k) k, fun a o b e => u.base a o b (t.base a o b e)⟩
  obtain ⟨sl, e1⟩ := (t.up a o e k).sl
  refine (t.up a o e k).then fun o' e' => u.up a o' e' (k.imp id fun d vs q => ?_)
  rw [e1] at e'; cases e'; exact d vs q
theorem Zay.tups (t : Zay g h0 h h' σ) : Yh g h h' := fun a o vs n _ e _ d => t.up a o e (.inr fun us q => by rw [d] at q; cases q)
theorem Zay.rel (t : Zay g h0 h h' σ) (R : Rel g h σ) : Rel g h' σ :=
  ⟨fun a ha => let ⟨o, e⟩ := R.hid a ha; t.pres a o e, fun a o e => t.base a o e (R.base a o e), fun a ao e => ⟨(R.own a ao e).1, Zbs t.tups (fun o e' => t.own a o e' (by rw [e]; simp)) (R.own a ao e).2⟩⟩
theorem Zay.ext (t : Zay g h0 h h' σ) {W : Addr → Prop} (x : Ext W h0 σ0 h σ) : Ext W h0 σ0 h' σ :=
  ⟨fun a o e n w => (x.keep a o e n w).then fun o' e' => t.up a o' e' (.inl (by rw [e]; simp)), fun a o e => let ⟨o', e'⟩ := x.pres a o e; t.pres a o' e', x.dom⟩
theorem Zay.ns (t : Zay g h0 h h' σ) {a : Addr} {m : Str → Option Value} (n : h.Ns a m) : h'.Ns a m := Zds n fun o e => t.up _ o e (.inr fun vs q => by
  obtain ⟨o', es, ep, e', d', _⟩ := n; rw [e] at e'; cases e'; rw [q] at d'; cases d')
theorem Zay.loc (t : Zay g h0 h h' σ) (L : LR g h σ env ℓ) : LR g h' σ env ℓ := by
  have kv : ∀ {v : V} {u : Value}, VR g h v u → VR g h' v u := VR.mono t.tups
  obtain ⟨m, hn, hm⟩ := L.ns
  have hc : ∀ x c o, env.cells.lookup x = some c → h.get? c = some o → Zj5 h' c o := fun x c o e eo => t.up c o eo (.inr fun vs q => by
    obtain ⟨o', u, e', d'⟩ := L.cell x c e; rw [eo] at e'; cases e'; rw [q] at d'; cases d')
  refine ⟨⟨m, t.ns hn, fun y v a b => let ⟨u, e, f⟩ := hm y v a b; ⟨u, e, kv f⟩⟩, fun y c e => ?_, fun y v a k => ?_, L.off, L.offc, L.apart, L.has⟩
  · obtain ⟨o, u, ho, hd⟩ := L.cell y c e
    obtain ⟨sl, ho'⟩ := (hc y c o e ho).sl
    exact ⟨_, u, ho', hd⟩
  · obtain ⟨c, u, e, ho, hv⟩ := L.cells y v a k
    exact ⟨c, u, e, Zcx ho fun o z => hc _ c o e z, kv hv⟩
theorem Zay.fr (t : Zay g h0 h h' σ) (F : Zkc g A env h σ) : Zkc g A env h' σ := by
  obtain ⟨e0, outer, hA, hf, ff, off, r1, r2, r3, r4⟩ := F
  obtain ⟨k1, k2⟩ := W9 (W := No) (h' := h') (σ' := σ) (fun a o es n e d q => by
    obtain ⟨sl, e1⟩ := (t.up a o e (.inr fun vs z => by rw [d] at z; cases z)).sl
    exact ⟨q, _, es, n, e1, d⟩) _ ff off
  exact ⟨e0, outer, hA, hf, k1, k2, r1, r2, r3, r4⟩
end
theorem Zrw (f : Array Value → Array Value) (o : Obj) : (Obj.mapFields f o).dict = o.dict := by
  obtain ⟨c, d, dt, sl⟩ := o; cases dt <;> rfl
section
variable {M : Model} {A : Around} {env : Env} {s : Shared} {σ : AH} {h0 : Heap} {e : Value} {C : Addr} {Q : Unit → Shared → Prop} {E : Value → Shared → Prop}
theorem Zsc {a T : Addr} {o oT : Obj} {vs ts : Array Value} (x0 : h0.get? a = none) (xb : g.b0.get? a = none) (xs : σ a = none) (xo : s.heap.get? a = some o) (xc : o.cls = .ref C) (xn : o.dict = none) (xd : o.data = .fields vs) (xz : 1 < vs.size)
    (et : vs[1]? = some (.ref T)) (ne : T ≠ a) (t0 : h0.get? T = none) (tb : g.b0.get? T = none) (ts0 : σ T = none) (ho : s.heap.get? T = some oT) (hd : oT.data = .fields ts) (hs : 3 < ts.size) {v : Value}
    (k : ∀ s', Zay g h0 s.heap s'.heap σ → XAt g true h0 s'.heap (.ref a) C σ → Wv s s' → Q () s') : wpAny M A (setField (.ref T) 3 v) Q E s := by
  have other : ∀ b, b ≠ T → (s.heap.update T (Obj.mapFields (·.setIfInBounds 3 v))).get? b = s.heap.get? b := fun b hb => Heap.get?_update_other _ _ (Ne.symm hb)
  have hd' := Obj.data_mapFields hd (·.setIfInBounds 3 v)
  have self := Heap.get?_update_self (Obj.mapFields (·.setIfInBounds 3 v)) ho (Obj.isFreed_of_fields hd')
  refine wpAny_setField ho hd hs (k _ ⟨fun b o' e k => ?_, fun b o' e => ?_, fun b o' e k => ?_, fun b o' b0 e => ?_⟩ ?_ ⟨rfl, rfl, rfl⟩)
  · refine .of ((other b fun z => ?_).trans e)
    subst z
    rcases k with k | k
    · exact k t0
    · rw [ho] at e; cases e; exact k _ hd
  · by_cases z : b = T
    · subst z; exact ⟨_, self⟩
    · exact ⟨o', (other b z).trans e⟩
  · exact (other b fun z => k (z ▸ ts0)).trans e
  · exact (other b fun z => by rw [z, tb] at b0; cases b0).trans e
  · exact ⟨a, o, vs, rfl, x0, xb, xs, (other a (Ne.symm ne)).trans xo, xc, xn, xd, xz, .inr ⟨T, _, _, et, ne, t0, tb, ts0, self, hd', by simpa using hs⟩⟩
theorem Zbb {fr : Option Addr} (x : XAt g true h0 s.heap e C σ) (k : ∀ s', Zay g h0 s.heap s'.heap σ → XAt g true h0 s'.heap e C σ → Wv s s' → Q () s') : wpAny M A (setFlight e fr) Q E s := by
  obtain ⟨a, o, vs, rfl, x0, xb, xs, xo, xc, xn, xd, xz, xt⟩ := x
  rcases xt with ⟨z, _⟩ | ⟨T, oT, ts, et, ne, t0, tb, ts0, ho, hd, hs⟩
  · cases z
  unfold setFlight
  refine wpAny_bind (wpAny_field xo xd et ?_)
  rw [if_pos (show (Value.ref T != Value.none) = true from by simp)]
  exact Zsc x0 xb xs xo xc xn xd xz et ne t0 tb ts0 ho hd hs k
theorem Ztw {P : Value → Shared → Prop} (x : XAt g true h0 s.heap e C σ) (k : ∀ s', Zay g h0 s.heap s'.heap σ → XAt g true h0 s'.heap e C σ → Wv s s' → P e s') : cameBackBy M A env P e s := by
  have y := x
  obtain ⟨a, o, vs, rfl, x0, xb, xs, xo, xc, xn, xd, xz, xt⟩ := x
  rcases xt with ⟨z, _⟩ | ⟨T, oT, ts, et, ne, t0, tb, ts0, ho, hd, hs⟩
  · cases z
  show wpAny M A (field (.ref a) 1 >>= _) _ _ _
  refine wpAny_bind (wpAny_field xo xd et ?_)
  rw [if_neg (by simp)]
  exact Zbb y fun s' t x hs => k s' t x hs
theorem Ztc {α : Type} {what : String} {cenv : Env} {Q : α → Shared → Prop} (x : XAt g true h0 s.heap e C σ) (k : ∀ s', Zay g h0 s.heap s'.heap σ → XAt g true h0 s'.heap e C σ → Wv s s' → E e s') : wpAny M A (PySem.passOn what e cenv : Sem α) Q E s := by
  have y := x
  obtain ⟨a, o, vs, rfl, x0, xb, xs, xo, xc, xn, xd, xz, xt⟩ := x
  rcases xt with ⟨z, _⟩ | ⟨T, oT, ts, et, ne, t0, tb, ts0, ho, hd, hs⟩
  · cases z
  unfold PySem.passOn
  refine wpAny_bind (wpAny_field xo xd et ?_)
  rw [if_neg (by simp)]
  exact wpAny_bind (Zbb y fun s' t x hs => wpAny_throw (k s' t x hs))
theorem Zl9 {nt : Bool} {L a : Addr} {head : Value} {had : Bool} (F : Zkc g A env s.heap σ) (hL : env.frame = some L) (R : Rel g s.heap σ) (hp : ∀ b o, h0.get? b = some o → ∃ o', s.heap.get? b = some o') (x : XAt g nt h0 s.heap (.ref a) C σ)
    (k : ∀ s', Zay g h0 s.heap s'.heap σ → XAt g true h0 s'.heap (.ref a) C σ → Wv s s' → Q () s') :
    wpAny M A (do let fr ← PySem.frameOf env; let pl ← entryPlaceOf L had; let b ← EntryCells.newEntry head fr .none (rawInt L) .none pl; setField (.ref a) 1 b) Q E s := by
  obtain ⟨e0, outer, hA, hf0, ff, off, _⟩ := F
  obtain ⟨a', o, vs, ea, x0, xb, xs, xo, xc, xn, xd, xz, xt⟩ := x
  cases ea
  have hfL : e0.frame = some L := hf0.trans hL
  have hfo : PySem.frameOf env = PySem.frameOf e0 := by unfold PySem.frameOf; rw [hf0]
  have hS : ∀ b, b ∈ (e0 :: outer).filterMap (·.frame) → Zqc s.heap σ b := fun b hb => let ⟨e, he, hf⟩ := List.mem_filterMap.mp hb; off e he b hf
  have aS : a ∉ (e0 :: outer).filterMap (·.frame) := fun hb => by
    obtain ⟨_, o', es, n, e', d'⟩ := hS a hb
    rw [xo] at e'; cases e'; rw [xd] at d'; cases d'
  rw [hfo]
  refine wpAny_bind (wpAny_frameOf_fun hA ff hfL fun h₁ hs₁ => ?_)
  refine wpAny_bind (wpAny_entryPlaceOf fun pl hpl => ?_)
  unfold EntryCells.newEntry newFields
  refine wpAny_bind (wpAny_newObj_type ?_ (hpl.sizeOk5 _ _ _ _ _))
  have ha₁ : h₁.get? a = some o := (hs₁.2.1 a aS).trans xo
  dsimp only
  generalize hts : ([head, Value.ref L, .none, rawInt L, .none] ++ (if pl.isEmpty then List.replicate 6 Value.none else pl)).toArray = ts
  have htz : 3 < ts.size := by rw [← hts]; simp only [List.size_toArray, List.length_append, List.length_cons, List.length_nil]; exact Z4g
  have ha₂ := Heap.get?_push_of_some (h := h₁) { cls := .type "traceback", dict := none, data := .fields ts } ha₁
  refine wpAny_setField ha₂ xd xz ?_
  have hTa : h₁.objs.size ≠ a := Nat.ne_of_gt (Heap.lt_size ha₁)
  have hd₃ := Obj.data_mapFields xd (·.setIfInBounds 1 (Value.ref h₁.objs.size))
  have self := Heap.get?_update_self (Obj.mapFields (·.setIfInBounds 1 (Value.ref h₁.objs.size))) ha₂ (Obj.isFreed_of_fields hd₃)
  have keep : ∀ b o', b ≠ a → h₁.get? b = some o' → ((h₁.push { cls := .type "traceback", dict := none, data := .fields ts }).update a (Obj.mapFields (·.setIfInBounds 1 (Value.ref h₁.objs.size)))).get? b = some o' := fun b o' hb e => by
    rw [Heap.get?_update_other _ _ (Ne.symm hb)]; exact Heap.get?_push_of_some _ e
  have fresh : s.heap.get? h₁.objs.size = none := Heap.get?_none_of_le (by rw [hs₁.1]; exact Nat.le_refl _)
  have fb : g.b0.get? h₁.objs.size = none := by
    cases q : g.b0.get? h₁.objs.size with
    | none => rfl
    | some o => rw [R.base _ o q] at fresh; cases fresh
  have f0 : h0.get? h₁.objs.size = none := by
    cases q : h0.get? h₁.objs.size with
    | none => rfl
    | some o => obtain ⟨o', z⟩ := hp _ o q; rw [fresh] at z; cases z
  refine k _ ⟨fun b o' e kk => ?_, fun b o' e => ?_, fun b o' e kk => ?_, fun b o' b0 e => ?_⟩ ?_ ⟨rfl, rfl, rfl⟩
  · have hb : b ≠ a := fun z => by
      subst z
      rcases kk with kk | kk
      · exact kk x0
      · rw [xo] at e; cases e; exact kk _ xd
    by_cases z : b ∈ (e0 :: outer).filterMap (·.frame)
    · obtain ⟨_, o2, es, n, e2, d2⟩ := hS b z
      rw [e] at e2; cases e2
      obtain ⟨sl, e3⟩ := hs₁.2.2 b o' e
      exact .inr ⟨es, n, sl, d2, keep b _ hb e3⟩
    · exact .of (keep b o' hb ((hs₁.2.1 b z).trans e))
  · by_cases z : b = a
    · subst z; exact ⟨_, self⟩
    · obtain ⟨sl, e3⟩ := hs₁.2.2 b o' e
      exact ⟨_, keep b _ z e3⟩
  · exact keep b o' (fun z => kk (z ▸ xs)) ((hs₁.2.1 b fun z => kk (hS b z).1).trans e)
  · refine keep b o' (fun z => by rw [z, xb] at b0; cases b0) ((hs₁.2.1 b fun z => ?_).trans e)
    rw [(ff.mem z).1] at b0; cases b0
  · refine ⟨a, _, _, rfl, x0, xb, xs, self, (Obj.cls_mapFields _ _).trans xc, (Zrw _ _).trans xn, hd₃, by simpa using xz, .inr ⟨h₁.objs.size, { cls := .type "traceback", dict := none, data := .fields ts }, ts, by simp [xz], hTa, f0, fb, R.fresh fresh, ?_, rfl, htz⟩⟩
    rw [Heap.get?_update_other _ _ (Ne.symm hTa)]
    exact Heap.get?_push_size h₁ rfl
theorem Zfu {nt : Bool} (F : Zkc g A env s.heap σ) (R : Rel g s.heap σ) (hp : ∀ b o, h0.get? b = some o → ∃ o', s.heap.get? b = some o') (x : XAt g nt h0 s.heap e C σ)
    (k : ∀ s', Zay g h0 s.heap s'.heap σ → XAt g true h0 s'.heap e C σ → Wv s s' → Q () s') : wpAny M A (noteFrame e env) Q E s := by
  have hL : ∃ L, env.frame = some L := by
    obtain ⟨e0, outer, hA, hf0, ⟨_, ⟨L, _, hfL, _⟩, _⟩, _⟩ := F
    exact ⟨L, hf0 ▸ hfL⟩
  obtain ⟨L, hL⟩ := hL
  have y := x
  obtain ⟨a, o, vs, rfl, x0, xb, xs, xo, xc, xn, xd, xz, xt⟩ := x
  unfold noteFrame
  simp only [hL]
  rcases xt with ⟨_, h1⟩ | ⟨T, oT, ts, et, ne, t0, tb, ts0, ho, hd, hs⟩
  · refine wpAny_bind (wpAny_field xo xd h1 ?_)
    rw [if_neg (by decide)]
    exact Zl9 F hL R hp y k
  · refine wpAny_bind (wpAny_field xo xd et ?_)
    rw [if_pos (show (Value.ref T != Value.none) = true from by simp)]
    refine wpAny_bind (wpAny_field ho hd (Array.getElem?_eq_getElem hs) ?_)
    by_cases hv : (ts[3] == rawInt L) = true
    · rw [if_pos hv]
      exact wpAny_pure (k _ .refl ⟨a, o, vs, rfl, x0, xb, xs, xo, xc, xn, xd, xz, .inr ⟨T, oT, ts, et, ne, t0, tb, ts0, ho, hd, hs⟩⟩ .refl)
    · rw [if_neg hv]
      refine wpAny_bind (Zsc x0 xb xs xo xc xn xd xz et ne t0 tb ts0 ho hd hs fun s' t x hs' => ?_)
      exact Zl9 (t.fr F) hL (t.rel R) (fun b o e => let ⟨o', e'⟩ := hp b o e; t.pres b o' e') x fun s'' t' x' hs'' => k s'' (t.trans t') x' (hs'.trans hs'')
end
end
section
open PySem PyProof.Rows
variable {g : Gr} {sc : Scope} {r : Nat} {c : Bool}
section
variable {A : Around} {env : Env} {s s₁ : Shared} {σ σ₁ : AH} {ℓ ℓ₁ : Loc} {Q : Fl → Loc → AH → Prop} {E : Addr → Loc → AH → Prop}
theorem Zgk.noted {e : Value} {s' : Shared} (X : Cx g sc r c A env s.heap σ ℓ) (p : Zar g A env s σ E e s') {P : Value → Shared → Prop} (k : ∀ e s', Zgk g true A env s σ E e s' → P e s') : notedBy (model g.prog g.w) A env P e s' :=
  let ⟨C, ℓ', σ', h1, h2, h3, h4, h5, h6⟩ := p
  Zfu (X.fr.step h4 (X.loc.dicts h2)) h3 h4.pres h1 fun s'' t x hs => k _ _ ⟨C, ℓ', σ', x, t.loc h2, t.rel h3, t.ext h4, h5.trans hs, h6⟩
theorem Zgk.came {e : Value} {s' : Shared} (p : Zgk g true A env s σ E e s') {P : Value → Shared → Prop} (k : ∀ e s', Zar g A env s σ E e s' → P e s') : cameBackBy (model g.prog g.w) A env P e s' :=
  let ⟨C, ℓ', σ', h1, h2, h3, h4, h5, h6⟩ := p
  Ztw h1 fun s'' t x hs => k _ _ ⟨C, ℓ', σ', x.weak, t.loc h2, t.rel h3, t.ext h4, h5.trans hs, h6⟩
theorem Zcz.here {f : Fl} {u : Flow} (X : Cx g sc r c A env s.heap σ ℓ) (hf : Z2x g s.heap f u) (h : Q f ℓ σ) : Zcz g env s σ Q u s := ⟨f, ℓ, σ, hf, X.loc, X.rel, .refl, .refl, h⟩
end
noncomputable def Zat : TS := fun ℓ σ Q _ => Q .next ℓ σ
noncomputable def Zsf (t ts : TS) : TS := fun ℓ σ Q E => t ℓ σ (fun f ℓ' σ' => match f with | .next => ts ℓ' σ' Q E | f => Q f ℓ' σ') E
theorem Zh : Zdw g sc r c [] Zat := .mk fun A env s ℓ σ Q E X h => wpAny_execs_nil (.here (f := .next) X rfl h)
theorem Zc {st : Stmt} {rest : List Stmt} {t ts : TS} (h1 : Zlc g sc r c st t) (h2 : Zdw g sc r c rest ts) : Zdw g sc r c (st :: rest) (Zsf t ts) := .mk fun A env s ℓ σ Q E X h => by
  refine wpAny_execs_cons (wpAny_mono (h1.run A env s ℓ σ _ E X h) (fun f s₁ p => ?_) fun _ _ p => p)
  obtain ⟨f', ℓ', σ', hf, hL, hR, hx, hs, hq⟩ := p
  cases f' with
  | next => cases hf; exact Zkd hx hs (h2.run A env s₁ ℓ' σ' Q E (X.stepS hL hR hx) hq)
  | brk => cases hf; exact ⟨.brk, ℓ', σ', rfl, hL, hR, hx, hs, hq⟩
  | cont => cases hf; exact ⟨.cont, ℓ', σ', rfl, hL, hR, hx, hs, hq⟩
  | ret v => obtain ⟨u, rfl, hv⟩ := hf; exact ⟨.ret v, ℓ', σ', ⟨u, rfl, hv⟩, hL, hR, hx, hs, hq⟩
noncomputable def Zaz (t : TE) : TS := fun ℓ σ Q E => t ℓ σ (fun v σ' => Q (.ret v) ℓ σ') fun C σ' => E C ℓ σ'
theorem Zl {e : Expr} {t : TE} {pos : Pos} (h1 : Y1 g sc r c e t) : Zlc g sc r c (.Return (some e) pos) (Zaz t) := .mk fun A env s ℓ σ Q E X h => by
  refine wpAny_Return_some (wpAny_mono (h1.run A env s ℓ σ _ _ X h) (fun v s₁ p => ?_) fun _ _ p => p.toS X)
  refine Wr.elim p fun x σ₁ hv hR hx hs hq => ?_
  exact ⟨.ret x, ℓ, σ₁, ⟨v, rfl, hv⟩, X.loc.step X.rel hx, hR, hx.own, hs, hq⟩
noncomputable def tDo (t : TE) : TS := fun ℓ σ Q E => t ℓ σ (fun _ σ' => Q .next ℓ σ') fun C σ' => E C ℓ σ'
theorem Zr9.notInteractive {env : Env} (k : Zr9 sc env) : interactive env = false := by
  unfold interactive; simp [k.kind]
theorem Yz {e : Expr} {t : TE} {pos : Pos} (h1 : Y1 g sc r c e t) (hs : ∀ env, swapsWith e none pos.line env = pure false) : Zlc g sc r c (.Expr e pos) (tDo t) := .mk fun A env s ℓ σ Q E X h => by
  refine wpAny_Expr_any (wpAny_mono (h1.run A env s ℓ σ _ _ X h) (fun v s₁ p => ?_) fun _ _ p => p.toS X) X.ok.notInteractive (hs env)
  refine Wr.elim p fun x σ₁ hv hR hx hs hq => ?_
  exact ⟨.next, ℓ, σ₁, rfl, X.loc.step X.rel hx, hR, hx.own, hs, hq⟩
noncomputable def Zi1 (t : TB) (a b : TS) : TS := fun ℓ σ Q E => t ℓ σ (fun x σ' => match x with | true => a ℓ σ' Q E | false => b ℓ σ' Q E) fun C σ' => E C ℓ σ'
theorem Ys {e : Expr} {t : TB} {body orelse : List Stmt} {a b : TS} {pos : Pos} (h1 : Znq g sc r c e t) (h2 : Zdw g sc r c body a) (h3 : Zdw g sc r c orelse b) : Zlc g sc r c (.If e body orelse pos) (Zi1 t a b) := .mk fun A env s ℓ σ Q E X h => by
  refine wpAny_If (wpAny_mono (h1.run A env s ℓ σ _ _ X h) (fun v s₁ p => ?_) fun _ _ p => p.toS X)
  obtain ⟨x, σ₁, rfl, hR, hx, hs, hq⟩ := p
  cases x with
  | true => exact Zkd hx.own hs (h2.run A env s₁ ℓ σ₁ Q E (X.step hR hx) hq)
  | false => exact Zkd hx.own hs (h3.run A env s₁ ℓ σ₁ Q E (X.step hR hx) hq)
noncomputable def Z4 (n : String) (t : TE) : TS := fun ℓ σ Q E => t ℓ σ (fun v σ' => Q .next (ℓ.set n v) σ') fun C σ' => E C ℓ σ'
theorem Zo {n : String} {k : NameKind} {p' pos : Pos} {e : Expr} {t : TE} (hm : (Str.ofString n, k) ∈ sc.names) (hk : (k == .local || k == .cell) = true) (h1 : Y1 g sc r c e t)
    (hs : ∀ env, swapsWith e (some (.Name (Str.ofString n) p')) pos.line env = pure false) : Zlc g sc r c (.Assign [.Name (Str.ofString n) p'] e pos) (Z4 n t) := .mk fun A env s ℓ σ Q E X h => by
  refine wpAny_Assign_Name (wpAny_mono (h1.run A env s ℓ σ _ _ X h) (fun v s₁ p => ?_) fun _ _ p => p.toS X) (hs env)
  refine Wr.elim p fun x σ₁ hv hR hx hs hq => ?_
  exact Zc5 (X.step hR hx) hm hk hv fun s' a _ _ w hL hR' hx' hs' => ⟨.next, _, σ₁, rfl, hL, hR', hx.own.trans (hx'.weaken fun b z => z ▸ w), hs.trans hs', hq⟩
inductive Tgt where
  | name (n : String)
  | tup (ns : List String)
noncomputable def Loc.setAll (ℓ : Loc) : List String → List V → Loc
  | n :: ns, v :: vs => (ℓ.set n v).setAll ns vs
  | _, _ => ℓ
noncomputable def Zci (v : V) (σ : AH) : Option (List V) := match v with
  | .tup vs => some vs
  | .frz vs => some vs
  | .ref a => match σ a with | some (.list vs) => some vs | _ => none
  | _ => none
noncomputable def Xs (t : Tgt) (v : V) (ℓ : Loc) (σ : AH) (P : Loc → Prop) : Prop := match t with
  | .name n => P (ℓ.set n v)
  | .tup ns => match Zci v σ with | some vs => vs.length = ns.length ∧ P (ℓ.setAll ns vs) | none => False
inductive Zaf (sc : Scope) : List Expr → List String → Prop
  | nil : Zaf sc [] []
  | cons {n : String} {k : NameKind} {pos : Pos} {es : List Expr} {ns : List String} (hm : (Str.ofString n, k) ∈ sc.names) (hk : (k == .local || k == .cell) = true) (h : Zaf sc es ns) : Zaf sc (.Name (Str.ofString n) pos :: es) (n :: ns)
inductive Zgq (sc : Scope) : Expr → Tgt → Prop
  | name {n : String} {k : NameKind} {pos : Pos} (hm : (Str.ofString n, k) ∈ sc.names) (hk : (k == .local || k == .cell) = true) : Zgq sc (.Name (Str.ofString n) pos) (.name n)
  | tup {es : List Expr} {ns : List String} {k : Nat} {pos : Pos} (h : Zaf sc es ns) : Zgq sc (.Tuple es k pos) (.tup ns)
section
variable {A : Around} {env : Env} {s : Shared} {σ : AH} {ℓ : Loc} {E : Value → Shared → Prop}
inductive Zt4 (g : Gr) (W : Addr → Prop) (env : Env) (s : Shared) (σ : AH) (P : Loc → Prop) (s' : Shared) : Prop
  | mk (ℓ' : Loc) (h1 : LR g s'.heap σ env ℓ') (h2 : Rel g s'.heap σ) (h3 : Ext W s.heap σ s'.heap σ) (h4 : Wv s s') (h5 : P ℓ') : Zt4 g W env s σ P s'
noncomputable def Zmg (W : Addr → Prop) (sc : Scope) (env : Env) : Prop := (∀ a, W a → Own env a) ∧ ∀ n k a, (Str.ofString n, k) ∈ sc.names → (k = .local → a = env.locals) → (k = .cell → env.cells.lookup (Str.ofString n) = some a) → (k == .local || k == .cell) = true → W a
theorem Zgt {env : Env} : Zmg (Own env) sc env := ⟨fun _ w => w, fun n k a hm h1 h2 hk => by
  cases k <;> first | exact .inl (h1 rfl) | exact .inr ⟨_, h2 rfl⟩ | cases hk⟩
theorem Zaf.length {es : List Expr} {ns : List String} (h : Zaf sc es ns) (env : Env) : (assignEach es env).length = ns.length := by
  induction h with
  | nil => rfl
  | cons hm hk h ih => show (_ :: assignEach _ env).length = _; simp [ih]
theorem Zaf.noStar {es : List Expr} {ns : List String} (h : Zaf sc es ns) (env : Env) : (assignEach es env).findIdx? (·.1) = none := by
  induction h with
  | nil => rfl
  | @cons n k pos es ns hm hk h ih => show ((false, assign (.Name (Str.ofString n) pos) env) :: assignEach es env).findIdx? (·.1) = none; simp [List.findIdx?_cons, ih]
theorem Znc {W : Addr → Prop} (hW : Zmg W sc env) {P : Loc → Prop} {es : List Expr} {ns : List String} (hn : Zaf sc es ns) : ∀ {s : Shared} {ℓ : Loc} {xs : List V} {us : List Value}, Cx g sc r c A env s.heap σ ℓ → VRs g s.heap xs us → xs.length = ns.length → P (ℓ.setAll ns xs) →
    wpAny (model g.prog g.w) A (assignInOrder ((assignEach es env).map (·.2)) us) (fun _ s' => Zt4 g W env s σ P s') E s := by
  induction hn with
  | nil =>
    intro s ℓ xs us X hv hl h
    have : xs = [] := List.length_eq_zero_iff.mp hl
    subst this
    rw [Zr hv]
    exact wpAny_pure ⟨ℓ, X.loc, X.rel, .refl, .refl, h⟩
  | @cons n k pos es ns hm hk hn ih =>
    intro s ℓ xs us X hv hl h
    cases xs with
    | nil => simp at hl
    | cons x xs =>
      obtain ⟨u, us, rfl, hx, hxs⟩ := Zi hv
      show wpAny _ A (do holding us (assign (.Name (Str.ofString n) pos) env u); assignInOrder ((assignEach es env).map (·.2)) us) _ E s
      refine wpAny_bind (wpAny_holding (wpAny_assign_Name (Zc5 X hm hk hx fun s' a q1 q2 w hL hR hx' hs' => ?_)))
      replace hx' := hx'.weaken (W' := W) fun b z => z ▸ hW.2 n k a hm q1 q2 hk
      have hx'' := hx'.weaken (W' := Own env) hW.1
      refine wpAny_mono (ih (X.stepS hL hR hx'') (hx''.vrs X.rel X.loc.noSeq hxs) (by simpa using hl) h) (fun _ s'' p => ?_) fun _ _ p => p
      obtain ⟨ℓ', h1, h2, h3, h4, h5⟩ := p
      exact ⟨ℓ', h1, h2, hx'.trans h3, hs'.trans h4, h5⟩
theorem Zjw {it l : Addr} {items : Array Value} (hne : l ≠ it) : ∀ (n i : Nat) (s : Shared) (Q : List Value → Shared → Prop), s.heap.IsListIter it l i → s.heap.IsList l items → i + n ≤ items.size →
    (∀ h', h'.IsListIter it l (i + n) → Heap.SameBut it s.heap h' → Q ((items.toList.drop i).take n) { s with heap := h' }) → wpAny (model g.prog g.w) A (draw (.ref it) n) Q E s
  | 0, i, s, Q, hit, _, _, hQ => by
    show wpAny _ _ (pure []) Q E s
    exact wpAny_pure (by simpa using hQ s.heap hit (Heap.SameBut.refl ..))
  | n + 1, i, s, Q, hit, ht, hle, hQ => by
    have hlt : i < items.size := by exact Z4f hle
    show wpAny _ _ (pyNext (.ref it) >>= _) Q E s
    refine wpAny_bind (wpAny_pyNext_list_item hit ht (x := items[i]) (by simp [hlt]) fun h₁ hit₁ hs₁ => ?_)
    refine wpAny_bind (wpAny_holding (Zjw hne n (i + 1) _ _ hit₁ (ht.extBut hs₁.extBut hne) (by exact Z4e hle) fun h₂ hit₂ hs₂ => wpAny_pure ?_))
    have hd : items.toList.drop i = items[i] :: items.toList.drop (i + 1) := by simp [List.drop_eq_getElem_cons, hlt]
    have := hQ h₂ (by rw [show i + (n + 1) = i + 1 + n by exact Z4d]; exact hit₂) (hs₁.trans hs₂)
    rw [hd, List.take_succ_cons] at this
    exact this
theorem Ze8 {t : Addr} {items : Array Value} {Q : List Value → Shared → Prop} (hh : A.handled = none) (ht : s.heap.IsList t items)
    (hQ : ∀ h', Heap.ExtBut s.heap.objs.size s.heap h' → Q items.toList { s with heap := h' }) : wpAny (model g.prog g.w) A (unpackItems (.ref t) items.size none) Q E s := by
  have hlt : t ≠ s.heap.objs.size := by obtain ⟨o, ho, _⟩ := ht; exact Nat.ne_of_lt (Heap.lt_size ho)
  unfold unpackItems
  refine wpAny_bind ?_
  · unfold notIterableAtAll
    refine wpAny_bind (wpAny_specialOf ht.typeIs slot_list_iter.lookup ?_)
    refine wpAny_pure ?_
    simp only [Bool.false_eq_true, if_false]
    refine wpAny_bind (wpAny_holding (wpAny_pyIter_list ht ?_))
    refine wpAny_bind (wpAny_holding (Zjw hlt items.size 0 _ _ ⟨_, Heap.get?_push_size _ rfl, rfl, rfl⟩ (ht.push _) (by exact Z4c) fun h₁ hit₁ hs₁ => ?_))
    have hall : List.take items.size (List.drop 0 items.toList) = items.toList := by
      rw [List.drop_zero]; exact List.take_of_length_le (by simp)
    rw [hall]
    rw [if_neg (by simp)]
    have ht₁ : h₁.IsList t items := (ht.push _).extBut hs₁.extBut hlt
    refine wpAny_bind (wpAny_holding (wpAny_pyNext_list_end hh hit₁ ht₁ (by simp) fun h₂ he₂ => ?_))
    simp only [Option.isSome_none, Bool.false_eq_true, if_false]
    refine wpAny_pure (hQ h₂ fun b o hb e => he₂ b o hb (hs₁.extBut b o hb (Heap.get?_push_of_some _ e)))
theorem Ze5 {h h' : Heap} (k : Heap.ExtBut h.objs.size h h') : ∀ a o, h.get? a = some o → h'.get? a = some o := fun a o e => k a o (Nat.ne_of_lt (Heap.lt_size e)) e
theorem Zq1 {v : V} {u : Value} {xs : List V} {n : Nat} {Q : List Value → Shared → Prop} (X : Cx g sc r c A env s.heap σ ℓ) (hh : A.handled = none) (hv : VR g s.heap v u) (hp : Zci v σ = some xs) (hn : xs.length = n)
    (h : ∀ us h', (∀ a o, s.heap.get? a = some o → h'.get? a = some o) → VRs g h' xs us → Q us { s with heap := h' }) : wpAny (model g.prog g.w) A (unpackItems u n none) Q E s := by
  have key : ∀ (a : Addr) (o : Obj) (vs : Array Value) (m : Nat), s.heap.get? a = some o → (o.cls = .type "tuple" ∨ o.cls = .type "list") → o.data = .seq vs m → VRs g s.heap xs vs.toList → wpAny (model g.prog g.w) A (unpackItems (.ref a) n none) Q E s := fun a o vs m ho hc hd hvs => by
    have hz : n = vs.size := by rw [← hn, Zu hvs]; simp
    subst hz
    have fin : ∀ h', Heap.ExtBut s.heap.objs.size s.heap h' → Q vs.toList { s with heap := h' } := fun h' k => h _ h' (Ze5 k) (VRs.mono (fun b o _ _ _ e _ _ => .of (Ze5 k b o e)) hvs)
    rcases hc with hc | hc
    · exact wpAny_unpackItems_tuple hh ⟨o, ho, hc, m, hd⟩ fin
    · exact Ze8 hh ⟨o, ho, hc, m, hd⟩ fin
  cases v with
  | tup vs =>
    obtain ⟨_, a, o, us, m, rfl, _, ho, hc, hd, hvs⟩ := Xn.mp hv
    cases hp; exact key a o us m ho (.inl hc) hd hvs
  | frz vs =>
    obtain ⟨_, a, o, us, m, rfl, ho, hc, hd, hvs⟩ := Zcl.mp hv
    cases hp; exact key a o us m (X.rel.base a o ho) (.inr hc) hd hvs
  | ref a =>
    rw [Z9.mp hv]
    simp only [Zci] at hp
    split at hp
    · rename_i vs e
      cases hp
      obtain ⟨_, us, m, ho, hvs⟩ := (X.rel.own a _ e).2
      exact key a _ us m ho (.inr rfl) rfl hvs
    · cases hp
  | _ => cases hp
theorem Zgg {W : Addr → Prop} (hW : Zmg W sc env) {e : Expr} {t : Tgt} {x : V} {u : Value} {P : Loc → Prop} (X : Cx g sc r true A env s.heap σ ℓ) (ht : Zgq sc e t) (hv : VR g s.heap x u) (hb : Xs t x ℓ σ P) :
    wpAny (model g.prog g.w) A (assign e env u) (fun _ s' => Zt4 g W env s σ P s') E s := by
  cases ht with
  | name hm hk => exact wpAny_assign_Name (Zc5 X hm hk hv fun s' a q1 q2 _ h1 h2 h3 h4 => ⟨_, h1, h2, h3.weaken fun b z => z ▸ hW.2 _ _ a hm q1 q2 hk, h4, hb⟩)
  | @tup es ns k pos hn =>
    simp only [Xs] at hb
    split at hb
    · rename_i xs hp
      rw [arm_assign_Tuple]
      refine wpAny_bind (wpAny_standAt ?_)
      unfold unpack
      rw [hn.length env, hn.noStar env]
      refine wpAny_bind (wpAny_holding (Zq1 X (X.room.calm rfl) hv hp hb.1 fun us h' hk hvs => ?_))
      have X' : Cx g sc r true A env h' σ ℓ := X.step (X.rel.keeps hk) (.keeps hk)
      refine wpAny_mono (Znc hW (s := { s with heap := h' }) hn X' hvs hb.1 hb.2) (fun _ s' p => ?_) fun _ _ p => p
      obtain ⟨ℓ', h1, h2, h3, h4, h5⟩ := p
      exact ⟨ℓ', h1, h2, Ext.trans (.keeps hk) h3, Wv.trans ⟨rfl, rfl, rfl⟩ h4, h5⟩
    · exact hb.elim
end
noncomputable def Zd3 (t : Tgt) (te : TE) : TS := fun ℓ σ Q E => te ℓ σ (fun v σ' => Xs t v ℓ σ' fun ℓ' => Q .next ℓ' σ') fun C σ' => E C ℓ σ'
theorem Zbm {es : List Expr} {k : Nat} {ns : List String} {p' pos : Pos} {e : Expr} {t : TE} (ht : Zaf sc es ns) (h1 : Y1 g sc r true e t)
    (hs : ∀ env, swapsWithSole [.Tuple es k p'] e pos.line env = pure false) (hw : ∀ env, swappedStores [.Tuple es k p'] e env = pure none) : Zlc g sc r true (.Assign [.Tuple es k p'] e pos) (Zd3 (.tup ns) t) := .mk fun A env s ℓ σ Q E X h => by
  refine Assign_Tuple (wpAny_mono (h1.run A env s ℓ σ _ _ X h) (fun v s₁ p => ?_) fun _ _ p => p.toS X) (hs env) (hw env)
  refine Wr.elim p fun x σ₁ hv hR hx hs hq => ?_
  refine wpAny_mono (Zgg Zgt (X.step hR hx) (.tup ht) hv hq) (fun _ s' p => ?_) fun _ _ p => p
  obtain ⟨ℓ', h1, h2, h3, h4, h5⟩ := p
  exact ⟨.next, ℓ', σ₁, rfl, h1, h2, hx.own.trans h3, hs.trans h4, h5⟩
end
section
open PySem PyProof.Rows
variable {g : Gr} {sc : Scope} {r : Nat} {c : Bool}
noncomputable def Zbt (fp : Addr → Prop) (h h' : Heap) : Prop := ∀ b o, ¬ fp b → h.get? b = some o → h'.get? b = some o
structure Zgs (g : Gr) (items : List V) (inv : AH → Prop) (I : Addr) (fp : Addr → Prop) (St : Nat → Heap → Prop) (tup : Bool) : Prop where
  stab : ∀ k h h', St k h → Yh g h h' → (∀ a o, fp a → h.get? a = some o → h'.get? a = some o) → St k h'
  flds : ∀ k h a, St k h → fp a → ∃ o, h.get? a = some o ∧ ((g.hid a ∧ ∃ vs n, o.data = .seq vs n) ∨ ∃ vs, o.data = .fields vs)
  self : ∀ k A E s (Q : Value → Shared → Prop), St k s.heap → Q (.ref I) s → wpAny (model g.prog g.w) A (pyIter (.ref I)) Q E s
  item : ∀ k x A E s σ target (Q : Value → Shared → Prop), items[k]? = some x → St k s.heap → Rel g s.heap σ → inv σ → (∀ a, fp a → σ a = none) → (tup = true → ∃ es m p, target = .Tuple es m p) →
    (∀ v s', Zbt fp s.heap s'.heap → Wv s s' → St (k + 1) s'.heap → VR g s'.heap x v → Q v s') →
    wpAny (model g.prog g.w) A (pyNext (.ref I)) (fun r s₁ => match r with | none => False | some v => wpAny (model g.prog g.w) A (letOwnedTupleGo target (.ref I) v) (fun _ => Q v) E s₁) E s
  last : ∀ k A E s σ (Q : Option Value → Shared → Prop), items.length ≤ k → A.handled = none → St k s.heap → Rel g s.heap σ → inv σ → (∀ a, fp a → σ a = none) →
    (∀ s', Zbt fp s.heap s'.heap → Wv s s' → Q none s') → wpAny (model g.prog g.w) A (pyNext (.ref I)) Q E s
inductive Zr8 (g : Gr) (s : Shared) (σ : AH) (Q : List V → (AH → Prop) → Bool → AH → Prop) (it : Value) (s' : Shared) : Prop
  | mk (items : List V) (inv : AH → Prop) (I : Addr) (fp : Addr → Prop) (St : Nat → Heap → Prop) (tup : Bool) (σ' : AH) (h0 : it = .ref I) (h1 : Zgs g items inv I fp St tup) (h2 : St 0 s'.heap) (h3 : Rel g s'.heap σ') (h4 : Ext No s.heap σ s'.heap σ') (h5 : Wv s s') (h6 : ∀ a, fp a → s.heap.get? a = none ∧ σ' a = none) (h7 : Y3 items.length) (h8 : Q items inv tup σ') : Zr8 g s σ Q it s'
noncomputable abbrev TI := Loc → AH → (List V → (AH → Prop) → Bool → AH → Prop) → (Addr → AH → Prop) → Prop
structure Zr7 (g : Gr) (sc : Scope) (r : Nat) (c : Bool) (e : Expr) (t : TI) : Prop where
  run : ∀ A env s ℓ σ Q E, Cx g sc r c A env s.heap σ ℓ → t ℓ σ Q E →
  wpAny (model g.prog g.w) A (eval e env) (fun x s₁ => wpAny (model g.prog g.w) A (pyIter x) (Zr8 g s σ Q) (Xx g A s σ E) s₁) (Xx g A s σ E) s
theorem Za7 {A : Around} {E : Value → Shared → Prop} {s : Shared} {target : Expr} {I : Addr} {o : Obj} {T : String} {vs : Array Value} {v : Value} {Q : Unit → Shared → Prop} (ho : s.heap.get? I = some o) (hc : o.cls = .type T) (hd : o.data = .fields vs)
    (hT : (["enumerate", "zip", "dict_itemiterator", "dict_reverseitemiterator", "odict_iterator", "itertools.zip_longest", "itertools.pairwise"].contains T) = false) (h : Q () s) :
    wpAny (model g.prog g.w) A (letOwnedTupleGo target (.ref I) v) Q E s := by
  have key : ∀ (a : Addr), wpAny (model g.prog g.w) A (load I >>= fun o => (match o.cls, o.data with
      | .type n, .fields vs =>
        if ["enumerate", "zip", "dict_itemiterator", "dict_reverseitemiterator", "odict_iterator", "itertools.zip_longest", "itertools.pairwise"].contains n && vs[0]? == some (rawInt a) then (do
          rule "for.unpacks-the-owned-tuple"
          updateField I 0 .none) else pure ()
      | _, _ => pure ())) Q E s := fun a => by
    refine wpAny_bind (wpAny_load ho ?_)
    rw [hc, hd]
    show wpAny _ A (if (_ && _) = true then _ else _) Q E s
    rw [if_neg (by rw [hT, Bool.false_and]; exact Bool.false_ne_true)]
    exact wpAny_pure h
  cases target <;> first | exact wpAny_pure h | (cases v <;> first | exact key _ | exact wpAny_pure h)
theorem Zir {g : Gr} {h : Heap} {xs : List V} {vs : Array Value} (a : VRs g h xs vs.toList) {i : Nat} {x : V} (e : xs[i]? = some x) : ∃ v, vs[i]? = some v ∧ VR g h x v := by
  obtain ⟨v, h1, h2⟩ := Zcy a e; exact ⟨v, by simpa using h1, h2⟩
theorem Zj4 {g : Gr} {h : Heap} {xs : List V} {vs : Array Value} (a : VRs g h xs vs.toList) {i : Nat} (e : xs.length ≤ i) : vs[i]? = none := by
  have := Zu a; simp at this ⊢; exact Z4b e this
theorem Zcn {I : Addr} {h h' : Heap} {o : Obj} {vs : Array Value} (ho : h.get? I = some o) (hd : o.data = .fields vs) (k : ∀ b o, b ≠ I → h.get? b = some o → h'.get? b = some o) : Yh g h h' := fun a o' xs n _ e _ d => by
  refine .of (k a o' (fun z => ?_) e)
  subst z; rw [ho] at e; cases e; rw [hd] at d; cases d
theorem Znb (a I : Addr) (xs : List V) : Zgs g xs (fun σ => σ a = some (.list xs)) I (· = I) (fun k h => h.IsListIter I a k) false where
  stab := fun k h h' st _ kp => st.at fun o e => kp I o rfl e
  flds := fun k h b st e => by subst e; obtain ⟨o, ho, _, hd⟩ := st; exact ⟨o, ho, .inr ⟨_, hd⟩⟩
  self := fun k A E s Q st h => wpAny_pyIter_listiter st h
  item := fun k x A E s σ target Q hx st R iv off _ h => by
    obtain ⟨hf, vs, n, ho, hv⟩ := (R.own a _ iv).2
    obtain ⟨v, e, hxv⟩ := Zir hv hx
    obtain ⟨oI, hoI, hcI, hdI⟩ := id st
    refine wpAny_pyNext_list_item st ⟨_, ho, rfl, n, rfl⟩ e fun h' st' sb => ?_
    obtain ⟨o', ho', hc', hd'⟩ := id st'
    refine Za7 ho' hc' hd' (by decide) (h v _ (fun b o nb e => sb.extBut b o nb e) ⟨rfl, rfl, rfl⟩ st' (VR.mono (Zcn hoI hdI sb.extBut) hxv))
  last := fun k A E s σ Q hk hh st R iv off h => by
    obtain ⟨hf, vs, n, ho, hv⟩ := (R.own a _ iv).2
    exact wpAny_pyNext_list_end hh st ⟨_, ho, rfl, n, rfl⟩ (Zj4 hv hk) fun h' eb => h { s with heap := h' } (fun b o nb e => eb b o nb e) ⟨rfl, rfl, rfl⟩
theorem Zku (t I : Addr) (xs : List V) : Zgs g xs (fun _ => True) I (· = I) (fun k h => h.IsTupleIter I t k ∧ VR g h (.tup xs) (.ref t)) false where
  stab := fun k h h' st tk kp => ⟨st.1.at fun o e => kp I o rfl e, VR.mono tk st.2⟩
  flds := fun k h b st e => by subst e; obtain ⟨⟨o, ho, _, hd⟩, _⟩ := st; exact ⟨o, ho, .inr ⟨_, hd⟩⟩
  self := fun k A E s Q st h => wpAny_pyIter_tupleiter st.1 h
  item := fun k x A E s σ target Q hx st R iv off _ h => by
    obtain ⟨hf, t', o, vs, n, et, _, ho, hc, hd, hv⟩ := Xn.mp st.2
    cases et
    obtain ⟨v, e, hxv⟩ := Zir hv hx
    obtain ⟨oI, hoI, hcI, hdI⟩ := id st.1
    refine wpAny_pyNext_tuple_item st.1 ⟨_, ho, hc, n, hd⟩ e fun h' st' sb => ?_
    obtain ⟨o', ho', hc', hd'⟩ := id st'
    have tk : Yh g s.heap h' := Zcn hoI hdI sb.extBut
    exact Za7 ho' hc' hd' (by decide) (h v _ (fun b o nb e => sb.extBut b o nb e) ⟨rfl, rfl, rfl⟩ ⟨st', VR.mono tk st.2⟩ (VR.mono tk hxv))
  last := fun k A E s σ Q hk hh st R iv off h => by
    obtain ⟨hf, t', o, vs, n, et, _, ho, hc, hd, hv⟩ := Xn.mp st.2
    cases et
    exact wpAny_pyNext_tuple_end hh st.1 ⟨_, ho, hc, n, hd⟩ (Zj4 hv hk) fun h' eb => h { s with heap := h' } (fun b o nb e => eb b o nb e) ⟨rfl, rfl, rfl⟩
noncomputable def Xh (lo : Int) (n : Nat) : List V := (List.range n).map fun (i : Nat) => .int (lo + (i : Int))
theorem Zkv (I : Addr) (lo : Int) (n : Nat) : Zgs g (Xh lo n) (fun _ => True) I (· = I) (fun k h => IsRangeIter h I (lo + (k : Int)) ((n : Int) - k) 1) false where
  stab := fun k h h' st _ kp => kp I _ rfl st
  flds := fun k h b st e => by subst e; exact ⟨_, st, .inr ⟨_, rfl⟩⟩
  self := fun k A E s Q st h => wpAny_pyIter_rangeiter st h
  item := fun k x A E s σ target Q hx st R iv off _ h => by
    have hk : k < n := by
      rcases Nat.lt_or_ge k n with q | q
      · exact q
      · rw [List.getElem?_eq_none (by simp [Xh]; exact q)] at hx; cases hx
    have hx' : x = .int (lo + (k : Int)) := by simp [Xh, hk] at hx; exact hx.symm
    subst hx'
    refine wpAny_pyNext_range_item st (by exact Z4a hk) fun h' st' sb => ?_
    have st'' : IsRangeIter h' I (lo + ((k + 1 : Nat) : Int)) ((n : Int) - ((k + 1 : Nat) : Int)) 1 := by
      have e1 : lo + ((k + 1 : Nat) : Int) = lo + (k : Int) + 1 := by push_cast; exact Z39
      have e2 : (n : Int) - ((k + 1 : Nat) : Int) = (n : Int) - k - 1 := by push_cast; exact Z38
      rw [e1, e2]; exact st'
    exact Za7 st' rfl rfl (by decide) (h _ _ (fun b o nb e => sb.extBut b o nb e) ⟨rfl, rfl, rfl⟩ st'' (Zx.mpr ⟨_, rfl⟩))
  last := fun k A E s σ Q hk hh st R iv off h => by
    have : n ≤ k := by simpa [Xh] using hk
    exact wpAny_pyNext_range_end hh st (by exact Z37 this) fun h' eb => h { s with heap := h' } (fun b o nb e => eb b o nb e) ⟨rfl, rfl, rfl⟩
end
section
open PySem PyProof.Rows
variable {g : Gr} {sc : Scope} {r : Nat} {c : Bool}
noncomputable def Zce (t : Tgt) (inv : AH → Prop) (tb : TS) : List V → TS
  | [], ℓ, σ, Q, _ => inv σ ∧ Q .next ℓ σ
  | x :: xs, ℓ, σ, Q, E => inv σ ∧ Xs t x ℓ σ fun ℓ₁ => tb ℓ₁ σ (fun f ℓ₂ σ₂ => match f with
    | .next => Zce t inv tb xs ℓ₂ σ₂ Q E
    | .cont => Zce t inv tb xs ℓ₂ σ₂ Q E
    | .brk => Q .next ℓ₂ σ₂
    | .ret v => Q (.ret v) ℓ₂ σ₂) E
noncomputable def Tgt.isTup : Tgt → Bool
  | .name _ => false
  | .tup _ => true
noncomputable def Zlm (t : Tgt) (ti : TI) (tb : TS) : TS := fun ℓ σ Q E => ti ℓ σ (fun items inv tup σ₁ => (tup = true → t.isTup = true) ∧ Zce t inv tb items ℓ σ₁ Q E) fun C σ' => E C ℓ σ'
section
variable {A : Around} {env : Env} {s s₁ : Shared} {σ σ₁ : AH} {ℓ ℓ₁ : Loc} {h h' : Heap}
structure Zbq (g : Gr) (fp : Addr → Prop) (h : Heap) (σ : AH) : Prop where
  off : ∀ a, fp a → σ a = none
  flds : ∀ a, fp a → ∃ o, h.get? a = some o ∧ ((g.hid a ∧ ∃ vs n, o.data = .seq vs n) ∨ ∃ vs, o.data = .fields vs)
  base : ∀ a, fp a → g.b0.get? a = none
theorem Zbq.tups {fp : Addr → Prop} (w : Zbq g fp h σ) (k : Zbt fp h h') : Yh g h h' := fun a o vs n nh e _ d => by
  refine .of (k a o (fun q => ?_) e)
  obtain ⟨o', e', z⟩ := w.flds a q
  rw [e] at e'; cases e'
  rcases z with z | ⟨us, z⟩
  · exact nh z.1
  · rw [d] at z; cases z
theorem Zbq.rel {fp : Addr → Prop} (w : Zbq g fp h σ) (R : Rel g h σ) (k : Zbt fp h h') (hh : ∀ a, g.hid a → fp a → ∃ o, h'.get? a = some o) : Rel g h' σ := by
  refine ⟨fun a ha => ?_, fun a o e => k a o (fun q => ?_) (R.base a o e), fun a ao e => ⟨(R.own a ao e).1, Zbs (w.tups k) (fun o e' => k a o (fun q => ?_) e') (R.own a ao e).2⟩⟩
  · by_cases q : fp a
    · exact hh a ha q
    · obtain ⟨o, e⟩ := R.hid a ha; exact ⟨o, k a o q e⟩
  · rw [w.base a q] at e; cases e
  · rw [w.off a q] at e; cases e
theorem Zbq.loc {fp : Addr → Prop} (w : Zbq g fp h σ) (L : LR g h σ env ℓ) (k : Zbt fp h h') (ho : ∀ a, fp a → ¬ Own env a) : LR g h' σ env ℓ := by
  have kv : ∀ {v : V} {u : Value}, VR g h v u → VR g h' v u := VR.mono (w.tups k)
  obtain ⟨m, hn, hm⟩ := L.ns
  refine ⟨⟨m, Zds hn fun o e => .of (k _ o (fun q => ho _ q (.inl rfl)) e), fun y v a b => let ⟨u, e, f⟩ := hm y v a b; ⟨u, e, kv f⟩⟩, fun y c e => ?_, fun y v a kk => ?_, L.off, L.offc, L.apart, L.has⟩
  · obtain ⟨o, u, e1, e2⟩ := L.cell y c e
    exact ⟨o, u, k c o (fun q => ho _ q (.inr ⟨y, e⟩)) e1, e2⟩
  · obtain ⟨c, u, e, hc, hv⟩ := L.cells y v a kk
    exact ⟨c, u, e, Zcx hc fun o z => .of (k _ o (fun q => ho _ q (.inr ⟨_, e⟩)) z), kv hv⟩
theorem Zdx {a : Addr} (L : LR g h σ env ℓ) (w : Own env a) : ∃ o, h.get? a = some o := let ⟨o, e, _⟩ := L.noFields w; ⟨o, e⟩
theorem Zbq.stand {fp : Addr → Prop} (w : Zbq g fp h σ) (x : Ext (Own env) h σ h' σ₁) (ho : ∀ a, fp a → ¬ Own env a) : ∀ a o, fp a → h.get? a = some o → h'.get? a = some o := fun a o q e => by
  refine (x.keep a o e (w.off a q) (ho a q)).exact fun es n d => ?_
  obtain ⟨o', e', z⟩ := w.flds a q
  rw [e] at e'; cases e'
  rcases z with ⟨_, us, m, z⟩ | ⟨us, z⟩
  · rw [d] at z; cases z
  · rw [d] at z; cases z
theorem Zbq.relLess {H : Addr → Prop} {fp : Addr → Prop} (w : Zbq (g.wh H) fp h σ) (R : Rel (g.wh H) h σ) (k : Zbt fp h h') (hH : ∀ a, g.hid a → H a) (hn : ∀ a, fp a → ¬ g.hid a) : Rel g h' σ := by
  refine ⟨fun a ha => ?_, fun a o e => k a o (fun q => ?_) (R.base a o e), fun a ao e => ⟨(R.own a ao e).1, OR.less hH (Zbs (w.tups k) (fun o e' => k a o (fun q => ?_) e') (R.own a ao e).2)⟩⟩
  · obtain ⟨o, e⟩ := R.hid a (hH a ha); exact ⟨o, k a o (fun q => hn a q ha) e⟩
  · have z : g.b0.get? a = none := w.base a q
    rw [z] at e; cases e
  · rw [w.off a q] at e; cases e
end
theorem Zgk.less {A : Around} {env : Env} {s : Shared} {σ : AH} {H : Addr → Prop} (k : ∀ a, g.hid a → H a) {E : Addr → Loc → AH → Prop} {e : Value} {s' : Shared} (p : Zar (g.wh H) A env s σ E e s') : Zar g A env s σ E e s' :=
  let ⟨C, ℓ', σ', h1, h2, h3, h4, h5, h6⟩ := p; ⟨C, ℓ', σ', h1.unwh, h2.less k, h3.less k, h4, h5, h6⟩
inductive Z18 (g : Gr) (H : Addr → Prop) (env : Env) (s : Shared) (σ : AH) (t : Tgt) (inv : AH → Prop) (tb : TS) (items : List V) (fp : Addr → Prop) (St : Nat → Heap → Prop) (Q : Fl → Loc → AH → Prop) (E : Addr → Loc → AH → Prop) (n : Nat) (s' : Shared) : Prop
  | mk (k : Nat) (ℓ' : Loc) (σ' : AH) (h1 : k ≤ items.length) (h2 : n = items.length - k) (h3 : St k s'.heap) (h4 : LR (g.wh H) s'.heap σ' env ℓ') (h5 : Rel (g.wh H) s'.heap σ') (h6 : Ext (Own env) s.heap σ s'.heap σ') (h7 : Wv s s') (h8 : ∀ a, fp a → σ' a = none) (h9 : Zce t inv tb (items.drop k) ℓ' σ' Q E) : Z18 g H env s σ t inv tb items fp St Q E n s'
theorem Zrp {A : Around} {env : Env} {s s₂ : Shared} {ℓ : Loc} {σ σ₁ : AH} {H : Addr → Prop} {target : Expr} {body : List Stmt} {t : Tgt} {tb : TS} {items : List V} {inv : AH → Prop} {I : Addr} {fp : Addr → Prop} {St : Nat → Heap → Prop} {tup : Bool} {Q : Fl → Loc → AH → Prop} {E : Addr → Loc → AH → Prop}
    (hH : ∀ a, g.hid a → H a) (X : Cx g sc r true A env s.heap σ ℓ) (IT : Zgs (g.wh H) items inv I fp St tup) (hst : St 0 s₂.heap) (hL0 : LR (g.wh H) s₂.heap σ₁ env ℓ) (hR : Rel (g.wh H) s₂.heap σ₁) (hx : Ext No s.heap σ s₂.heap σ₁) (hsm : Wv s s₂)
    (hfp : ∀ a, fp a → s.heap.get? a = none ∧ σ₁ a = none) (htt : tup = true → t.isTup = true) (hl : Zce t inv tb items ℓ σ₁ Q E) (ht : Zgq sc target t) (hb : Zdw (g.wh H) sc r true body tb) :
    codeAny (model g.prog g.w) A (.forLoop target (.ref I) body [] env) (fun r s' => match r with | .ok f => Zcz g env s σ Q f s' | .error e => cameBackBy (model g.prog g.w) A env (Zar g A env s σ E) e s') s₂ := by
  have hb0 : ∀ a, fp a → g.b0.get? a = none := fun a q => by
    cases e : g.b0.get? a with
    | none => rfl
    | some o => exact absurd (hfp a q).1 (by rw [X.rel.base a o e]; simp)
  have hown : ∀ a, fp a → ¬ Own env a := fun a q w => by
    obtain ⟨o, e⟩ := Zdx X.loc w
    rw [(hfp a q).1] at e; cases e
  have hhid : ∀ a, fp a → ¬ g.hid a := fun a q w => by
    obtain ⟨o, e⟩ := X.rel.hid a w
    rw [(hfp a q).1] at e; cases e
  have target_tup : tup = true → ∃ es m p, target = .Tuple es m p := fun q => by
    have := htt q
    cases ht with
    | name _ _ => cases this
    | tup _ => exact ⟨_, _, _, rfl⟩
  have X0 : Cx (g.wh H) sc r true A env s₂.heap σ₁ ℓ := ⟨X.gok.wh, X.ok, hL0, X.fr.step hx (fun _ _ _ _ n => n.elim), X.room, hR⟩
  refine codeAny_forLoop_any (Z18 g H env s σ t inv tb items fp St Q E) ?_ items.length ⟨0, ℓ, σ₁, Nat.zero_le _, rfl, hst, hL0, hR, hx.own, hsm, fun a q => (hfp a q).2, by simpa using hl⟩
  rintro n s' ⟨k, ℓ', σ', hk, rfl, hst, hL, hR, hx, hsm, hoff, hl⟩
  have W : Zbq (g.wh H) fp s'.heap σ' := ⟨hoff, fun a q => IT.flds k _ a hst q, hb0⟩
  have ext : ∀ {s'' : Shared}, Zbt fp s'.heap s''.heap → Ext (Own env) s.heap σ s''.heap σ' := fun {s''} kb => by
    refine ⟨fun a o e n nw => ?_, fun a o e => ?_, hx.dom⟩
    · refine (hx.keep a o e n nw).then fun o' e' => .of (kb a o' (fun q => ?_) e')
      rw [(hfp a q).1] at e; cases e
    · obtain ⟨o', e'⟩ := hx.pres a o e
      refine ⟨o', kb a o' (fun q => ?_) e'⟩
      rw [(hfp a q).1] at e; cases e
  rcases Nat.lt_or_ge k items.length with hlt | hge
  · have hd : items.drop k = items[k] :: items.drop (k + 1) := List.drop_eq_getElem_cons hlt
    rw [hd] at hl
    obtain ⟨hinv, hbind⟩ := hl
    refine wpAny_mono (IT.item k items[k] A (fun e s' => False) s' σ' target (fun v s₁ => ∃ (kb : Zbt fp s'.heap s₁.heap), Wv s' s₁ ∧ St (k + 1) s₁.heap ∧ VR (g.wh H) s₁.heap items[k] v) (by simp [hlt]) hst hR hinv hoff target_tup
      fun v s₁ a b d e => ⟨a, b, d, e⟩) (fun rr s₁ p => ?_) fun _ _ p => p.elim
    cases rr with
    | none => exact p.elim
    | some v =>
      refine wpAny_mono p (fun _ s₂ p => ?_) fun _ _ p => p.elim
      obtain ⟨kb, hs2, hst2, hv⟩ := p
      have hL2 := W.loc hL kb hown
      have hR2 := W.rel hR kb fun a w q => let ⟨o, e, _⟩ := IT.flds _ _ a hst2 q; ⟨o, e⟩
      have hx2 := ext kb
      have X2 : Cx (g.wh H) sc r true A env s₂.heap σ' ℓ' := ⟨X.gok.wh, X.ok, hL2, X.fr.step hx2 (X.loc.dicts (hL2.less hH)), X.room, hR2⟩
      have W2 : Zbq (g.wh H) fp s₂.heap σ' := ⟨hoff, fun a q => IT.flds _ _ a hst2 q, hb0⟩
      refine wpAny_mono (Zgg (g := g.wh H) Zgt (E := fun _ _ => False) X2 ht hv hbind) (fun _ s₃ p => ?_) fun _ _ p => p.elim
      obtain ⟨ℓ₃, hL3, hR3, hx3, hs3, hbody⟩ := p
      have hst3 : St (k + 1) s₃.heap := IT.stab _ _ _ hst2 (hx3.tuples hR2 hL2.noSeq) (W2.stand hx3 hown)
      have X3 : Cx (g.wh H) sc r true A env s₃.heap σ' ℓ₃ := X2.stepS hL3 hR3 hx3
      have W3 : Zbq (g.wh H) fp s₃.heap σ' := ⟨hoff, fun a q => IT.flds _ _ a hst3 q, hb0⟩
      have hx03 : Ext (Own env) s.heap σ s₃.heap σ' := hx2.trans hx3
      have hs03 : Wv s s₃ := (hsm.trans hs2).trans hs3
      refine wpAny_mono (hb.run A env s₃ ℓ₃ σ' _ E X3 hbody) (fun f s₄ p => ?_) fun e s₄ p => ((p.less hH).back hx03 hs03).noted X fun e s' p => p.came fun e s' p => p
      obtain ⟨f', ℓ₄, σ₄, hf', hL4, hR4, hx4, hs4, hq⟩ := p
      have again : Zce t inv tb (items.drop (k + 1)) ℓ₄ σ₄ Q E → ∃ m, m < items.length - k ∧ Z18 g H env s σ t inv tb items fp St Q E m s₄ := fun hl => by
        refine ⟨items.length - (k + 1), by exact Z2l hlt, k + 1, ℓ₄, σ₄, hlt, rfl, ?_, hL4, hR4, hx03.trans hx4, hs03.trans hs4, fun a q => ?_, hl⟩
        · exact IT.stab _ _ _ hst3 (hx4.tuples hR3 hL3.noSeq) (W3.stand hx4 hown)
        · obtain ⟨o, e, _⟩ := W3.flds a q
          exact hx4.off e (hoff a q)
      cases f' with
      | next => cases hf'; exact again hq
      | cont => cases hf'; exact again hq
      | brk => cases hf'; exact ⟨.next, ℓ₄, σ₄, rfl, hL4.less hH, hR4.less hH, hx03.trans hx4, hs03.trans hs4, hq⟩
      | ret v => obtain ⟨u, rfl, hu⟩ := hf'; exact ⟨.ret v, ℓ₄, σ₄, ⟨u, rfl, hu.less hH⟩, hL4.less hH, hR4.less hH, hx03.trans hx4, hs03.trans hs4, hq⟩
  · have hd : items.drop k = [] := List.drop_eq_nil_of_le hge
    rw [hd] at hl
    refine IT.last k A _ s' σ' _ hge (X.room.calm rfl) hst hR hl.1 hoff fun s'' kb hs'' => wpAny_execs_nil ?_
    exact ⟨.next, ℓ', σ', rfl, (W.loc hL kb hown).less hH, W.relLess hR kb hH hhid, ext kb, hsm.trans hs'', hl.2⟩
theorem Wd {target iter : Expr} {body : List Stmt} {pos : Pos} {t : Tgt} {ti : TI} {tb : TS} (hi : Zr7 g sc r true iter ti) (ht : Zgq sc target t) (hb : Zdw g sc r true body tb)
    (hf : ∀ env x, foldedSetIterable iter env x = pure x) : Zlc g sc r true (.For target iter body [] pos) (Zlm t ti tb) := .mk fun A env s ℓ σ Q E X h => by
  refine wpAny_For (wpAny_mono (hi.run A env s ℓ σ _ _ X h) (fun x s₁ p => wpAny_mono p (fun it s₂ p => ?_) fun _ _ p => p.toS X) fun _ _ p => p.toS X) (hf env)
  obtain ⟨items, inv, I, fp, St, tup, σ₁, rfl, IT, hst, hR, hx, hsm, hfp, hft, htt, hl⟩ := p
  exact Zrp (H := g.hid) (fun _ h => h) X IT hst (X.loc.step X.rel hx) hR hx hsm hfp htt hl ht hb
end
section
open PySem PyProof.Rows
variable {g : Gr} {sc csc : Scope} {r : Nat} {c : Bool}
noncomputable def Loc.bare (ℓ : Loc) : Loc := fun n => cond (n == ".0") none (ℓ n)
theorem Loc.bare_at {ℓ : Loc} {n : String} : ℓ.bare n = if n = ".0" then none else ℓ n := by
  unfold Loc.bare
  by_cases h : n = ".0"
  · rw [if_pos h, beq_iff_eq.mpr h]; rfl
  · rw [if_neg h, beq_eq_false_iff_ne.mpr h]; rfl
noncomputable def Zbz : List (Str × NameKind) → Bool
  | [] => true
  | (x, _) :: rest => (rest.all fun y => y.1 != x) && Zbz rest
noncomputable def Wi (sc csc : Scope) : Bool :=
  csc.kind == .function && Zbz csc.names && (csc.names.all fun x => x.2 != .cell && x.1 != ("__debug__" : Str) && x.1 != ("__classdict__" : Str)) &&
  (csc.names.all fun x => x.2 != .free || sc.names.any fun y => y.1 == x.1 && (y.2 == .cell || y.2 == .free))
theorem Wc : ∀ {names : List (Str × NameKind)} {x : Str} {k : NameKind}, Zbz names = true → (x, k) ∈ names → names.lookup x = some k
  | (y, j) :: rest, x, k, h, hm => by
    simp only [Zbz, Bool.and_eq_true] at h
    cases hm with
    | head => simp [List.lookup_cons]
    | tail _ hm =>
      have hne : (x == y) = false := by
        have := List.all_eq_true.mp h.1 _ hm
        simpa using this
      rw [List.lookup_cons, hne]
      exact Wc h.2 hm
theorem mem_of_lookup : ∀ {names : List (Str × NameKind)} {x : Str} {k : NameKind}, names.lookup x = some k → (x, k) ∈ names
  | [], x, k, h => by simp at h
  | (y, j) :: rest, x, k, h => by
    rw [List.lookup_cons] at h
    split at h
    · rename_i e; cases h; rw [eq_of_beq e]; exact .head _
    · exact .tail _ (mem_of_lookup h)
theorem Zed {scope : Scope} {env : Env} (h : ∀ x ∈ scope.names, x.2 = .free → ∃ a, env.cells.lookup x.1 = some a) :
    ∃ cl, closureFor scope env = pure cl ∧ (∀ n a, cl.lookup n = some a → env.cells.lookup n = some a) ∧ ∀ n, (n, NameKind.free) ∈ scope.names → cl.lookup n = env.cells.lookup n := by
  have key : ∀ (names : List (Str × NameKind)) (cs : List (Str × Addr)), (∀ x ∈ names, x.2 = .free → ∃ a, env.cells.lookup x.1 = some a) → (∀ n a, cs.lookup n = some a → env.cells.lookup n = some a) →
      ∃ cl, (forIn names cs fun x cs => if (x.2 == NameKind.free) = true then (do let a ← cellOf env x.1; pure (ForInStep.yield ((x.1, a) :: cs))) else pure (ForInStep.yield cs) : Sem (List (Str × Addr))) = pure cl ∧
        (∀ n a, cl.lookup n = some a → env.cells.lookup n = some a) ∧ (∀ n, (n, NameKind.free) ∈ names ∨ cs.lookup n ≠ none → cl.lookup n = env.cells.lookup n) := by
    intro names
    induction names with
    | nil =>
      intro cs _ hcs
      refine ⟨cs, rfl, hcs, fun n q => ?_⟩
      rcases q with q | q
      · cases q
      · cases e : cs.lookup n with
        | none => exact absurd e q
        | some a => rw [hcs n a e]
    | cons x names ih =>
      intro cs hx hcs
      obtain ⟨n, k⟩ := x
      cases hk : k == NameKind.free with
      | true =>
        obtain ⟨a, ha⟩ := hx (n, k) (.head _) (eq_of_beq hk)
        have hcs' : ∀ m b, ((n, a) :: cs).lookup m = some b → env.cells.lookup m = some b := fun m b q => by
          rw [List.lookup_cons] at q
          split at q
          · rename_i e; cases q; rw [eq_of_beq e]; exact ha
          · exact hcs m b q
        obtain ⟨cl, h1, h2, h3⟩ := ih ((n, a) :: cs) (fun y hy => hx y (.tail _ hy)) hcs'
        refine ⟨cl, ?_, h2, fun m q => h3 m ?_⟩
        · rw [List.forIn_cons]
          simp only [hk, if_true]
          unfold cellOf
          rw [ha]
          exact h1
        · rcases q with q | q
          · cases q with
            | head => right; simp [List.lookup_cons]
            | tail _ q => exact .inl q
          · right
            rw [List.lookup_cons]
            split
            · simp
            · exact q
      | false =>
        obtain ⟨cl, h1, h2, h3⟩ := ih cs (fun y hy => hx y (.tail _ hy)) hcs
        refine ⟨cl, ?_, h2, fun m q => h3 m ?_⟩
        · rw [List.forIn_cons]
          simp only [hk, Bool.false_eq_true, if_false]
          exact h1
        · rcases q with q | q
          · cases q with
            | head => cases hk
            | tail _ q => exact .inl q
          · exact .inr q
  obtain ⟨cl, h1, h2, h3⟩ := key scope.names [] h (fun n a q => by simp at q)
  refine ⟨cl, ?_, h2, fun n q => h3 n (.inl q)⟩
  unfold closureFor
  have : (pure cl : Sem (List (Str × Addr))) = (pure cl >>= fun cs => pure cs) := rfl
  rw [this, ← h1]
theorem LR.forget {h : Heap} {σ : AH} {env : Env} {ℓ ℓ' : Loc} (L : LR g h σ env ℓ) (k : ∀ n v, ℓ' n = some v → ℓ n = some v) : LR g h σ env ℓ' := by
  obtain ⟨m, h1, h2⟩ := L.ns
  exact ⟨⟨m, h1, fun n v e kd => h2 n v (k n v e) kd⟩, L.cell, fun n v e kd => L.cells n v (k n v e) kd, L.off, L.offc, L.apart, L.has⟩
theorem Rel.claim {h : Heap} {σ : AH} {a : Addr} {ao : AO} (R : Rel g h σ) (hb : g.b0.get? a = none) (x : OR g h a ao) : Rel g h (σ.set a ao) := by
  refine ⟨R.hid, R.base, fun b bo e => ?_⟩
  unfold AH.set at e
  split at e
  · rename_i q; subst q; cases e; exact ⟨hb, x⟩
  · exact R.own b bo e
section
variable {A : Around} {env : Env} {s : Shared} {σ : AH} {ℓ : Loc} {h : Heap} {cl : List (Str × Addr)} {C : Addr}
theorem Zf1 (cl : List (Str × Addr)) (C : Addr) (env : Env) (x : Str) : (compEnvC csc cl C env).kindOf x = (csc.names.lookup x).map fun k => if (k == .free && env.scope.kind == .function && env.kindOf x == some .cell) then .cell else k := by
  show ((relabel csc env).names).lookup x = _
  unfold relabel
  simp only
  generalize csc.names = names
  induction names with
  | nil => rfl
  | cons y rest ih =>
    obtain ⟨n, k⟩ := y
    rw [List.map_cons, List.lookup_cons]
    by_cases hx : x = n
    · subst hx
      by_cases hc : (k == NameKind.free && env.scope.kind == .function && env.kindOf x == some .cell) = true
      · simp only [hc, if_true, List.lookup_cons, beq_self_eq_true, Option.map_some]
      · simp only [hc, if_false, List.lookup_cons, beq_self_eq_true, Option.map_some]
        simp
    · have hb : (x == n) = false := by simpa using hx
      by_cases hc : (k == NameKind.free && env.scope.kind == .function && env.kindOf n == some .cell) = true
      · simp only [hc, if_true, List.lookup_cons, hb]; exact ih
      · simp only [hc, if_false, List.lookup_cons, hb]; simp only [Bool.false_eq_true, if_false, List.lookup_cons, hb]; exact ih
theorem Zr1 (X : Cx g sc r c A env h σ ℓ) (ok : Wi sc csc = true) : Zr9 csc (compEnvC csc cl C env) := by
  simp only [Wi, Bool.and_eq_true] at ok
  obtain ⟨⟨⟨ok1, ok2⟩, ok3⟩, ok4⟩ := ok
  refine ⟨fun x k hm => ?_, fun x k hm => ?_, by show (relabel csc env).kind = _; exact eq_of_beq ok1, X.ok.globals, X.ok.builtins⟩
  · rw [Zf1, Wc ok2 hm]
    simp only [Option.map_some]
    split
    · rename_i hc
      simp only [Bool.and_eq_true] at hc
      exact .inr ⟨eq_of_beq hc.1.1, rfl⟩
    · exact .inl rfl
  · have := List.all_eq_true.mp ok3 _ hm
    simp only [Bool.and_eq_true] at this
    exact ⟨by simpa using this.1.2, by simpa using this.2⟩
theorem Zma (X : Cx g sc r c A env h σ ℓ) (ok : Wi sc csc = true) (hcl : ∀ n a, cl.lookup n = some a → env.cells.lookup n = some a) (hcl' : ∀ n, (n, NameKind.free) ∈ csc.names → cl.lookup n = env.cells.lookup n)
    {m : Str → Option Value} (hn : h.Ns C m) (hC : σ C = none) (hCb : g.b0.get? C = none) (hCn : ∀ x a, env.cells.lookup x = some a → a ≠ C)
    {ℓ' : Loc} (hl : ∀ n v, ℓ' n = some v → csc.names.lookup (Str.ofString n) = some .local → ∃ u, m (Str.ofString n) = some u ∧ VR g h v u)
    (hf : ∀ n v, ℓ' n = some v → csc.names.lookup (Str.ofString n) = some .free → ℓ n = some v) : LR g h σ (compEnvC csc cl C env) ℓ' := by
  simp only [Wi, Bool.and_eq_true] at ok
  obtain ⟨⟨⟨ok1, ok2⟩, ok3⟩, ok4⟩ := ok
  have kd : ∀ x k, (compEnvC csc cl C env).kindOf x = some k → (k = .local → csc.names.lookup x = some .local) ∧ (k = .cell ∨ k = .free → csc.names.lookup x = some .free) := fun x k e => by
    rw [Zf1] at e
    cases q : csc.names.lookup x with
    | none => rw [q] at e; cases e
    | some j =>
      rw [q] at e
      simp only [Option.map_some, Option.some.injEq] at e
      have hj : j ≠ .cell := fun z => by
        subst z
        have := List.all_eq_true.mp ok3 _ (mem_of_lookup q)
        simp at this
      split at e
      · rename_i hc
        simp only [Bool.and_eq_true] at hc
        have : j = .free := eq_of_beq hc.1.1
        subst this; subst e
        exact ⟨fun z => (nomatch z), fun _ => rfl⟩
      · subst e
        exact ⟨fun z => by rw [z], fun z => by rcases z with z | z <;> first | exact absurd z hj | rw [z]⟩
  have out : ∀ x, csc.names.lookup x = some .free → env.kindOf x = some .cell ∨ env.kindOf x = some .free := fun x e => by
    have := List.all_eq_true.mp ok4 _ (mem_of_lookup e)
    simp only [bne_self_eq_false, Bool.false_or, List.any_eq_true, Bool.and_eq_true] at this
    obtain ⟨⟨y, j⟩, hy, h1, h2⟩ := this
    have hyx : y = x := eq_of_beq h1
    subst hyx
    rcases X.ok.kinds _ _ hy with q | ⟨_, q⟩
    · rw [q]
      cases j <;> simp at h2 <;> simp
    · exact .inl q
  refine ⟨⟨m, hn, fun n v e k => hl n v e ((kd _ _ k).1 rfl)⟩, fun x a e => X.loc.cell x a (hcl x a e), fun n v e k => ?_, ⟨hC, hCb⟩, fun x a e => ?_, fun x y a e1 e2 => X.loc.apart x y a (hcl x a e1) (hcl y a e2), fun x k => ?_⟩
  · have hfree : csc.names.lookup (Str.ofString n) = some .free := by
      rcases k with k | k
      · exact (kd _ _ k).2 (.inl rfl)
      · exact (kd _ _ k).2 (.inr rfl)
    obtain ⟨a, u, h1, h2, h3⟩ := X.loc.cells n v (hf n v e hfree) (out _ hfree)
    exact ⟨a, u, (hcl' _ (mem_of_lookup hfree)).trans h1, h2, h3⟩
  · obtain ⟨h1, h2, h3⟩ := X.loc.offc x a (hcl x a e)
    exact ⟨h1, hCn x a (hcl x a e), h3⟩
  · have hfree : csc.names.lookup x = some .free := by
      rcases k with k | k
      · exact (kd _ _ k).2 (.inl rfl)
      · exact (kd _ _ k).2 (.inr rfl)
    obtain ⟨a, ha⟩ := X.loc.has x (out x hfree)
    exact ⟨a, (hcl' _ (mem_of_lookup hfree)).trans ha⟩
theorem Zhj (X : Cx g sc r c A env h σ ℓ) (ok : Wi sc csc = true) : ∀ x ∈ csc.names, x.2 = .free → ∃ a, env.cells.lookup x.1 = some a := fun x hx e => by
  simp only [Wi, Bool.and_eq_true] at ok
  have := List.all_eq_true.mp ok.2 _ hx
  rw [e] at this
  simp only [bne_self_eq_false, Bool.false_or, List.any_eq_true, Bool.and_eq_true] at this
  obtain ⟨⟨y, j⟩, hy, h1, h2⟩ := this
  have hyx : y = x.1 := eq_of_beq h1
  subst hyx
  refine X.loc.has _ ?_
  rcases X.ok.kinds _ _ hy with q | ⟨_, q⟩
  · rw [q]
    cases j <;> simp at h2 <;> simp
  · exact .inl q
end
end
section
open PySem PyProof.Rows
variable {g : Gr} {sc csc : Scope} {r : Nat} {c : Bool}
noncomputable def Zet (t : Tgt) (inv : AH → Prop) (tifs : TB) (telt : TE) (ℓ : Loc) : List V → List V → AH → (List V → AH → Prop) → (Addr → AH → Prop) → Prop
  | [], acc, σ, Q, _ => inv σ ∧ Q acc σ
  | x :: xs, acc, σ, Q, E => inv σ ∧ Xs t x ℓ.bare σ fun ℓ₁ => tifs ℓ₁ σ (fun b σ₁ => match b with
      | true => telt ℓ₁ σ₁ (fun v σ₂ => Zet t inv tifs telt ℓ xs (acc ++ [v]) σ₂ Q E) E
      | false => Zet t inv tifs telt ℓ xs acc σ₁ Q E) E
noncomputable def Zau (t : Tgt) (ti : TI) (tifs : TB) (telt : TE) : Loc → AH → (List V → AH → Prop) → (Addr → AH → Prop) → Prop := fun ℓ σ Q E =>
  ti ℓ σ (fun items inv tup σ₁ => (tup = true → t.isTup = true) ∧ Zet t inv tifs telt ℓ items [] σ₁ Q E) E
structure Ztz (g : Gr) (sc : Scope) (r : Nat) (c : Bool) (ifs : List Expr) (t : TB) : Prop where
  run : ∀ A env s ℓ σ Q E, Cx g sc r c A env s.heap σ ℓ → t ℓ σ Q E →
  wpAny (model g.prog g.w) A (forIn ifs true fun c r => if r = true then do let ok ← isTrue c env (eval c env); pure (ForInStep.yield ok) else pure (ForInStep.yield r)) (Zt2 g s σ Q) (Xx g A s σ E) s
theorem Xp : Ztz g sc r c [] (Xo true) := .mk fun A env s ℓ σ Q E X h => wpAny_tests_nil (.here rfl X.rel h)
theorem Zd5 {e : Expr} {t : TB} (h1 : Znq g sc r c e t) : Ztz g sc r c [e] t := .mk fun A env s ℓ σ Q E X h => wpAny_tests_one (h1.run A env s ℓ σ Q E X h)
theorem Zj2 {prog : Program} {w : World} {A : Around} {R : Result → Shared → Prop} {s : Shared} {elt target iter : Expr} {ifs : List Expr} {scope : Scope} {pos : Pos} {it acc : Value} {env : Env} (I : Nat → Shared → Prop)
    (turn : ∀ n s, I n s → wpAny (model prog w) A (pyNext it) (fun r s₁ => match r with
      | none => R (.ok .next) s₁
      | some v => wpAny (model prog w) A (letOwnedTupleGo target it v) (fun _ s₁ => wpAny (model prog w) A (assign target env v) (fun _ s₂ =>
          wpAny (model prog w) A (forIn ifs true fun c r => if r = true then do let ok ← isTrue c env (eval c env); pure (ForInStep.yield ok) else pure (ForInStep.yield r)) (fun ok s₃ =>
            if ok = true then wpAny (model prog w) A (eval elt env) (fun x s₄ =>
              wpAny (model prog w) A (call (.builtin "list.append") [acc, x]) (fun _ s₅ => ∃ m, m < n ∧ I m s₅) (notedBy (model prog w) A env fun e s' => R (.error e) s') s₄) (notedBy (model prog w) A env fun e s' => R (.error e) s') s₃
            else ∃ m, m < n ∧ I m s₃) (notedBy (model prog w) A env fun e s' => R (.error e) s') s₂) (notedBy (model prog w) A env fun e s' => R (.error e) s') s₁) (notedBy (model prog w) A env fun e s' => R (.error e) s') s₁) (notedBy (model prog w) A env fun e s' => R (.error e) s') s)
    (n : Nat) (h : I n s) :
    codeAny (model prog w) A (.compLoop (.ListComp elt [⟨target, iter, ifs, 0⟩] scope pos) 0 it acc env) R s := by
  refine codeAny_loop rfl I (fun n s hI => ?_) n h
  show wpAny _ A ((compTurn (.ListComp elt [⟨target, iter, ifs, 0⟩] scope pos) 0 it acc env).onRaise (fun x => do noteFrame x env; theTreesLotGoes x)) _ _ s
  refine wpAny_noted ?_
  rw [compTurn_list]
  refine wpAny_bind (wpAny_standAt (wpAny_bind (wpAny_mono (turn n s hI) (fun r s₁ h₁ => ?_) fun _ _ h' => h')))
  cases r with
  | none => exact wpAny_pure h₁
  | some v =>
    refine wpAny_bind (wpAny_mono h₁ (fun _ s₁ h₁ => ?_) fun _ _ h' => h')
    refine wpAny_bind (wpAny_mono h₁ (fun _ s₂ h₂ => wpAny_bind (wpAny_mono h₂ (fun ok s₃ h₃ => ?_) fun _ _ h' => h')) fun _ _ h' => h')
    cases ok with
    | false => exact wpAny_pure ⟨rfl, h₃⟩
    | true =>
      exact wpAny_bind (wpAny_bind (wpAny_mono h₃ (fun x s₄ h₄ => wpAny_bind (wpAny_mono h₄ (fun _ s₅ h₅ => wpAny_pure (wpAny_pure ⟨rfl, h₅⟩)) fun _ _ h' => h')) fun _ _ h' => h'))
noncomputable def Tgt.names : Tgt → List String
  | .name n => [n]
  | .tup ns => ns
noncomputable def Zna (csc : Scope) (t : Tgt) : Bool := csc.names.all fun x => x.2 != .local || x.1 == Str.ofString ".0" || t.names.any fun n => x.1 == Str.ofString n
noncomputable def Loc.outer (csc : Scope) (ℓ : Loc) : Loc := fun n => if csc.names.lookup (Str.ofString n) = some .local then none else ℓ n
theorem Zg4 : ∀ {ns : List String} {vs : List V} {ℓa ℓb : Loc}, vs.length = ns.length → (∀ n v, n ∉ ns → ℓa n = some v → ℓb n = some v) → ∀ n v, ℓa.setAll ns vs n = some v → ℓb.setAll ns vs n = some v
  | [], vs, ℓa, ℓb, hl, h, n, v, e => by
    cases vs with
    | nil => exact h n v (by simp) e
    | cons _ _ => simp at hl
  | m :: ns, [], ℓa, ℓb, hl, h, n, v, e => by simp at hl
  | m :: ns, x :: vs, ℓa, ℓb, hl, h, n, v, e => by
    refine Zg4 (ns := ns) (vs := vs) (ℓa := ℓa.set m x) (ℓb := ℓb.set m x) (by simpa using hl) (fun k u hk q => ?_) n v e
    rw [Wh] at q ⊢
    split
    · rename_i z; rw [if_pos z] at q; exact q
    · rename_i z; rw [if_neg z] at q; exact h k u (by simp [z, hk]) q
theorem Zno {csc : Scope} {t : Tgt} (lk : Zna csc t = true) {x : V} {ℓ : Loc} {σ : AH} {P : Loc → Prop} (h : Xs t x ℓ.bare σ P) : Xs t x (ℓ.outer csc) σ fun ℓ' => ∃ ℓ'', (∀ n v, ℓ'' n = some v → ℓ' n = some v) ∧ P ℓ'' := by
  have sub : ∀ n v, n ∉ t.names → ℓ.bare n = some v → ℓ.outer csc n = some v := fun n v hn e => by
    rw [Loc.bare_at] at e
    split at e
    · cases e
    · rename_i z
      unfold Loc.outer
      rw [if_neg ?_]; exact e
      intro q
      have := List.all_eq_true.mp lk _ (mem_of_lookup q)
      simp only [bne_self_eq_false, Bool.false_or, Bool.or_eq_true, List.any_eq_true] at this
      rcases this with w | ⟨m, hm, w⟩
      · exact z (Wt (eq_of_beq w))
      · exact hn (Wt (eq_of_beq w) ▸ hm)
  cases t with
  | name m =>
    refine ⟨_, fun n v e => ?_, h⟩
    rw [Wh] at e ⊢
    split
    · rename_i z; rw [if_pos z] at e; exact e
    · rename_i z; rw [if_neg z] at e; exact sub n v (by simp [Tgt.names, z]) e
  | tup ns =>
    simp only [Xs] at h ⊢
    split at h
    · rename_i vs e
      exact ⟨h.1, _, Zg4 h.1 sub, h.2⟩
    · exact h.elim
theorem Ext.absorb {W : Addr → Prop} {h0 h h' : Heap} {σ0 σ σ' : AH} (x : Ext No h0 σ0 h σ) (y : Ext W h σ h' σ') (hw : ∀ a, W a → h0.get? a = none) : Ext No h0 σ0 h' σ' := by
  refine ⟨fun a o e n nw => ?_, fun a o e => ?_, fun a q => ?_⟩
  · exact (x.keep a o e n nw).then fun o' e' => y.keep a o' e' (x.off e n) fun w => by rw [hw a w] at e; cases e
  · obtain ⟨o', e'⟩ := x.pres a o e; exact y.pres a o' e'
  · rcases y.dom a q with z | z
    · exact x.dom a z
    · cases e : h0.get? a with
      | none => exact .inr rfl
      | some o => obtain ⟨o', e'⟩ := x.pres a o e; rw [e'] at z; cases z
inductive Zlg (g : Gr) (A : Around) (s : Shared) (σ : AH) (E : Addr → AH → Prop) (C : Addr) (e : Value) (s' : Shared) : Prop
  | mk (X : Addr) (σ' : AH) (h1 : XAt g false s.heap s'.heap e X σ') (h2 : Rel g s'.heap σ') (h3 : Ext No s.heap σ s'.heap σ') (h4 : Wv s s') (h5 : E X σ') (m : Str → Option Value) (hn : s'.heap.Ns C m) (oC : σ' C = none) : Zlg g A s σ E C e s'
theorem Xx.comp {A : Around} {s s₃ s' : Shared} {σ σ₃ : AH} {E : Addr → AH → Prop} {C : Addr} {e : Value} {cenv : Env} {ℓ : Loc} (p : Xx g A s₃ σ₃ E e s') (L : LR g s₃.heap σ₃ cenv ℓ) (x : Ext No s.heap σ s₃.heap σ₃) (y : Wv s s₃) (hc : cenv.locals = C := by rfl) : Zlg g A s σ E C e s' := by
  obtain ⟨X, σ', h1, h2, h3, h4, h5⟩ := p
  obtain ⟨m, hn, _⟩ := L.ns
  have ho := L.off.1
  rw [hc] at hn ho
  obtain ⟨o, _, _, e', _⟩ := id hn
  exact ⟨X, σ', h1.back x.pres, h2, x.trans h3, y.trans h4, h5, m, Zds hn fun o e => h3.keep C o e ho id, h3.off e' ho⟩
theorem Zlg.less {A : Around} {s : Shared} {σ : AH} {H : Addr → Prop} (k : ∀ a, g.hid a → H a) {E : Addr → AH → Prop} {C : Addr} {e : Value} {s' : Shared} (p : Zlg (g.wh H) A s σ E C e s') : Zlg g A s σ E C e s' :=
  let ⟨X, σ', h1, h2, h3, h4, h5, m, hn, oC⟩ := p; ⟨X, σ', h1.unwh, h2.less k, h3, h4, h5, m, hn, oC⟩
structure Blk (g : Gr) (csc : Scope) (cl : List (Str × Addr)) (env : Env) (s : Shared) (σ : AH) (fp : Addr → Prop) (St : Nat → Heap → Prop) (D C : Addr) (k : Nat) (acc : List V) (ℓ' : Loc) (s' : Shared) (σ' : AH) : Prop where
  st : St k s'.heap
  dl : ∃ vs n, s'.heap.get? D = some { cls := .type "list", data := .seq vs n } ∧ VRs g s'.heap acc vs.toList
  loc : LR g s'.heap σ' (compEnvC csc cl C env) ℓ'
  rel : Rel g s'.heap σ'
  ext : Ext No s.heap σ s'.heap σ'
  same : Wv s s'
  off : ∀ a, fp a → σ' a = none
  offD : σ' D = none
inductive Zt3 (g : Gr) (csc : Scope) (cl : List (Str × Addr)) (env : Env) (s : Shared) (σ : AH) (fp : Addr → Prop) (St : Nat → Heap → Prop) (D C : Addr) (items : List V) (t : Tgt) (inv : AH → Prop) (tifs : TB) (telt : TE) (ℓ : Loc) (Q : List V → AH → Prop) (E : Addr → AH → Prop) (n : Nat) (s' : Shared) : Prop
  | mk (k : Nat) (acc : List V) (σ' : AH) (h1 : k ≤ items.length) (h2 : n = items.length - k) (h3 : Blk g csc cl env s σ fp St D C k acc (ℓ.outer csc) s' σ') (h4 : acc.length ≤ k) (h5 : Zet t inv tifs telt ℓ (items.drop k) acc σ' Q E) : Zt3 g csc cl env s σ fp St D C items t inv tifs telt ℓ Q E n s'
section
variable {A : Around} {env : Env} {s : Shared} {σ : AH} {ℓ : Loc} {cl : List (Str × Addr)} {items : List V} {inv : AH → Prop} {I : Addr} {fp : Addr → Prop} {St : Nat → Heap → Prop} {tup : Bool} {D C : Addr}
theorem Zjy {s₂ : Shared} {σ₁ : AH} {elt target iter : Expr} {ifs : List Expr} {pos : Pos} {t : Tgt} {tifs : TB} {telt : TE} {Q : List V → AH → Prop} {E : Addr → AH → Prop} {EE : Value → Shared → Prop} {RR : Value → Addr → Result → Shared → Prop} {H : Addr → Prop}
    (hH : ∀ a, g.hid a → H a) (hK : ∀ a o, s.heap.get? a = some o → H a → g.hid a) (X : Cx g sc r true A env s.heap σ ℓ) (ok : Wi sc csc = true) (IT : Zgs (g.wh H) items inv I fp St tup) (hst : St 0 s₂.heap) (hR : Rel (g.wh H) s₂.heap σ₁) (hx : Ext No s.heap σ s₂.heap σ₁) (hsm : Wv s s₂) (hfp : ∀ a, fp a → s.heap.get? a = none ∧ σ₁ a = none)
    (hft : Y3 items.length) (htt : tup = true → t.isTup = true) (ht : Zgq csc target t) (lk : Zna csc t = true) (h1 : Ztz (g.wh H) csc r true ifs tifs) (h2 : Y1 (g.wh H) csc r true elt telt)
    (hcl : ∀ n a, cl.lookup n = some a → env.cells.lookup n = some a) (hcl' : ∀ n, (n, NameKind.free) ∈ csc.names → cl.lookup n = env.cells.lookup n)
    (h : Zet t inv tifs telt ℓ items [] σ₁ Q E)
    (hRR : ∀ D C s' σ' xs, s.heap.get? D = none → s.heap.get? C = none → D ≠ C → (∃ m, s'.heap.Ns C m) → OR g s'.heap D (.list xs) → Rel g s'.heap σ' → Ext No s.heap σ s'.heap σ' → Wv s s' → σ' D = none → σ' C = none → Q xs σ' → RR (.ref D) C (.ok .next) s')
    (hEE : ∀ D C e s', s.heap.get? C = none → Zlg g A s σ E C e s' → notedBy (model g.prog g.w) A (compEnvC csc cl C env) (fun e s' => RR (.ref D) C (.error e) s') e s') :
    wpAny (model g.prog g.w) A (newList []) (fun acc s₃ => wpAny (model g.prog g.w) A (newFunctionEnv csc env.globals cl [] env.qual none .none (some env)) (fun cenv s₄ =>
      codeAny (model g.prog g.w) A (.compStart (.ListComp elt [⟨target, iter, ifs, 0⟩] csc pos) 0 (.ref I) acc { cenv with scope := relabel csc env }) (RR acc cenv.locals) s₄) EE s₃) EE s₂ := by
  have ok' := ok
  simp only [Wi, Bool.and_eq_true] at ok'
  obtain ⟨⟨⟨ok1, ok2⟩, ok3⟩, ok4⟩ := ok'
  have hcell : ∀ y ∈ csc.names, y.2 ≠ .cell := fun y hy e => by
    have := List.all_eq_true.mp ok3 _ hy
    rw [e] at this; simp at this
  refine wpAny_newObj_type (wpAny_newFunctionEnv hcell (by intro y hy; simp at hy) (fun h₁ hns₁ hsb₁ => ?_) (eq_of_beq ok1))
  dsimp only at hns₁ hsb₁ ⊢
  generalize hH2 : s₂.heap.push { cls := .type "list", dict := none, data := .seq ([] : List Value).toArray } = H2 at hns₁ hsb₁ ⊢
  generalize hDd : s₂.heap.objs.size = D at *
  generalize hCd : H2.objs.size = C at *
  have hCD : C = D + 1 := by rw [← hCd, ← hH2, Heap.size_push, hDd]
  have hDC : D ≠ C := by exact Z36 hCD
  have lt2 : ∀ b o, s₂.heap.get? b = some o → b < D := fun b o e => by rw [← hDd]; exact Heap.lt_size e
  have old : ∀ b o, s₂.heap.get? b = some o → h₁.get? b = some o := fun b o e => hsb₁.extBut b o (by rw [hCD]; exact Nat.ne_of_lt (Nat.lt_succ_of_lt (lt2 b o e))) (Heap.get?_push_of_some _ (hH2 ▸ Heap.get?_push_of_some _ e))
  have hacc : h₁.get? D = some { cls := .type "list", data := .seq #[] } := hsb₁.extBut _ _ hDC (Heap.get?_push_of_some _ (hH2 ▸ (hDd ▸ Heap.get?_push_size _ rfl)))
  have fresh2 : ∀ a, D ≤ a → s₂.heap.get? a = none := fun a ha => by
    cases e : s₂.heap.get? a with
    | none => rfl
    | some o' => exact absurd (lt2 a o' e) (Nat.not_lt.mpr ha)
  have fresh : ∀ a, D ≤ a → s.heap.get? a = none := fun a ha => by
    cases e : s.heap.get? a with
    | none => rfl
    | some o => obtain ⟨o', e'⟩ := hx.pres a o e; rw [fresh2 a ha] at e'; cases e'
  have hDs := fresh D (Nat.le_refl _)
  have hCs := fresh C (by exact Z2k hCD)
  have b0 : ∀ a, s.heap.get? a = none → g.b0.get? a = none := fun a e => by
    cases q : g.b0.get? a with
    | none => rfl
    | some o => rw [X.rel.base a o q] at e; cases e
  have hhid : ∀ a, s.heap.get? a = none → ¬ g.hid a := fun a e w => by
    obtain ⟨o, e'⟩ := X.rel.hid a w; rw [e] at e'; cases e'
  have fpD : ∀ a, fp a → a < D := fun a q => by obtain ⟨o, e, _⟩ := IT.flds 0 _ a hst q; exact lt2 a o e
  have cellsIn : ∀ x a, env.cells.lookup x = some a → ∃ o, s.heap.get? a = some o := fun x a e => let ⟨o, u, h1, _⟩ := X.loc.cell x a e; ⟨o, h1⟩
  have ownC : ∀ a, Own (compEnvC csc cl C env) a → a = C ∨ ∃ o, s.heap.get? a = some o := fun a w => by
    rcases w with w | ⟨x, e⟩
    · exact .inl w
    · exact .inr (cellsIn x a (hcl x a e))
  have fpOwn : ∀ a, fp a → ¬ Own (compEnvC csc cl C env) a := fun a q w => by
    rcases ownC a w with z | ⟨o, z⟩
    · have q' := fpD a q; rw [z, hCD] at q'; exact absurd q' (Nat.not_lt.mpr (Nat.le_succ D))
    · rw [(hfp a q).1] at z; cases z
  have DOwn : ¬ Own (compEnvC csc cl C env) D := fun w => by
    rcases ownC D w with z | ⟨o, z⟩
    · exact hDC z
    · rw [hDs] at z; cases z
  have writes : Zmg (· = C) csc (compEnvC csc cl C env) := ⟨fun a q => .inl q, fun n k a hm q1 q2 hk => by
    cases k with
    | «local» => exact q1 rfl
    | cell => exact absurd rfl (hcell _ hm)
    | _ => cases hk⟩
  have target_tup : tup = true → ∃ es m p, target = .Tuple es m p := fun q => by
    have := htt q
    cases ht with
    | name _ _ => cases this
    | tup _ => exact ⟨_, _, _, rfl⟩
  have XC : ∀ {k acc ℓ' s' σ'}, Blk (g.wh H) csc cl env s σ fp St D C k acc ℓ' s' σ' → Cx (g.wh H) csc r true A (compEnvC csc cl C env) s'.heap σ' ℓ' := fun {k acc ℓ' s' σ'} b =>
    ⟨X.gok.wh, Zr1 X ok, b.loc, X.fr.step b.ext (fun _ _ _ _ n => n.elim), X.room, b.rel⟩
  have XB : ∀ {h' : Heap} {σ' : AH}, Rel (g.wh H) h' σ' → Ext No s.heap σ h' σ' → Cx (g.wh H) sc r true A env h' σ' ℓ := fun {h' σ'} R x =>
    ⟨X.gok.wh, X.ok, LR.stepT (LR.more hK X.loc) (fun a o vs n nh => x.tuples X.rel Yw a o vs n fun q => nh (hH a q)) x, X.fr.step x (fun _ _ _ _ n => n.elim), X.room, R⟩
  have stepE : ∀ {k acc ℓ' s' σ' s'' σ''}, Blk (g.wh H) csc cl env s σ fp St D C k acc ℓ' s' σ' → Ext No s'.heap σ' s''.heap σ'' → Rel (g.wh H) s''.heap σ'' → Wv s' s'' → Blk (g.wh H) csc cl env s σ fp St D C k acc ℓ' s'' σ'' := fun {k acc ℓ' s' σ' s'' σ''} b x R hs => by
    have tk : Yh (g.wh H) s'.heap s''.heap := x.tuples b.rel Yw
    obtain ⟨vs, n, e, hv⟩ := b.dl
    refine ⟨IT.stab _ _ _ b.st tk fun a o q e => ?_, ⟨vs, n, (x.keep D _ e b.offD id).exact (fun _ _ => Data.noConfusion), VRs.mono tk hv⟩, b.loc.step b.rel x, R, b.ext.trans x, b.same.trans hs, fun a q => ?_, x.off e b.offD⟩
    · refine (x.keep a o e (b.off a q) id).exact fun es m d => ?_
      obtain ⟨o', e', z⟩ := IT.flds _ _ a b.st q
      rw [e] at e'; cases e'
      rcases z with ⟨_, _, _, z⟩ | ⟨us, z⟩ <;> (rw [d] at z; cases z)
    · obtain ⟨o', e', z⟩ := IT.flds _ _ a b.st q
      exact x.off e' (b.off a q)
  have loop : ∀ s₃ : Shared, s₃ = { s₂ with heap := h₁, toks := s₂.toks + ([] : List (Str × Value)).length } →
      codeAny (model g.prog g.w) A (.compLoop (.ListComp elt [⟨target, iter, ifs, 0⟩] csc pos) 0 (.ref I) (.ref D) (compEnvC csc cl C env)) (RR (.ref D) C) s₃ := by
    rintro s₃ rfl
    have B0 : Blk (g.wh H) csc cl env s σ fp St D C 0 [] (ℓ.outer csc) { s₂ with heap := h₁, toks := s₂.toks + ([] : List (Str × Value)).length } σ₁ := by
      have k1 : ∀ a o, s₂.heap.get? a = some o → h₁.get? a = some o := old
      have X1 : Cx (g.wh H) sc r true A env h₁ σ₁ ℓ := XB (hR.keeps k1) (hx.trans (.keeps k1))
      refine ⟨IT.stab _ _ _ hst (fun a o _ _ _ e _ _ => .of (k1 a o e)) fun a o _ e => k1 a o e, ⟨#[], 0, hacc, Yx⟩, ?_, hR.keeps k1, hx.trans (.keeps k1), hsm.trans ⟨rfl, rfl, rfl⟩, fun a q => (hfp a q).2, hR.fresh (fresh2 D (Nat.le_refl _))⟩
      refine Zma X1 ok hcl hcl' hns₁ (hR.fresh (fresh2 C (by exact Z2k hCD))) (b0 C hCs) (fun x a e z => ?_) (fun n v e q => ?_) (fun n v e q => ?_)
      · obtain ⟨o, e'⟩ := cellsIn x a e; rw [z, hCs] at e'; cases e'
      · unfold Loc.outer at e; rw [if_pos q] at e; cases e
      · unfold Loc.outer at e; split at e
        · cases e
        · exact e
    refine Zj2 (Zt3 (g.wh H) csc cl env s σ fp St D C items t inv tifs telt ℓ Q E) ?_ items.length
      ⟨0, [], σ₁, Nat.zero_le _, rfl, B0, Nat.le_refl _, by simpa using h⟩
    rintro n s' ⟨k, acc, σ', hk, rfl, B, hal, hl⟩
    have W : Zbq (g.wh H) fp s'.heap σ' := ⟨B.off, fun a q => IT.flds k _ a B.st q, fun a q => b0 a (hfp a q).1⟩
    have hne : ∀ a, fp a → a ≠ D := fun a q => Nat.ne_of_lt (fpD a q)
    have extK : ∀ {s'' : Shared}, Zbt fp s'.heap s''.heap → Ext No s.heap σ s''.heap σ' := fun {s''} kb => by
      refine ⟨fun a o e n nw => ?_, fun a o e => ?_, B.ext.dom⟩
      · refine (B.ext.keep a o e n nw).then fun o' e' => .of (kb a o' (fun q => ?_) e')
        rw [(hfp a q).1] at e; cases e
      · obtain ⟨o', e'⟩ := B.ext.pres a o e
        refine ⟨o', kb a o' (fun q => ?_) e'⟩
        rw [(hfp a q).1] at e; cases e
    obtain ⟨vs, nn, eD, hvs⟩ := B.dl
    rcases Nat.lt_or_ge k items.length with hlt | hge
    · have hd : items.drop k = items[k] :: items.drop (k + 1) := List.drop_eq_getElem_cons hlt
      rw [hd] at hl
      obtain ⟨hinv, hbind⟩ := hl
      refine wpAny_mono (IT.item k items[k] A (fun e s' => False) s' σ' target (fun v s₁ => ∃ (kb : Zbt fp s'.heap s₁.heap), Wv s' s₁ ∧ St (k + 1) s₁.heap ∧ VR (g.wh H) s₁.heap items[k] v) (by simp [hlt]) B.st B.rel hinv B.off target_tup
        fun v s₁ a b d e => ⟨a, b, d, e⟩) (fun rr s₁ p => ?_) fun _ _ p => p.elim
      cases rr with
      | none => exact p.elim
      | some v =>
        refine wpAny_mono p (fun _ s₂ p => ?_) fun _ _ p => p.elim
        obtain ⟨kb, hs2, hst2, hv⟩ := p
        have B2 : Blk (g.wh H) csc cl env s σ fp St D C (k + 1) acc (ℓ.outer csc) s₂ σ' :=
          ⟨hst2, ⟨vs, nn, kb D _ (fun q => hne D q rfl) eD, VRs.mono (W.tups kb) hvs⟩, W.loc B.loc kb fpOwn, W.rel B.rel kb fun a w q => let ⟨o, e, _⟩ := IT.flds _ _ a hst2 q; ⟨o, e⟩, extK kb, B.same.trans hs2, B.off, B.offD⟩
        refine wpAny_mono (Zgg (g := g.wh H) writes (E := fun _ _ => False) (XC B2) ht hv (Zno lk hbind)) (fun _ s₃ p => ?_) fun _ _ p => p.elim
        obtain ⟨ℓ₃, hL3, hR3, hx3, hs3, ℓ₄, hsub, hbody⟩ := p
        have noseq : Zns (· = C) s₂.heap := fun a o w => B2.loc.noSeq a o (.inl w)
        have tk3 : Yh (g.wh H) s₂.heap s₃.heap := hx3.tuples B2.rel noseq
        have B3 : Blk (g.wh H) csc cl env s σ fp St D C (k + 1) acc ℓ₄ s₃ σ' := by
          obtain ⟨vs2, nn2, eD2, hvs2⟩ := B2.dl
          refine ⟨IT.stab _ _ _ hst2 tk3 fun a o q e => ?_, ⟨vs2, nn2, (hx3.keep D _ eD2 B2.offD hDC).exact (fun _ _ => Data.noConfusion), VRs.mono tk3 hvs2⟩, hL3.forget hsub, hR3, B2.ext.absorb hx3 (fun a w => w ▸ hCs), B2.same.trans hs3, B2.off, B2.offD⟩
          refine (hx3.keep a o e (B2.off a q) fun w => fpOwn a q (.inl w)).exact fun es m d => ?_
          obtain ⟨o', e', z⟩ := IT.flds _ _ a hst2 q
          rw [e] at e'; cases e'
          rcases z with ⟨_, _, _, z⟩ | ⟨us, z⟩ <;> (rw [d] at z; cases z)
        have again : ∀ {s₅ : Shared} {σ₅ : AH} {acc' : List V}, Blk (g.wh H) csc cl env s σ fp St D C (k + 1) acc' ℓ₄ s₅ σ₅ → acc'.length ≤ k + 1 → Zet t inv tifs telt ℓ (items.drop (k + 1)) acc' σ₅ Q E →
            ∃ m, m < items.length - k ∧ Zt3 (g.wh H) csc cl env s σ fp St D C items t inv tifs telt ℓ Q E m s₅ := fun {s₅ σ₅ acc'} b hle hc => by
          refine ⟨items.length - (k + 1), by exact Z2l hlt, k + 1, acc', σ₅, hlt, rfl, ⟨b.st, b.dl, ?_, b.rel, b.ext, b.same, b.off, b.offD⟩, hle, hc⟩
          have X5 : Cx (g.wh H) sc r true A env s₅.heap σ₅ ℓ := XB b.rel b.ext
          obtain ⟨m, hn5, _⟩ := b.loc.ns
          refine Zma X5 ok hcl hcl' hn5 b.loc.off.1 (b0 C hCs) (fun x a e z => ?_) (fun n v e q => ?_) (fun n v e q => ?_)
          · obtain ⟨o, e'⟩ := cellsIn x a e; have z' : a = C := z; rw [z', hCs] at e'; cases e'
          · unfold Loc.outer at e; rw [if_pos q] at e; cases e
          · unfold Loc.outer at e; split at e
            · cases e
            · exact e
        refine wpAny_mono (h1.run A _ s₃ ℓ₄ σ' _ E (XC B3) hbody) (fun b s₄ p => ?_) fun e s₄ p => hEE D C e s₄ hCs ((p.comp B3.loc B3.ext B3.same).less hH)
        obtain ⟨b', σ₄, rfl, hR4, hx4, hs4, hq⟩ := p
        have B4 := stepE B3 hx4 hR4 hs4
        cases b' with
        | false => exact again B4 (by exact Z35 hal) hq
        | true =>
          rw [if_pos rfl]
          refine wpAny_mono (h2.run A _ s₄ ℓ₄ σ₄ _ E (XC B4) hq) (fun y s₅ p => ?_) fun e s₅ p => hEE D C e s₅ hCs ((p.comp B4.loc B4.ext B4.same).less hH)
          refine Wr.elim p fun y' σ₅ hy hR5 hx5 hs5 hq => ?_
          have B5 := stepE B4 hx5 hR5 hs5
          obtain ⟨vs5, nn5, eD5, hvs5⟩ := B5.dl
          have hsz : vs5.size ≤ sizeLine := by
            have := Zu hvs5
            have h2 := hft.line
            simp at this; exact Z34 hal hlt this h2
          refine wpAny_list_append_plain ⟨nn5, eD5⟩ (fun h' hpl sb => ?_) hsz
          obtain ⟨n6, eD6⟩ := hpl
          have tk6 : Yh (g.wh H) s₅.heap h' := fun a o us m _ e cc d => by
            refine .of (sb.extBut a o (fun z => ?_) e)
            subst z; rw [eD5] at e; cases e; exact absurd cc (by simp)
          have pD : ∃ o, h'.get? D = some o := ⟨_, eD6⟩
          have x6 : Ext (· = D) s₅.heap σ₅ h' σ₅ := ⟨fun a o e _ nw => .of (sb.extBut a o nw e), fun a o e => by
            by_cases z : a = D
            · rw [z]; exact pD
            · exact ⟨o, sb.extBut a o z e⟩, fun a q => .inl q⟩
          have R6 : Rel (g.wh H) h' σ₅ := by
            refine ⟨fun a ha => ?_, fun a o e => sb.extBut a o (fun z => ?_) (hR5.base a o e), fun a ao e => ⟨(hR5.own a ao e).1, Zbs tk6 (fun o e' => sb.extBut a o (fun z => ?_) e') (hR5.own a ao e).2⟩⟩
            · obtain ⟨o, e⟩ := hR5.hid a ha
              exact x6.pres a o e
            · have q0 : (g.wh H).b0.get? D = none := b0 D hDs
              rw [z, q0] at e; cases e
            · rw [z, B5.offD] at e; cases e
          have L6 : LR (g.wh H) h' σ₅ (compEnvC csc cl C env) ℓ₄ := by
            have kv : ∀ {v : V} {u : Value}, VR (g.wh H) s₅.heap v u → VR (g.wh H) h' v u := VR.mono tk6
            obtain ⟨m, hn, hm⟩ := B5.loc.ns
            have hCD' : (compEnvC csc cl C env).locals ≠ D := fun z => hDC z.symm
            refine ⟨⟨m, Zds hn fun o e => .of (sb.extBut _ o hCD' e), fun y v a b => let ⟨u, e, f⟩ := hm y v a b; ⟨u, e, kv f⟩⟩, fun y c e => ?_, fun y v a kk => ?_, B5.loc.off, B5.loc.offc, B5.loc.apart, B5.loc.has⟩
            · obtain ⟨o, u, e1, e2⟩ := B5.loc.cell y c e
              exact ⟨o, u, sb.extBut c o (fun z => DOwn (z ▸ .inr ⟨y, e⟩)) e1, e2⟩
            · obtain ⟨c, u, e, hc, hv⟩ := B5.loc.cells y v a kk
              exact ⟨c, u, e, Zcx hc fun o z => .of (sb.extBut _ o (fun z => DOwn (z ▸ .inr ⟨_, e⟩)) z), kv hv⟩
          have hvs6 : VRs (g.wh H) h' (acc ++ [y']) (vs5.push y).toList := by
            rw [Array.toList_push]
            exact Zmj (VRs.mono tk6 hvs5) (VR.mono tk6 hy)
          refine again (s₅ := { s₅ with heap := h' }) ⟨IT.stab _ _ _ B5.st tk6 fun a o q e => sb.extBut a o (hne a q) e, ⟨_, n6, eD6, hvs6⟩, L6, R6, B5.ext.absorb x6 (fun a w => w ▸ hDs), B5.same.trans ⟨rfl, rfl, rfl⟩, B5.off, B5.offD⟩ (by simp; exact Z2j hal) hq
    · have hd : items.drop k = [] := List.drop_eq_nil_of_le hge
      rw [hd] at hl
      refine IT.last k A _ s' σ' _ hge (X.room.calm rfl) B.st B.rel hl.1 B.off fun s'' kb hs'' => ?_
      have hL := W.loc B.loc kb fpOwn
      obtain ⟨m, hn, _⟩ := hL.ns
      exact hRR D C s'' σ' acc hDs hCs hDC ⟨m, hn⟩ (OR.less (ao := .list acc) hH ⟨hft.le (by exact Z33 hk hal hge), vs, nn, kb D _ (fun q => hne D q rfl) eD, VRs.mono (W.tups kb) hvs⟩) (W.relLess B.rel kb hH fun a q => hhid a (hfp a q).1) (extK kb) (B.same.trans hs'') B.offD hL.off.1 hl.2
  exact codeAny_compStart_list (loop _ rfl) (IT.self 0 _ _ _ _ (IT.stab _ _ _ hst (fun a o _ _ _ e _ _ => .of (old a o e)) fun a o _ e => old a o e) (loop _ rfl))
end
noncomputable def Yu (tc : Loc → AH → (List V → AH → Prop) → (Addr → AH → Prop) → Prop) : TE := fun ℓ σ Q E => tc ℓ σ (fun xs σ₁ => ∀ a, σ₁ a = none → Q (.ref a) (σ₁.set a (.list xs))) E
theorem Zdp {C : Addr} {h h' : Heap} {σ : AH} (R : Rel g h σ) (hn : ∃ m, h.Ns C m) (sb : Heap.SameBut C h h') (hC : σ C = none) (hb : g.b0.get? C = none) (hh : ¬ g.hid C) : Rel g h' σ ∧ Yh g h h' := by
  obtain ⟨m, oC, es, ep, eC, dC, _⟩ := hn
  have tk : Yh g h h' := fun a o us n _ e _ d => by
    refine .of (sb.extBut a o (fun z => ?_) e)
    subst z; rw [eC] at e; cases e; rw [dC] at d; cases d
  refine ⟨⟨fun a ha => ?_, fun a o e => sb.extBut a o (fun z => ?_) (R.base a o e), fun a ao e => ⟨(R.own a ao e).1, Zbs tk (fun o e' => sb.extBut a o (fun z => ?_) e') (R.own a ao e).2⟩⟩, tk⟩
  · obtain ⟨o, e⟩ := R.hid a ha
    exact ⟨o, sb.extBut a o (fun z => hh (z ▸ ha)) e⟩
  · rw [z, hb] at e; cases e
  · rw [z, hC] at e; cases e
theorem Zmb {A : Around} {env : Env} {s s' : Shared} {σ : AH} {ℓ : Loc} {cl : List (Str × Addr)} {C : Addr} {E : Addr → AH → Prop} {e : Value} {EE : Value → Shared → Prop} {use : Option (Value → Sem Unit)} {Q : Value → Shared → Prop} {acc : Value} (X : Cx g sc r c A env s.heap σ ℓ) (hC : s.heap.get? C = none) (p : Zlg g A s σ E C e s') (k : ∀ e s', Xx g A s σ E e s' → EE e s') :
    notedBy (model g.prog g.w) A (compEnvC csc cl C env) (fun e s' => compPost (model g.prog g.w) A EE use Q acc C (.error e) s') e s' := by
  obtain ⟨D, σ', h1, h2, h3, h4, h5, m, hn, oC⟩ := p
  have b0 : g.b0.get? C = none := by
    cases q : g.b0.get? C with
    | none => rfl
    | some o => rw [X.rel.base C o q] at hC; cases hC
  have hh : ¬ g.hid C := fun w => by obtain ⟨o, e'⟩ := X.rel.hid C w; rw [hC] at e'; cases e'
  have F : Zkc g A (compEnvC csc cl C env) s'.heap σ' := X.fr.step h3 (fun _ _ _ _ n => n.elim)
  refine Zfu F h2 h3.pres h1 fun s₁ t x hs => ?_
  have hn₁ := t.ns hn
  refine ⟨m, hn₁, fun h' sb cenv _ => ?_⟩
  obtain ⟨R2, tk⟩ := Zdp (t.rel h2) ⟨m, hn₁⟩ sb oC b0 hh
  obtain ⟨oc, es, ep, ec, dc, _⟩ := hn₁
  have nf : ∀ a o vs, s₁.heap.get? a = some o → o.data = .fields vs → h'.get? a = some o := fun a o vs e d => sb.extBut a o (fun z => by subst z; rw [ec] at e; cases e; rw [d] at dc; cases dc) e
  have x' : XAt g true s.heap h' e D σ' := by
    obtain ⟨a, o, vs, ea, x0, xb, xs, xo, xc, xn, xd, xz, xt⟩ := x
    exact ⟨a, o, vs, ea, x0, xb, xs, nf a o _ xo xd, xc, xn, xd, xz, xt.imp id fun ⟨T, o, ts, et, ne, t0, tb, ts0, ho, hd, hs⟩ => ⟨T, o, ts, et, ne, t0, tb, ts0, nf T o _ ho hd, hd, hs⟩⟩
  have xa := t.ext h3
  have x2 : Ext No s.heap σ h' σ' := ⟨fun a o e n w => (xa.keep a o e n w).then fun o' e' => .of (sb.extBut a o' (fun z => by rw [z, hC] at e; cases e) e'), fun a o e => let ⟨o', e'⟩ := xa.pres a o e; ⟨o', sb.extBut a o' (fun z => by rw [z, hC] at e; cases e) e'⟩, xa.dom⟩
  exact Ztc (s := { s₁ with heap := h' }) x' fun s₂ t2 y hs2 => k _ _ ⟨D, σ', y.weak, t2.rel R2, t2.ext x2, (h4.trans hs).trans (Wv.trans ⟨rfl, rfl, rfl⟩ hs2), h5⟩
theorem Zjs (ok : Wi sc csc = true) : ∀ x ∈ csc.names, x.2 = .local → csc.names.lookup x.1 = some .local := fun x hx e => by
  simp only [Wi, Bool.and_eq_true] at ok
  exact Wc ok.1.1.2 (e ▸ hx)
inductive Zs2 (g : Gr) (BP : (Addr → Prop) → Prop) (s : Shared) (σ : AH) (Q : List V → (AH → Prop) → Bool → AH → Prop) (it : Value) (s' : Shared) : Prop
  | mk (H : Addr → Prop) (hb : BP H) (hH : ∀ a, g.hid a → H a) (hK : ∀ a o, s.heap.get? a = some o → H a → g.hid a) (items : List V) (inv : AH → Prop) (I : Addr) (fp : Addr → Prop) (St : Nat → Heap → Prop) (tup : Bool) (σ' : AH) (h0 : it = .ref I) (h1 : Zgs (g.wh H) items inv I fp St tup) (h2 : St 0 s'.heap) (h3 : Rel (g.wh H) s'.heap σ') (h4 : Ext No s.heap σ s'.heap σ') (h5 : Wv s s') (h6 : ∀ a, fp a → s.heap.get? a = none ∧ σ' a = none) (h7 : Y3 items.length) (h8 : Q items inv tup σ') : Zs2 g BP s σ Q it s'
structure Zt0 (g : Gr) (sc : Scope) (r : Nat) (c : Bool) (BP : (Addr → Prop) → Prop) (e : Expr) (t : TI) : Prop where
  run : ∀ A env s ℓ σ Q E, Cx g sc r c A env s.heap σ ℓ → t ℓ σ Q E →
  wpAny (model g.prog g.w) A (eval e env) (fun x s₁ => wpAny (model g.prog g.w) A (pyIter x) (Zs2 g BP s σ Q) (Xx g A s σ E) s₁) (Xx g A s σ E) s
theorem Zr7.toH {e : Expr} {t : TI} (h : Zr7 g sc r c e t) : Zt0 g sc r c (· = g.hid) e t := .mk fun A env s ℓ σ Q E X q =>
  wpAny_mono (h.run A env s ℓ σ Q E X q) (fun _ _ p => wpAny_mono p (fun _ _ p => let ⟨items, inv, I, fp, St, tup, σ₁, h0, h1, h2, h3, h4, h5, h6, h7, h8⟩ := p; ⟨g.hid, rfl, fun _ h => h, fun _ _ _ h => h, items, inv, I, fp, St, tup, σ₁, h0, h1, h2, h3, h4, h5, h6, h7, h8⟩) fun _ _ p => p) fun _ _ p => p
theorem Zg0 {BP : (Addr → Prop) → Prop} {elt target iter : Expr} {ifs : List Expr} {pos : Pos} {t : Tgt} {ti : TI} {tifs : TB} {telt : TE} (ok : Wi sc csc = true) (hi : Zt0 g sc r true BP iter ti) (ht : Zgq csc target t) (lk : Zna csc t = true) (h1 : ∀ H, BP H → Ztz (g.wh H) csc r true ifs tifs) (h2 : ∀ H, BP H → Y1 (g.wh H) csc r true elt telt)
    (hf : ∀ env x, foldedSetIterable iter env x = pure x) : Y1 g sc r true (.ListComp elt [⟨target, iter, ifs, 0⟩] csc pos) (Yu (Zau t ti tifs telt)) := .mk fun A env s ℓ σ Q E X h => by
  obtain ⟨cl, hclos, hcl, hcl'⟩ := Zed (Zhj X ok)
  have b0 : ∀ a, s.heap.get? a = none → g.b0.get? a = none := fun a e => by
    cases q : g.b0.get? a with
    | none => rfl
    | some o => rw [X.rel.base a o q] at e; cases e
  have hhid : ∀ a, s.heap.get? a = none → ¬ g.hid a := fun a e w => by
    obtain ⟨o, e'⟩ := X.rel.hid a w; rw [e] at e'; cases e'
  have hk : csc.kind = .function := by simp only [Wi, Bool.and_eq_true] at ok; exact eq_of_beq ok.1.1.1
  rw [eval_ListComp]
  refine wpAny_comprehension_free (use := none) rfl (hf env) hclos hk (Zjs ok) (wpAny_mono (hi.run A env s ℓ σ _ _ X h) (fun x s₁ p => wpAny_mono p (fun it s₂ p => ?_) fun _ _ p => p) fun _ _ p => p)
  obtain ⟨H, bp, hH, hK, items, inv, I, fp, St, tup, σ₁, rfl, IT, hst, hR, hx, hsm, hfp, hft, htt, hl⟩ := p
  refine Zjy hH hK (RR := fun acc C => compPost (model g.prog g.w) A (Xx g A s σ E) none (Wq g s σ Q) acc C) X ok IT hst hR hx hsm hfp hft htt ht lk (h1 H bp) (h2 H bp) hcl hcl' hl (fun D C s' σ' xs hD hC hDC hn ho hR' hx' hs' oD oC hq => ?_) fun D C e s' hC p => ?_
  · obtain ⟨m, hn⟩ := hn
    refine ⟨m, hn, fun h' sb => ?_⟩
    obtain ⟨R2, tk⟩ := Zdp hR' ⟨m, hn⟩ sb oC (b0 C hC) (hhid C hC)
    have ho' : OR g h' D (.list xs) := Zbs tk (fun o e => sb.extBut D o hDC e) ho
    refine ⟨.ref D, σ'.set D (.list xs), Z9.mpr rfl, R2.claim (b0 D hD) ho', ⟨fun a o e n w => (hx'.keep a o e n w).then fun o' e' => .of (sb.extBut a o' (fun z => ?_) e'), fun a o e => ?_, fun a q => ?_⟩, hs'.trans ⟨rfl, rfl, rfl⟩, hq D oD⟩
    · rw [z, hC] at e; cases e
    · obtain ⟨o', e'⟩ := hx'.pres a o e
      exact ⟨o', sb.extBut a o' (fun z => by rw [z, hC] at e; cases e) e'⟩
    · unfold AH.set at q
      by_cases z : a = D
      · rw [z]; exact .inr hD
      · rw [if_neg z] at q; exact hx'.dom a q
  · exact Zmb X hC p fun _ _ p => p
theorem Y5 {elt target iter : Expr} {ifs : List Expr} {pos : Pos} {t : Tgt} {ti : TI} {tifs : TB} {telt : TE} (ok : Wi sc csc = true) (hi : Zr7 g sc r true iter ti) (ht : Zgq csc target t) (lk : Zna csc t = true) (h1 : Ztz g csc r true ifs tifs) (h2 : Y1 g csc r true elt telt)
    (hf : ∀ env x, foldedSetIterable iter env x = pure x) : Y1 g sc r true (.ListComp elt [⟨target, iter, ifs, 0⟩] csc pos) (Yu (Zau t ti tifs telt)) :=
  Zg0 ok hi.toH ht lk (fun H e => by subst e; exact h1) (fun H e => by subst e; exact h2) hf
noncomputable def Wo (n : String) (tc : Loc → AH → (List V → AH → Prop) → (Addr → AH → Prop) → Prop) : TS := fun ℓ σ Q E => tc ℓ σ (fun xs σ₁ => ∀ a, σ₁ a = none → Q .next (ℓ.set n (.ref a)) (σ₁.set a (.list xs))) fun C σ' => E C ℓ σ'
end
section
open PySem PyProof.Rows
variable {g : Gr} {sc csc : Scope} {r : Nat} {c : Bool}
theorem Ze9 {BP : (Addr → Prop) → Prop} {n : String} {k : NameKind} {p' pos spos : Pos} {elt target iter : Expr} {ifs : List Expr} {t : Tgt} {ti : TI} {tifs : TB} {telt : TE} (hm : (Str.ofString n, k) ∈ sc.names) (hk : (k == .local || k == .cell) = true)
    (ok : Wi sc csc = true) (hi : Zt0 g sc r true BP iter ti) (ht : Zgq csc target t) (lk : Zna csc t = true) (h1 : ∀ H, BP H → Ztz (g.wh H) csc r true ifs tifs) (h2 : ∀ H, BP H → Y1 (g.wh H) csc r true elt telt)
    (hf : ∀ env x, foldedSetIterable iter env x = pure x) : Zlc g sc r true (.Assign [.Name (Str.ofString n) p'] (.ListComp elt [⟨target, iter, ifs, 0⟩] csc pos) spos) (Wo n (Zau t ti tifs telt)) := .mk fun A env s ℓ σ Q E X h => by
  have hsw : ∃ b, swapsWith (.ListComp elt [⟨target, iter, ifs, 0⟩] csc pos) (some (.Name (Str.ofString n) p')) spos.line env = pure b := ⟨_, rfl⟩
  obtain ⟨b, hsw⟩ := hsw
  cases b with
  | false =>
    refine wpAny_Assign_Name (wpAny_mono ((Zg0 (pos := pos) ok hi ht lk h1 h2 hf).run A env s ℓ σ (fun v σ' => Q .next (ℓ.set n v) σ') (fun C σ' => E C ℓ σ') X h) (fun v s₁ p => ?_) fun _ _ p => p.toS X) hsw
    refine Wr.elim p fun x σ₁ hv hR hx hs hq => ?_
    exact Zc5 (X.step hR hx) hm hk hv fun s' a _ _ w hL hR' hx' hs' => ⟨.next, _, σ₁, rfl, hL, hR', hx.own.trans (hx'.weaken fun b z => z ▸ w), hs.trans hs', hq⟩
  | true =>
    obtain ⟨cl, hclos, hcl, hcl'⟩ := Zed (Zhj X ok)
    have b0 : ∀ a, s.heap.get? a = none → g.b0.get? a = none := fun a e => by
      cases q : g.b0.get? a with
      | none => rfl
      | some o => rw [X.rel.base a o q] at e; cases e
    have hhid : ∀ a, s.heap.get? a = none → ¬ g.hid a := fun a e w => by
      obtain ⟨o, e'⟩ := X.rel.hid a w; rw [e] at e'; cases e'
    have hkd : csc.kind = .function := by simp only [Wi, Bool.and_eq_true] at ok; exact eq_of_beq ok.1.1.1
    rw [exec_Assign_Name_used _ _ _ _ hsw]
    refine wpAny_bind (wpAny_standAt (wpAny_bind ?_))
    show wpAny _ A (do let _ ← comprehension (.ListComp elt [⟨target, iter, ifs, 0⟩] csc pos) csc env _ (newList []) false (eval iter env) (some (assign (.Name (Str.ofString n) p') env))) _ _ s
    refine wpAny_bind (wpAny_mono (wpAny_comprehension_free (use := some (assign (.Name (Str.ofString n) p') env)) (Q := fun _ s' => Zcz g env s σ Q .next s') (E := Zar g A env s σ E) rfl (hf env) hclos hkd (Zjs ok)
      (wpAny_mono (hi.run A env s ℓ σ _ _ X h) (fun x s₁ p => wpAny_mono p (fun it s₂ p => ?_) fun _ _ p => p.toS X) fun _ _ p => p.toS X)) (fun _ s' hq => wpAny_pure (wpAny_pure hq)) fun _ _ e => e)
    obtain ⟨H, bp, hH, hK, items, inv, I, fp, St, tup, σ₁, rfl, IT, hst, hR, hx, hsm, hfp, hft, htt, hl⟩ := p
    refine Zjy hH hK (RR := fun acc C => compPost (model g.prog g.w) A (Zar g A env s σ E) (some (assign (.Name (Str.ofString n) p') env)) (fun _ s' => Zcz g env s σ Q .next s') acc C) X ok IT hst hR hx hsm hfp hft htt ht lk (h1 H bp) (h2 H bp) hcl hcl' hl (fun D C s' σ' xs hD hC hDC hn ho hR' hx' hs' oD oC hq => ?_) fun D C e s' hC p => ?_
    · obtain ⟨m, hn⟩ := hn
      have R1 : Rel g s'.heap (σ'.set D (.list xs)) := hR'.claim (b0 D hD) ho
      have x1 : Ext No s.heap σ s'.heap (σ'.set D (.list xs)) := ⟨hx'.keep, hx'.pres, fun a q => by
        unfold AH.set at q
        by_cases z : a = D
        · rw [z]; exact .inr hD
        · rw [if_neg z] at q; exact hx'.dom a q⟩
      have X1 : Cx g sc r true A env s'.heap (σ'.set D (.list xs)) ℓ := X.step R1 x1
      have oC1 : (σ'.set D (.list xs)) C = none := by unfold AH.set; rw [if_neg (Ne.symm hDC)]; exact oC
      show wpAny _ A (assign (.Name (Str.ofString n) p') env (.ref D)) _ _ _
      refine wpAny_assign_Name (Zc5 X1 hm hk (Z9.mpr rfl) fun s'' a _ _ w hL hR'' hx'' hs'' => ?_)
      have hCa : C ≠ a := fun z => by
        obtain ⟨o, e⟩ := Zdx X.loc w
        rw [← z, hC] at e; cases e
      have hn'' : s''.heap.Ns C m := Zds hn fun o e => hx''.keep C o e oC1 hCa
      refine ⟨m, hn'', fun h' sb => ?_⟩
      obtain ⟨R2, tk⟩ := Zdp hR'' ⟨m, hn''⟩ sb oC1 (b0 C hC) (hhid C hC)
      have hOC : ¬ Own env C := fun w => by obtain ⟨o, e⟩ := Zdx X.loc w; rw [hC] at e; cases e
      have kv : ∀ {v : V} {u : Value}, VR g s''.heap v u → VR g h' v u := VR.mono tk
      have L2 : LR g h' (σ'.set D (.list xs)) env (ℓ.set n (.ref D)) := by
        obtain ⟨m2, hn2, hm2⟩ := hL.ns
        refine ⟨⟨m2, Zds hn2 fun o e => .of (sb.extBut _ o (fun z => hOC (.inl z.symm)) e), fun y v a b => let ⟨u, e, f⟩ := hm2 y v a b; ⟨u, e, kv f⟩⟩, fun y c e => ?_, fun y v a kk => ?_, hL.off, hL.offc, hL.apart, hL.has⟩
        · obtain ⟨o, u, e1, e2⟩ := hL.cell y c e
          exact ⟨o, u, sb.extBut c o (fun z => hOC (z ▸ .inr ⟨y, e⟩)) e1, e2⟩
        · obtain ⟨c, u, e, hc, hv⟩ := hL.cells y v a kk
          exact ⟨c, u, e, Zcx hc fun o z => .of (sb.extBut _ o (fun z => hOC (z ▸ .inr ⟨_, e⟩)) z), kv hv⟩
      have xa : Ext (Own env) s.heap σ s''.heap (σ'.set D (.list xs)) := x1.own.trans (hx''.weaken fun b z => z ▸ w)
      refine ⟨.next, _, _, rfl, L2, R2, ⟨fun a o e n nw => (xa.keep a o e n nw).then fun o' e' => .of (sb.extBut a o' (fun z => ?_) e'), fun a o e => ?_, xa.dom⟩, (hs'.trans hs'').trans ⟨rfl, rfl, rfl⟩, hq D oD⟩
      · rw [z, hC] at e; cases e
      · obtain ⟨o', e'⟩ := xa.pres a o e
        exact ⟨o', sb.extBut a o' (fun z => by rw [z, hC] at e; cases e) e'⟩
    · exact Zmb X hC p fun _ _ p => p.toS X
theorem X9 {n : String} {k : NameKind} {p' pos spos : Pos} {elt target iter : Expr} {ifs : List Expr} {t : Tgt} {ti : TI} {tifs : TB} {telt : TE} (hm : (Str.ofString n, k) ∈ sc.names) (hk : (k == .local || k == .cell) = true)
    (ok : Wi sc csc = true) (hi : Zr7 g sc r true iter ti) (ht : Zgq csc target t) (lk : Zna csc t = true) (h1 : Ztz g csc r true ifs tifs) (h2 : Y1 g csc r true elt telt)
    (hf : ∀ env x, foldedSetIterable iter env x = pure x) : Zlc g sc r true (.Assign [.Name (Str.ofString n) p'] (.ListComp elt [⟨target, iter, ifs, 0⟩] csc pos) spos) (Wo n (Zau t ti tifs telt)) :=
  Ze9 hm hk ok hi.toH ht lk (fun H e => by subst e; exact h1) (fun H e => by subst e; exact h2) hf
end
section
open PySem PyProof.Rows
variable {g : Gr} {sc csc : Scope} {r : Nat} {c : Bool}
noncomputable abbrev TF := List V → AH → (V → AH → Prop) → (Addr → AH → Prop) → Prop
noncomputable def FrL (g : Gr) (A : Around) (h : Heap) (σ : AH) : Prop := ∃ l, A.frames = some l ∧ h.FunFrames g.b0 l ∧ ∀ e ∈ l, ∀ f, e.frame = some f → Zqc h σ f
theorem Zkc.frl {A : Around} {env : Env} {h : Heap} {σ : AH} (F : Zkc g A env h σ) : FrL g A h σ := let ⟨e0, outer, h1, h2, h3, h4, _, _, _, _⟩ := F; ⟨_, h1, h3, h4⟩
structure Zdb (g : Gr) (r : Nat) (f : Value) (t : TF) : Prop where
  run : ∀ A s σ xs vs Q E, GOk g → FrL g A s.heap σ → Zgl A r true → Rel g s.heap σ → VRs g s.heap xs vs → t xs σ Q E →
  wpAny (model g.prog g.w) A (call f vs []) (Wq g s σ Q) (Xx g A s σ E) s
structure Xz (g : Gr) (r : Nat) (f : Value) (t : TF) : Prop where
  run : ∀ A s σ xs vs Q E, GOk g → FrL g A s.heap σ → Zgl A r true → Rel g s.heap σ → VRs g s.heap xs vs → t xs σ Q E →
  codeAny (model g.prog g.w) A (.call f ⟨vs, []⟩) (fun r s' => match r with | .ok (.ret v) => Wq g s σ Q v s' | .ok _ => False | .error e => Xx g A s σ E e s') s
structure Zt1 (g : Gr) (r : Nat) (c : Bool) (f : Value) (t : TF) : Prop where
  run : ∀ A s σ xs vs Q E, GOk g → FrL g A s.heap σ → Zgl A r c → Rel g s.heap σ → VRs g s.heap xs vs → t xs σ Q E →
  wpAny (model g.prog g.w) A (call f vs []) (Wq g s σ Q) (Xx g A s σ E) s
structure Zwe (g : Gr) (r : Nat) (c : Bool) (f : Value) (t : TF) : Prop where
  run : ∀ A s σ xs vs Q E, GOk g → FrL g A s.heap σ → Zgl A r c → Rel g s.heap σ → VRs g s.heap xs vs → t xs σ Q E →
  codeAny (model g.prog g.w) A (.call f ⟨vs, []⟩) (fun r s' => match r with | .ok (.ret v) => Wq g s σ Q v s' | .ok _ => False | .error e => Xx g A s σ E e s') s
theorem Xz.toF {r : Nat} {f : Value} {t : TF} (h : Xz g r f t) : Zdb g r f t := .mk fun A s σ xs vs Q E G F R Re Vs T => wpAny_call (h.run A s σ xs vs Q E G F R Re Vs T)
theorem Xz.mono {r : Nat} {f : Value} {t t' : TF} (h : Xz g r f t) (k : ∀ xs σ Q E, t' xs σ Q E → t xs σ Q E) : Xz g r f t' := .mk fun A s σ xs vs Q E G F R Re Vs T => h.run A s σ xs vs Q E G F R Re Vs (k _ _ _ _ T)
theorem Zdb.le {r r' : Nat} {f : Value} {t : TF} (h : Zdb g r f t) (k : r ≤ r') : Zdb g r' f t := .mk fun A s σ xs vs Q E G F R => h.run A s σ xs vs Q E G F (R.le k)
noncomputable def Zwu (sc : Scope) (ps : List String) : Bool := sc.kind == .function && Zbz sc.names && !sc.isGenerator && !sc.isCoroutine &&
  (sc.names.all fun x => x.2 != .free && x.1 != ("__debug__" : Str) && x.1 != ("__classdict__" : Str)) &&
  (ps.all fun p => sc.names.any fun y => y.1 == Str.ofString p && (y.2 == .local || y.2 == .cell))
theorem W1 : ∀ (names : List (Str × NameKind)) (b : Nat) (acc : List (Str × Addr)) (x : Str), (x, NameKind.cell) ∈ names ∨ (acc.lookup x).isSome = true → ((cellsFrom b names acc).lookup x).isSome = true
  | [], b, acc, x, h => by
    rcases h with h | h
    · cases h
    · exact h
  | (n, k) :: rest, b, acc, x, h => by
    unfold cellsFrom
    split
    · refine W1 rest _ _ x ?_
      rcases h with h | h
      · cases h with
        | head => right; simp [List.lookup_cons]
        | tail _ h => exact .inl h
      · right
        rw [List.lookup_cons]
        split
        · rfl
        · exact h
    · rename_i hk
      refine W1 rest _ _ x ?_
      rcases h with h | h
      · cases h with
        | head => simp at hk
        | tail _ h => exact .inl h
      · exact .inr h
noncomputable def Loc.empty : Loc := fun _ => none
theorem Zmd {h : Heap} {kd : Str → Option NameKind} : ∀ {ps : List String} {xs : List V} {vs : List Value} {m cm : Str → Option Value} {ℓ : Loc}, (∀ n v, ℓ n = some v → kd (Str.ofString n) = some .local → ∃ u, m (Str.ofString n) = some u ∧ VR g h v u) →
    (∀ n v, ℓ n = some v → kd (Str.ofString n) = some .cell → ∃ u, cm (Str.ofString n) = some u ∧ VR g h v u) → VRs g h xs vs → xs.length = ps.length →
    (∀ n v, ℓ.setAll ps xs n = some v → kd (Str.ofString n) = some .local → ∃ u, bindL kd ((ps.map Str.ofString).zip vs) m (Str.ofString n) = some u ∧ VR g h v u) ∧
    (∀ n v, ℓ.setAll ps xs n = some v → kd (Str.ofString n) = some .cell → ∃ u, bindC kd ((ps.map Str.ofString).zip vs) cm (Str.ofString n) = some u ∧ VR g h v u)
  | [], xs, vs, m, cm, ℓ, h1, h2, hv, hl => by
    cases xs with
    | nil => exact ⟨h1, h2⟩
    | cons _ _ => simp at hl
  | p :: ps, [], vs, m, cm, ℓ, h1, h2, hv, hl => by simp at hl
  | p :: ps, x :: xs, vs, m, cm, ℓ, h1, h2, hv, hl => by
    obtain ⟨v, vs, rfl, hx, hxs⟩ := Zi hv
    show (∀ n w, (ℓ.set p x).setAll ps xs n = some w → _ → ∃ u, bindL kd ((ps.map Str.ofString).zip vs) (if kd (Str.ofString p) = some .local then fun y => if y = Str.ofString p then some v else m y else m) (Str.ofString n) = some u ∧ _) ∧
      (∀ n w, (ℓ.set p x).setAll ps xs n = some w → _ → ∃ u, bindC kd ((ps.map Str.ofString).zip vs) (if kd (Str.ofString p) = some .local then cm else fun y => if y = Str.ofString p then some v else cm y) (Str.ofString n) = some u ∧ _)
    refine Zmd (fun n w e k => ?_) (fun n w e k => ?_) hxs (by simpa using hl)
    · rw [Wh] at e
      by_cases z : n = p
      · subst z; rw [if_pos rfl] at e; cases e
        rw [if_pos k]; exact ⟨v, by simp, hx⟩
      · rw [if_neg z] at e
        obtain ⟨u, e1, e2⟩ := h1 n w e k
        refine ⟨u, ?_, e2⟩
        split
        · exact (if_neg fun q => z (Wt q)).trans e1
        · exact e1
    · rw [Wh] at e
      by_cases z : n = p
      · subst z; rw [if_pos rfl] at e; cases e
        rw [if_neg (by rw [k]; simp)]; exact ⟨v, by simp, hx⟩
      · rw [if_neg z] at e
        obtain ⟨u, e1, e2⟩ := h2 n w e k
        refine ⟨u, ?_, e2⟩
        split
        · exact e1
        · exact (if_neg fun q => z (Wt q)).trans e1
noncomputable def Zwp (ps : List String) (tb : TS) : TF := fun xs σ Q E => xs.length = ps.length ∧ tb (Loc.empty.setAll ps xs) σ (fun f _ σ' => match f with
  | .ret v => ∃ σ'', (∀ a o, σ'' a = some o → σ' a = some o) ∧ Q v σ''
  | _ => ∃ σ'', (∀ a o, σ'' a = some o → σ' a = some o) ∧ Q .none σ'') fun C _ σ' => ∃ σ'', (∀ a o, σ'' a = some o → σ' a = some o) ∧ E C σ''
theorem Zqw {c : Bool} {a : Addr} {o : Obj} {fd : FuncData} {body : List Stmt} {ps : List String} {tb : TS} (ho : g.b0.get? a = some o) (hd : o.data = .func fd) (hcd : g.b0.CodeRec fd.code fd.qualname) (hbody : fd.body = .stmts body)
    (hbind : ∀ vs : List Value, vs.length = ps.length → bindArgs fd ⟨vs, []⟩ = pure ((ps.map Str.ofString).zip vs)) (hclo : fd.closure = []) (hgl : fd.globals = mainGlobals) (hbl : fd.builtins = builtinsNs) (ok : Zwu fd.scope ps = true)
    (hb : Zdw g fd.scope r c body tb) : Zwe g (r + 1) c (.ref a) (Zwp ps tb) := .mk fun A s σ xs vs Q E G F Rm R hv h => by
  obtain ⟨hlen, h⟩ := h
  have hlv : vs.length = ps.length := (Zu hv) ▸ hlen
  simp only [Zwu, Bool.and_eq_true] at ok
  obtain ⟨⟨⟨⟨⟨ok1, ok2⟩, ok5⟩, ok6⟩, ok3⟩, ok4⟩ := ok
  have hk : fd.scope.kind = .function := eq_of_beq ok1
  have keepCode : s.heap.CodeRec fd.code fd.qualname := hcd.keeps R.base
  have kdOf : ∀ p ∈ ps, fd.scope.names.lookup (Str.ofString p) = some .local ∨ fd.scope.names.lookup (Str.ofString p) = some .cell := fun p hp => by
    have := List.all_eq_true.mp ok4 p hp
    simp only [List.any_eq_true, Bool.and_eq_true] at this
    obtain ⟨⟨y, j⟩, hy, e, hj⟩ := this
    have e' : y = Str.ofString p := eq_of_beq e
    subst e'
    rw [Wc ok2 hy]
    cases j <;> simp at hj <;> simp
  refine codeAny_call_cells (body := body) (Rm.room) (R.base a o ho) hd (G.nolimit.keeps R.base) keepCode hbody (hbind vs hlv) hclo (fun x hx => ?_) (fun s₁ IC => ?_) (by simpa using ok6) (by simpa using ok5) hk
  · have hx1 : x.1 ∈ ps.map Str.ofString := List.of_mem_zip (a := x.1) (b := x.2) hx |>.1
    obtain ⟨p, hp, e⟩ := List.mem_map.mp hx1
    rcases kdOf p hp with q | q
    · exact .inl (e ▸ q)
    · exact .inr ⟨e ▸ q, e ▸ W1 _ _ _ _ (.inl (mem_of_lookup q))⟩
  · generalize hE : callEnvC fd s.heap.objs.size a = env at IC ⊢
    have hsc : env.scope = fd.scope := by rw [← hE]; rfl
    have hloc : env.locals = s.heap.objs.size := by rw [← hE]; rfl
    have hcs : env.cells = cellsFrom (s.heap.objs.size + 1) fd.scope.names [] := by rw [← hE]; rfl
    have hfrm : env.frame = some s.heap.objs.size := by rw [← hE]; rfl
    have hglo : env.globals = mainGlobals := by rw [← hE]; exact hgl
    have hblt : env.builtins = builtinsNs := by rw [← hE]; exact hbl
    obtain ⟨h1, tk, rfl⟩ := IC.toInCall.same
    have kp := IC.toInCall.keep
    have kdE : ∀ x, env.kindOf x = fd.scope.names.lookup x := fun x => by show env.scope.names.lookup x = _; rw [hsc]
    have above : ∀ x cc, env.cells.lookup x = some cc → s.heap.objs.size < cc := fun x cc e => by rw [← hloc]; exact IC.above x cc (PySem.mem_of_lookup e)
    have freshC : ∀ x cc, env.cells.lookup x = some cc → s.heap.get? cc = none := fun x cc e => Heap.get?_none_of_le (Nat.le_of_lt (above x cc e))
    have freshL : s.heap.get? env.locals = none := by rw [hloc]; exact Z1 _
    have b0 : ∀ a, s.heap.get? a = none → g.b0.get? a = none := fun a e => by
      cases q : g.b0.get? a with
      | none => rfl
      | some o => rw [R.base a o q] at e; cases e
    have tk1 : Yh g s.heap h1 := fun a o _ _ _ e _ _ => .of (kp a o e)
    obtain ⟨br1, br2⟩ := Zmd (kd := env.kindOf) (ℓ := Loc.empty) (m := fun _ => none) (cm := fun _ => none) (ps := ps) (xs := xs) (vs := vs) (h := h1) (g := g) (fun n v e => nomatch e) (fun n v e => nomatch e) (VRs.mono tk1 hv) hlen
    have noFree : ∀ x, env.kindOf x ≠ some .free := fun x e => by
      rw [kdE] at e
      have := List.all_eq_true.mp ok3 _ (mem_of_lookup e)
      simp at this
    have L1 : LR g h1 σ env (Loc.empty.setAll ps xs) := by
      refine ⟨⟨_, IC.toInCall.ns, br1⟩, fun x cc e => ?_, fun n v e k => ?_, ⟨R.fresh freshL, b0 _ freshL⟩, fun x cc e => ⟨R.fresh (freshC x cc e), ?_, b0 _ (freshC x cc e)⟩, fun x y cc e1 e2 => ?_, fun x k => ?_⟩
      · obtain ⟨o, e1, e2⟩ := IC.cell x cc e; exact ⟨o, _, e1, e2⟩
      · rcases k with k | k
        · obtain ⟨u, e1, e2⟩ := br2 n v e k
          have : ((cellsFrom (s.heap.objs.size + 1) fd.scope.names []).lookup (Str.ofString n)).isSome = true := W1 _ _ _ _ (.inl (mem_of_lookup (by rw [← kdE]; exact k)))
          obtain ⟨cc, hcc⟩ := Option.isSome_iff_exists.mp this
          have hcc' : env.cells.lookup (Str.ofString n) = some cc := by rw [hcs]; exact hcc
          exact ⟨cc, u, hcc', e1 ▸ IC.cell _ cc hcc', e2⟩
        · exact absurd k (noFree _)
      · rw [hloc]; exact Nat.ne_of_gt (above x cc e)
      · exact name_of_addr IC.apart (PySem.mem_of_lookup e1) (PySem.mem_of_lookup e2)
      · rcases k with k | k
        · have : ((cellsFrom (s.heap.objs.size + 1) fd.scope.names []).lookup x).isSome = true := W1 _ _ _ _ (.inl (mem_of_lookup (by rw [← kdE]; exact k)))
          obtain ⟨cc, hcc⟩ := Option.isSome_iff_exists.mp this
          exact ⟨cc, by rw [hcs]; exact hcc⟩
        · exact absurd k (noFree _)
    have R1 : Rel g h1 σ := R.keeps kp
    have x1 : Ext No s.heap σ h1 σ := .keeps kp
    have F1 : Zkc g (A.deeper env) env h1 σ := by
      obtain ⟨l, hl, ff, off⟩ := F
      have hns : ∃ o, h1.get? env.locals = some o ∧ ∀ vs, o.data ≠ .fields vs := L1.noFields (.inl rfl)
      obtain ⟨k1, k2⟩ := W9 (W := No) (h' := h1) (σ' := σ) (fun a o es n e d q => ⟨q, o, es, n, kp a o e, d⟩) _ ff off
      refine ⟨env, l, by show A.frames.map (env :: ·) = _; rw [hl]; rfl, rfl, ⟨by rw [hsc, hk]; decide, ⟨s.heap.objs.size, ?_⟩, k1⟩, fun e he f hf => ?_, by rw [hsc]; simpa using ok5, by rw [hsc]; simpa using ok6, hblt, hglo⟩
      · obtain ⟨o, e, d⟩ := hns
        exact ⟨o, hfrm, b0 _ (Z1 _), hloc ▸ e, d⟩
      · cases he with
        | head =>
          rw [hfrm] at hf; cases hf
          obtain ⟨m, ⟨o, es, ep, e, d, _⟩, _⟩ := L1.ns
          exact ⟨R.fresh (Z1 _), o, es, ep, hloc ▸ e, d⟩
        | tail _ q => exact k2 e q f hf
    have X1 : Cx g fd.scope r c (A.deeper env) env h1 σ (Loc.empty.setAll ps xs) := by
      refine ⟨G, ⟨fun x k hm => .inl ?_, fun x k hm => ?_, by rw [hsc]; exact hk, hglo, hblt⟩, L1, F1, Rm.deeper env, R1⟩
      · rw [kdE]; exact Wc ok2 hm
      · have := List.all_eq_true.mp ok3 _ hm
        simp only [Bool.and_eq_true] at this
        exact ⟨by simpa using this.1.2, by simpa using this.2⟩
    have freshOwn : ∀ b, Own env b → s.heap.get? b = none := fun b w => by
      rcases w with rfl | ⟨x, e⟩
      · exact freshL
      · exact freshC x b e
    refine wpAny_mono (hb.run (A.deeper env) env { s with heap := h1, toks := tk } _ σ _ _ X1 h) (fun f s' p => ?_) fun e s' p => ?_
    · obtain ⟨f', ℓ', σ', hf', _, hR', hx', hs', hq⟩ := p
      have fin : ∀ {x : V} {u : Value}, VR g s'.heap x u → (∃ σ'', (∀ a o, σ'' a = some o → σ' a = some o) ∧ Q x σ'') → Wq g s σ Q u s' := fun {x u} hu q => by
        obtain ⟨σ'', hsub, hq⟩ := q
        exact ⟨x, σ'', hu, hR'.forget hsub, (x1.absorb hx' freshOwn).forget hsub, Wv.trans ⟨rfl, rfl, rfl⟩ hs', hq⟩
      cases f' with
      | ret v => obtain ⟨u, rfl, hu⟩ := hf'; exact fin hu hq
      | next => cases hf'; exact fin (Xu.mpr rfl) hq
      | brk => cases hf'; exact fin (Xu.mpr rfl) hq
      | cont => cases hf'; exact fin (Xu.mpr rfl) hq
    · obtain ⟨D, ℓ', σ', hX, hL', hR', hx', hs', σ'', hsub, hq⟩ := p
      refine wpAny_bind (Zfu (X1.fr.step hx' (L1.dicts hL')) hR' hx'.pres hX fun s₂ t2 x2 hs2 => Zbb x2 fun s₃ t3 x3 hs3 => ?_)
      refine ⟨D, σ'', (x3.weak.back fun b o e => ⟨o, kp b o e⟩).forget hsub, (t3.rel (t2.rel hR')).forget hsub, (x1.absorb (t3.ext (t2.ext hx')) freshOwn).forget hsub, Wv.trans ⟨rfl, rfl, rfl⟩ ((hs'.trans hs2).trans hs3), hq⟩
theorem Zom {c : Bool} {a : Addr} {o : Obj} {nm q : Str} {pa : Arguments} {body : List Stmt} {scp : Scope} {gl : Addr} {clo : List (Str × Addr)} {dv kd doc pm : Value} {an : Option Addr} {cd ct : Value} {bl : Addr} {ps : List String} {tb : TS} (ho : g.b0.get? a = some o)
    (hd : o.data = .func ⟨nm, q, pa, .stmts body, scp, gl, clo, dv, kd, doc, pm, an, cd, ct, bl⟩) (hcd : g.b0.CodeRec cd q) (hbody : FuncBody.stmts body = .stmts body)
    (hbind : ∀ vs : List Value, vs.length = ps.length → bindArgs ⟨nm, q, pa, .stmts body, scp, gl, clo, dv, kd, doc, pm, an, cd, ct, bl⟩ ⟨vs, []⟩ = pure ((ps.map Str.ofString).zip vs)) (hclo : clo = []) (hgl : gl = mainGlobals) (hbl : bl = builtinsNs) (ok : Zwu scp ps = true)
    (hb : Zdw g scp r c body tb) : Zwe g (r + 1) c (.ref a) (Zwp ps tb) := Zqw ho hd hcd hbody hbind hclo hgl hbl ok hb
theorem Z7 {a : Addr} {o : Obj} {nm q : Str} {pa : Arguments} {body : List Stmt} {scp : Scope} {gl : Addr} {clo : List (Str × Addr)} {dv kd doc pm : Value} {an : Option Addr} {cd ct : Value} {bl : Addr} {ps : List String} {tb : TS} (ho : g.b0.get? a = some o)
    (hd : o.data = .func ⟨nm, q, pa, .stmts body, scp, gl, clo, dv, kd, doc, pm, an, cd, ct, bl⟩) (hcd : g.b0.CodeRec cd q) (hbody : FuncBody.stmts body = .stmts body)
    (hbind : ∀ vs : List Value, vs.length = ps.length → bindArgs ⟨nm, q, pa, .stmts body, scp, gl, clo, dv, kd, doc, pm, an, cd, ct, bl⟩ ⟨vs, []⟩ = pure ((ps.map Str.ofString).zip vs)) (hclo : clo = []) (hgl : gl = mainGlobals) (hbl : bl = builtinsNs) (ok : Zwu scp ps = true)
    (hb : Zdw g scp r true body tb) : Xz g (r + 1) (.ref a) (Zwp ps tb) := ⟨(Zom ho hd hcd hbody hbind hclo hgl hbl ok hb).run⟩
end
section
open PySem PyProof.Rows
variable {g : Gr} {sc csc : Scope} {r : Nat} {c : Bool}
noncomputable def Glo (g : Gr) (n : String) (v : Value) : Prop := ∃ mg, g.b0.Ns mainGlobals mg ∧ mg (Str.ofString n) = some v
noncomputable def Bui (g : Gr) (n : String) (v : Value) : Prop := ∃ mg mb, g.b0.Ns mainGlobals mg ∧ mg (Str.ofString n) = none ∧ g.b0.Ns builtinsNs mb ∧ mb (Str.ofString n) = some v
noncomputable def Yr (g : Gr) (n : String) (v : Value) : Prop := Glo g n v ∨ Bui g n v
theorem Yc {A : Around} {env : Env} {s : Shared} {σ : AH} {ℓ : Loc} {n : String} {v : Value} {pos : Pos} {E : Value → Shared → Prop} {Q : Value → Shared → Prop} (X : Cx g sc r c A env s.heap σ ℓ) (hm : (Str.ofString n, NameKind.globalImplicit) ∈ sc.names) (hk : Yr g n v) (h : Q v s) :
    wpAny (model g.prog g.w) A (eval (.Name (Str.ofString n) pos) env) Q E s := by
  have kd : env.kindOf (Str.ofString n) = some .globalImplicit := by
    rcases X.ok.kinds _ _ hm with q | ⟨q, _⟩
    · exact q
    · cases q
  refine Calls.Name_function_global X.ok.kind kd ?_ (X.ok.plain _ _ hm).1
  rcases hk with ⟨mg, h1, h2⟩ | ⟨mg, mb, h1, h2, h3, h4⟩
  · exact Calls.loadGlobal_global (by rw [X.ok.globals]; exact h1.at' fun o e => X.rel.base _ o e) h2 h
  · exact Calls.loadGlobal_builtin (by rw [X.ok.globals]; exact h1.at' fun o e => X.rel.base _ o e) h2 (by rw [X.ok.builtins]; exact h3.at' fun o e => X.rel.base _ o e) h4 h
theorem Z6 {n : String} {pos : Pos} {v : Value} {x : V} (hm : (Str.ofString n, NameKind.globalImplicit) ∈ sc.names) (hk : Yr g n v) (hx : ∀ h, VR g h x v) : Y1 g sc r c (.Name (Str.ofString n) pos) (Zq x) := .mk fun A env s ℓ σ Q E X h =>
  Yc X hm hk (.here (hx _) X.rel h)
noncomputable def Zc0 (es : List Expr) : Prop := (es.all fun e => !Ze2 e) = true
theorem Zc0.any : ∀ {es : List Expr}, Zc0 es → ∀ env, (starEach es env).any (·.1) = false
  | [], _, env => rfl
  | e :: es, h, env => by
    simp only [Zc0, List.all_cons, Bool.and_eq_true] at h
    rw [Ym env (by simpa using h.1), List.any_cons, Zc0.any h.2 env]; rfl
theorem Zbc {M : Model} {A : Around} {E : Value → Shared → Prop} {s : Shared} {f : Value} {l : List (Bool × Sem Value)} {Q : Args → Shared → Prop} (hp : l.any (·.1) = false)
    (h : wpAny M A (spliced l) (fun vs s' => Q ⟨vs, []⟩ s') E s) : wpAny M A (evalArgs f true l []) Q E s := by
  match l, hp, h with
  | [], _, h =>
    unfold evalArgs
    show wpAny M A (spliced [] >>= _) Q E s
    refine wpAny_bind (wpAny_mono h (fun vs s' h' => ?_) fun _ _ x => x)
    refine wpAny_bind (wpAny_pure ?_)
    refine wpAny_holding ?_
    exact wpAny_bind (wpAny_pure (wpAny_bind (wpAny_pure (wpAny_pure h'))))
  | (false, x) :: rest, _, h => exact Calls.evalArgs_plain h
  | (true, x) :: rest, hp, _ => simp at hp
theorem Xc {es : List Expr} (hp : Zc0 es) (pos : Pos) (env : Env) : (backTo pos (starEach es env)).any (·.1) = false := by
  have := hp.any env
  unfold backTo
  rw [List.any_map]
  exact this
noncomputable def Zqh (g : Gr) (v : Value) : Prop := (∃ a o fd, v = .ref a ∧ g.b0.get? a = some o ∧ o.data = .func fd) ∨ (∃ id, v = .builtin id) ∨ ∃ T, v = .type T
theorem Xe {A : Around} {E : Value → Shared → Prop} {s : Shared} {pos : Pos} {f : Value} {first : List Value} {l : List (Bool × Sem Value)} {Q : Value → Shared → Prop} (hf : Zqh g f) (hp : l.any (·.1) = false)
    (h : wpAny (model g.prog g.w) A (spliced l) (fun vs s' => (∀ a o, g.b0.get? a = some o → s'.heap.get? a = some o) ∧ wpAny (model g.prog g.w) A (call f (first ++ vs) []) Q E s') E s) : wpAny (model g.prog g.w) A (callWith pos f first l []) Q E s := by
  rcases hf with ⟨a, o, fd, rfl, ho, hd⟩ | ⟨id, rfl⟩ | ⟨T, rfl⟩
  · exact Calls.callWith_function (o := o) (fd := fd) (Zbc hp (wpAny_mono h (fun vs s' h' => ⟨⟨h'.1 a o ho, hd⟩, h'.2⟩) fun _ _ x => x))
  · exact Calls.callWith_builtin hp (Zbc hp (wpAny_mono h (fun vs s' h' => h'.2) fun _ _ x => x))
  · exact PySem.callWith_type hp (Zbc hp (wpAny_mono h (fun vs s' h' => h'.2) fun _ _ x => x))
noncomputable def Yk (ts : TL) (t : TF) : TE := fun ℓ σ Q E => ts ℓ σ (fun vs σ₁ => t vs σ₁ Q E) E
noncomputable def FnG (g : Gr) (n : String) (r : Nat) (t : TF) : Prop := ∃ v, Yr g n v ∧ Zqh g v ∧ Zdb g r v t
theorem FnG.le {n : String} {r r' : Nat} {t : TF} (h : FnG g n r t) (k : r ≤ r') : FnG g n r' t := let ⟨v, h1, h2, h3⟩ := h; ⟨v, h1, h2, h3.le k⟩
theorem Zm {n : String} {p pos : Pos} {args : List Expr} {ts : TL} {t : TF} (hm : (Str.ofString n, NameKind.globalImplicit) ∈ sc.names) (hf : FnG g n r t) (hL : Zkb g sc r true args ts) (hp : Zc0 args) :
    Y1 g sc r true (.Call (.Name (Str.ofString n) p) args [] pos) (Yk ts t) := .mk fun A env s ℓ σ Q E X h => by
  obtain ⟨v, hk, hc, hF⟩ := hf
  show wpAny _ A (do callWith pos (← eval (.Name (Str.ofString n) p) env) [] (backTo pos (starEach args env)) (backToKw pos (keywordEach [] env))) _ _ s
  refine wpAny_bind (Yc X hm hk ?_)
  refine Xe hc (Xc hp pos env) (wpAny_mono (hL.run A env pos s ℓ σ _ E X h) (fun vs s₁ p => ?_) fun _ _ p => p)
  refine Wr.elim p fun xs σ₁ hv hR hx hs hq => ?_
  have X1 := X.step hR hx
  exact ⟨fun a o e => hR.base a o e, X7 hx hs (hF.run A s₁ σ₁ xs vs Q E X.gok X1.fr.frl X1.room hR hv hq)⟩
theorem Xl {s s' : Shared} {σ : AH} {Q : V → AH → Prop} {x : V} {v : Value} (R : Rel g s.heap σ) (e : s'.heap = s.heap) (sm : Wv s s') (hv : VR g s.heap x v) (h : Q x σ) : Wq g s σ Q v s' :=
  ⟨x, σ, e ▸ hv, e ▸ R, e ▸ .refl, sm, h⟩
noncomputable def Ziv (x : V) (σ : AH) : Option Nat := match x with
  | .tup xs => some xs.length
  | .frz xs => some xs.length
  | .ref a => match σ a with
    | some (.list xs) => some xs.length
    | some (.dictI kvs _) => some kvs.length
    | some (.dictS kvs _) => some kvs.length
    | _ => none
  | _ => none
noncomputable def Zhz : TF := fun xs σ Q _ => match xs with | [x] => (match Ziv x σ with | some n => Q (.int n) σ | none => False) | _ => False
theorem Xi : Zdb g r (.builtin "len") Zhz := .mk fun A s σ xs vs Q E G F Rm R hv h => by
  match xs, hv, h with
  | [x], hv, h =>
    obtain ⟨v, _, rfl, hx, hr⟩ := Zi hv
    rw [Zr hr]
    simp only [Zhz] at h
    split at h
    · rename_i n e
      have key : ∀ (m : Nat) (tk tk' : Nat), m = n → Wq g s σ Q (.int m tk) { s with toks := tk' } := fun m tk tk' q => by subst q; exact Xl R rfl ⟨rfl, rfl, rfl⟩ (Zx.mpr ⟨_, rfl⟩) h
      cases x with
      | tup ys =>
        obtain ⟨hf, a, o, us, m, rfl, _, ho, hc, hd, hvs⟩ := Xn.mp hx
        cases e
        have hl : ys.length = us.size := by rw [Zu hvs]; simp
        exact PyProof.Rows.len_tuple ⟨o, ho, hc, m, hd⟩ (hl ▸ hf.fit) (key _ _ _ hl.symm)
      | frz ys =>
        obtain ⟨hf, a, o, us, m, rfl, ho, hc, hd, hvs⟩ := Zcl.mp hx
        cases e
        have hl : ys.length = us.size := by rw [Zu hvs]; simp
        exact PySem.Calls.call_len_list ⟨o, R.base a o ho, hc, m, hd⟩ (hl ▸ hf.fit) (key _ _ _ hl.symm)
      | ref a =>
        rw [Z9.mp hx]
        simp only [Ziv] at e
        split at e
        · rename_i ys q
          cases e
          obtain ⟨hf, us, m, ho, hvs⟩ := (R.own a _ q).2
          have hl : ys.length = us.size := by rw [Zu hvs]; simp
          exact PySem.Calls.call_len_list ⟨_, ho, rfl, m, rfl⟩ (hl ▸ hf.fit) (key _ _ _ hl.symm)
        · rename_i kvs ep q
          cases e
          obtain ⟨hf, us, hd, hk, hvs⟩ := (R.own a _ q).2
          have hl : kvs.length = us.length := by have := congrArg List.length hk; simpa using this.symm
          exact call_len_dict (X8 G R q) hd.dictOf (hl ▸ hf.fit) (key _ _ _ hl.symm)
        · rename_i kvs ep q
          cases e
          obtain ⟨hf, us, hd, hk, hvs⟩ := (R.own a _ q).2
          have hl : kvs.length = us.length := by have := congrArg List.length hk; simpa using this.symm
          exact call_len_dict (X8 G R q) hd.dictOf (hl ▸ hf.fit) (key _ _ _ hl.symm)
        · cases e
      | _ => cases e
    · exact h.elim
  | [], _, h => exact h.elim
  | _ :: _ :: _, _, h => exact h.elim
end
section
open PySem PyProof.Rows
variable {g : Gr} {sc csc : Scope} {r : Nat} {c : Bool}
noncomputable def Zjq : List V → Option (List Int)
  | [] => some []
  | .int i :: xs => (Zjq xs).map (i :: ·)
  | _ => none
theorem Zf4 : ∀ {xs : List V} {ns : List Int}, Zjq xs = some ns → xs = ns.map V.int
  | [], ns, h => by cases h; rfl
  | x :: xs, ns, h => by
    cases x with
    | int i =>
      simp only [Zjq] at h
      cases e : Zjq xs with
      | none => rw [e] at h; cases h
      | some ms => rw [e] at h; cases h; rw [Zf4 e]; rfl
    | _ => cases h
theorem Zjp (ns : List Int) : Zjq (ns.map V.int) = some ns := by
  induction ns with
  | nil => rfl
  | cons n ns ih => simp [Zjq, ih]
theorem Zee {h : Heap} : ∀ {ns : List Int} {vs : List Value}, VRs g h (ns.map V.int) vs → ∀ (i : Nat) (v : Value), vs[i]? = some v → ∃ t, v = Value.int (ns.getD i 0) t
  | [], vs, a, i, v, e => by rw [Zr a] at e; cases e
  | n :: ns, vs, a, i, v, e => by
    obtain ⟨u, us, rfl, hu, hus⟩ := Zi a
    cases i with
    | zero => cases e; obtain ⟨t, rfl⟩ := Zx.mp hu; exact ⟨t, rfl⟩
    | succ i => exact Zee hus i v (by simpa using e)
theorem Zeu (bt : Nat → Nat → Bool) : ∀ k, argBest bt k ≤ k
  | 0 => Nat.le_refl _
  | k + 1 => by
    unfold argBest
    split
    · exact Nat.le_refl _
    · exact Nat.le_succ_of_le (Zeu bt k)
theorem Zhm (val : Nat → Int) : ∀ k i, i ≤ k → val i ≤ val (argBest (fun i j => decide (val i > val j)) k)
  | 0, i, h => by have : i = 0 := by exact Z32 h
                  subst this; exact Int.le_refl _
  | k + 1, i, h => by
    have ih := Zhm val k
    unfold argBest
    by_cases q : val (k + 1) > val (argBest (fun i j => decide (val i > val j)) k)
    · rw [if_pos (by simpa using q)]
      rcases Nat.lt_or_ge i (k + 1) with w | w
      · have := ih i (by exact Z2i w); exact Z31 q this
      · have : i = k + 1 := by exact Z2h h w
        subst this; exact Z30
    · rw [if_neg (by simpa using q)]
      rcases Nat.lt_or_ge i (k + 1) with w | w
      · exact ih i (by exact Z2i w)
      · have : i = k + 1 := by exact Z2h h w
        subst this; exact Z3z q
noncomputable def Zc9 (x : V) (σ : AH) : Option (List Int) := match x with
  | .ref a => match σ a with | some (.list xs) => Zjq xs | _ => none
  | _ => none
noncomputable def Zwy : TF := fun xs σ Q _ => match xs with
  | [x] => match Zc9 x σ with | some ns => ns ≠ [] ∧ ∀ m, m ∈ ns → (∀ n ∈ ns, n ≤ m) → Q (.int m) σ | none => False
  | _ => False
theorem Zfz {h : Heap} {σ : AH} {x : V} {v : Value} {ns : List Int} (R : Rel g h σ) (hv : VR g h x v) (e : Zc9 x σ = some ns) : ∃ a vs n, v = .ref a ∧ h.get? a = some { cls := .type "list", data := .seq vs n } ∧ VRs g h (ns.map V.int) vs.toList := by
  cases x with
  | ref a =>
    simp only [Zc9] at e
    split at e
    · rename_i xs q
      obtain ⟨_, vs, n, ho, hvs⟩ := (R.own a _ q).2
      rw [Zf4 e] at hvs
      exact ⟨a, vs, n, Z9.mp hv, ho, hvs⟩
    · cases e
  | _ => cases e
theorem Zr4 {ns : List Int} {k : Nat} (h : k < ns.length) : ns.getD k 0 ∈ ns := by
  rw [List.getD_eq_getElem?_getD, List.getElem?_eq_getElem h]; exact List.getElem_mem h
theorem Zre {ns : List Int} {n : Int} (h : n ∈ ns) : ∃ i, i < ns.length ∧ ns.getD i 0 = n := by
  obtain ⟨i, hi, e⟩ := List.getElem_of_mem h
  exact ⟨i, hi, by rw [List.getD_eq_getElem?_getD, List.getElem?_eq_getElem hi]; exact e⟩
theorem Zqu : Zdb g r (.builtin "max") Zwy := .mk fun A s σ xs vs Q E G F Rm R hv h => by
  match xs, hv, h with
  | [x], hv, h =>
    obtain ⟨v, _, rfl, hx, hr⟩ := Zi hv
    rw [Zr hr]
    simp only [Zwy] at h
    split at h
    · rename_i ns e
      obtain ⟨a, us, n, rfl, ho, hus⟩ := Zfz R hx e
      have hlen : ns.length = us.size := by have := Zu hus; simpa using this
      have hpos : 0 < ns.length := List.length_pos_iff.mpr h.1
      have hne : a ≠ s.heap.objs.size := Nat.ne_of_lt (Heap.lt_size ho)
      refine call_max_walk (wpAny_pyIter_list ⟨_, ho, rfl, n, rfl⟩ ?_)
      refine ⟨s.heap.objs.size, _, _, us.size, _, _, _, rfl, Walks.list (by show A.handled = none; exact Rm.calm rfl) _ a hne us, ⟨⟨_, Heap.get?_push_size _ rfl, rfl, rfl⟩, ⟨_, Heap.get?_push_of_some _ ho, rfl, n, rfl⟩⟩, ?_, by exact Z3y hlen hpos,
        CmpOf.ints_gt (fun i => ns.getD i 0) (fun i v q => Zee hus i v (by simpa using q)), fun v h' tk q kp => ?_⟩
      · intro b hb
        simp at hb
        rcases hb with rfl | rfl
        · rw [Heap.size_push]; exact Nat.lt_succ_self _
        · rw [Heap.size_push]; exact Nat.lt_succ_of_lt (Heap.lt_size ho)
      · obtain ⟨t, rfl⟩ := Zee hus (argBest (fun i j => decide (ns.getD i 0 > ns.getD j 0)) (us.size - 1)) v (by rw [Array.getElem?_toList]; exact q)
        have hb := Zeu (fun i j => decide (ns.getD i 0 > ns.getD j 0)) (us.size - 1)
        refine .keeps (fun b o e => kp b o (fun hm => ?_) (Heap.get?_push_of_some _ e)) ⟨rfl, rfl, rfl⟩ (Zx.mpr ⟨t, rfl⟩) R (h.2 _ (Zr4 (by exact Z3x hlen hpos hb)) fun m hm => ?_)
        · simp at hm; subst hm; rw [Z1] at e; cases e
        · obtain ⟨i, hi, rfl⟩ := Zre hm
          exact Zhm (fun i => ns.getD i 0) (us.size - 1) i (by exact Z3w hlen hpos hi)
    · exact h.elim
  | [], _, h => exact h.elim
  | _ :: _ :: _, _, h => exact h.elim
noncomputable def Zhy : TF := fun xs σ Q _ => match xs with
  | [x] => match Zci x σ with | some vs => ∀ a, σ a = none → Q (.ref a) (σ.set a (.list vs)) | none => False
  | _ => False
theorem Zq2 {h : Heap} {σ : AH} {x : V} {v : Value} {xs : List V} (R : Rel g h σ) (hv : VR g h x v) (e : Zci x σ = some xs) : Y3 xs.length ∧ ∃ a o T vs n, v = .ref a ∧ (T = "list" ∨ T = "tuple") ∧ h.get? a = some o ∧ o.cls = .type T ∧ o.data = .seq vs n ∧ VRs g h xs vs.toList := by
  cases x with
  | tup ys => obtain ⟨hf, a, o, us, m, rfl, _, ho, hc, hd, hvs⟩ := Xn.mp hv; cases e; exact ⟨hf, a, o, _, us, m, rfl, .inr rfl, ho, hc, hd, hvs⟩
  | frz ys => obtain ⟨hf, a, o, us, m, rfl, ho, hc, hd, hvs⟩ := Zcl.mp hv; cases e; exact ⟨hf, a, o, _, us, m, rfl, .inl rfl, R.base a o ho, hc, hd, hvs⟩
  | ref a =>
    simp only [Zci] at e
    split at e
    · rename_i ys q
      cases e
      obtain ⟨hf, us, n, ho, hvs⟩ := (R.own a _ q).2
      exact ⟨hf, a, _, _, us, n, Z9.mp hv, .inl rfl, ho, rfl, rfl, hvs⟩
    · cases e
  | _ => cases e
theorem Zi3 : Zdb g r (.type "list") Zhy := .mk fun A s σ xs vs Q E G F Rm R hv h => by
  match xs, hv, h with
  | [x], hv, h =>
    obtain ⟨v, _, rfl, hx, hr⟩ := Zi hv
    rw [Zr hr]
    simp only [Zhy] at h
    split at h
    · rename_i ys e
      obtain ⟨hf, a, o, T, us, n, rfl, hT, ho, hc, hd, hus⟩ := Zq2 R hx e
      have hlen : ys.length = us.size := by have := Zu hus; simpa using this
      refine call_list_seq a hT ho hc hd (fun h' c' kp hn => ?_) (by rw [← hlen]; exact hf.line)
      refine ⟨.ref _, _, Z9.mpr rfl, R.alloc (ao := .list ys) kp (Z1 _) ⟨hf, us, c', hn, VRs.mono (fun a o _ _ _ e _ _ => .of (kp a o e)) hus⟩, .alloc kp (Z1 _), ⟨rfl, rfl, rfl⟩, h _ (R.fresh (Z1 _))⟩
    · exact h.elim
  | [], _, h => exact h.elim
  | _ :: _ :: _, _, h => exact h.elim
inductive TyK where
  | int
  | bool
  | str
  | tuple
  | list
  | dict
noncomputable def TyK.name : TyK → String
  | .int => "int"
  | .bool => "bool"
  | .str => "str"
  | .tuple => "tuple"
  | .list => "list"
  | .dict => "dict"
noncomputable def Zuc (k : TyK) : Option Bool := match k with | .list => some true | .tuple => some false | .int => some false | .str => some false | _ => none
noncomputable def Zud (k : TyK) : Option Bool := match k with | .int => some false | .str => some false | _ => none
noncomputable def Zso (k : TyK) (v : V) (σ : AH) : Option Bool := match v with
  | .int _ => (match k with | .int => some true | .bool => some false | .str => some false | _ => none)
  | .tup _ => (match k with | .tuple => some true | .list => some false | .int => some false | .str => some false | _ => none)
  | .ref a => match σ a with
    | some (.list _) => Zuc k
    | some (.dictI _ _) => Zud k
    | _ => none
  | .str _ => (match k with | .str => some true | .int => some false | _ => none)
  | .none => (match k with | .int => some false | .str => some false | _ => none)
  | .bool _ => (match k with | .int => some true | .bool => some true | .str => some false | _ => none)
  | _ => none
noncomputable def Zt7 (k : TyK) (t : TE) : TE := fun ℓ σ Q E => t ℓ σ (fun v σ₁ => match Zso k v σ₁ with | some b => Q (.bool b) σ₁ | none => False) E
theorem Zvs {A : Around} {E : Value → Shared → Prop} {s : Shared} {σ : AH} {k : TyK} {x : V} {v : Value} {b : Bool} {Q : V → AH → Prop} (R : Rel g s.heap σ) (hx : VR g s.heap x v) (e : Zso k x σ = some b) (h : Q (.bool b) σ) :
    wpAny (model g.prog g.w) A (call (.builtin "isinstance") [v, .type k.name]) (Wq g s σ Q) E s := by
  have key : ∀ tk, Wq g s σ Q (.bool b) { s with toks := tk } := fun tk => Xl R rfl ⟨rfl, rfl, rfl⟩ (Y9.mpr rfl) h
  have key0 : Wq g s σ Q (.bool b) s := key s.toks
  cases x with
  | int i =>
    obtain ⟨t, rfl⟩ := Zx.mp hx
    cases k <;> cases e
    · exact IsiPair.int_int key0
    · exact IsiPair.int_bool (key _)
    · exact IsiPair.int_str (key _)
  | tup ys =>
    obtain ⟨_, a, o, us, m, rfl, _, ho, hc, hd, _⟩ := Xn.mp hx
    cases k <;> cases e
    · exact IsiPair.tuple_int ho hc (key _)
    · exact IsiPair.tuple_str ho hc (key _)
    · exact IsiPair.tuple_tuple ho hc key0
    · exact IsiPair.tuple_list ho hc (key _)
  | ref a =>
    rw [Z9.mp hx]
    simp only [Zso] at e
    split at e
    · rename_i ys q
      obtain ⟨_, us, n, ho, _⟩ := (R.own a _ q).2
      cases k <;> cases e
      · exact IsiPair.list_int ho rfl (key _)
      · exact IsiPair.list_str ho rfl (key _)
      · exact IsiPair.list_tuple ho rfl (key _)
      · exact IsiPair.list_list ho rfl key0
    · rename_i kvs ep q
      obtain ⟨_, us, ⟨o, es, ho, hc, _⟩, _⟩ := (R.own a _ q).2
      cases k <;> cases e
      · exact IsiPair.dict_int ho hc.1 (key _)
      · exact IsiPair.dict_str ho hc.1 (key _)
    · cases e
  | str y =>
    obtain ⟨_, t, rfl⟩ := Z8.mp hx
    cases k <;> cases e
    · exact IsiPair.str_int (key _)
    · exact IsiPair.str_str key0
  | none =>
    rw [Xu.mp hx]
    cases k <;> cases e
    · exact IsiPair.NoneType_int (key _)
    · exact IsiPair.NoneType_str (key _)
  | bool y =>
    rw [Y9.mp hx]
    cases k <;> cases e
    · exact IsiPair.bool_int key0
    · exact IsiPair.bool_bool key0
    · exact IsiPair.bool_str (key _)
  | _ => cases e
theorem Wz {k : TyK} {e : Expr} {p p' pos : Pos} {t : TE} (hm : (Str.ofString "isinstance", NameKind.globalImplicit) ∈ sc.names) (hb : Yr g "isinstance" (.builtin "isinstance")) (hm' : (Str.ofString k.name, NameKind.globalImplicit) ∈ sc.names) (hb' : Yr g k.name (.type k.name))
    (h1 : Y1 g sc r true e t) (hs : Ze2 e = false) :
    Y1 g sc r true (.Call (.Name (Str.ofString "isinstance") p) [e, .Name (Str.ofString k.name) p'] [] pos) (Zt7 k t) := .mk fun A env s ℓ σ Q E X h => by
  show wpAny _ A (do callWith pos (← eval (.Name (Str.ofString "isinstance") p) env) [] (backTo pos (starEach [e, .Name (Str.ofString k.name) p'] env)) (backToKw pos (keywordEach [] env))) _ _ s
  refine wpAny_bind (Yc X hm hb ?_)
  rw [Ym env hs, Ym (es := []) env rfl]
  refine Xe (.inr (.inl ⟨_, rfl⟩)) rfl ?_
  show wpAny _ A (spliced [(false, eval e env), (false, eval (.Name (Str.ofString k.name) p') env)]) _ _ s
  refine Calls.spliced_cons (wpAny_mono (h1.run A env s ℓ σ _ E X h) (fun v s₁ p => ?_) fun _ _ p => p)
  refine Wr.elim p fun x σ₁ hv hR hx hs1 hq => ?_
  refine Calls.spliced_cons (Yc (X.step hR hx) hm' hb' (Calls.spliced_nil ⟨fun a o e => hR.base a o e, ?_⟩))
  split at hq
  · rename_i b e
    exact X7 hx hs1 (Zvs hR hv e hq)
  · exact hq.elim
end
section
open PySem PyProof.Rows
variable {g : Gr} {sc csc : Scope} {r : Nat} {c : Bool}
theorem Zcr {s s₁ : Shared} {σ σ₁ : AH} {Q : List V → (AH → Prop) → Bool → AH → Prop} {items : List V} {inv : AH → Prop} {St : Nat → Heap → Prop} {tup : Bool} {o : Obj} (hR : Rel g s₁.heap σ₁) (hx : Ext No s.heap σ s₁.heap σ₁) (hs : Wv s s₁)
    (IT : Zgs g items inv s₁.heap.objs.size (· = s₁.heap.objs.size) St tup) (hst : St 0 (s₁.heap.push o)) (hf : Y3 items.length) (hq : Q items inv tup σ₁) : Zr8 g s σ Q (.ref s₁.heap.objs.size) { s₁ with heap := s₁.heap.push o } := by
  have kp := Yo s₁.heap o
  refine ⟨items, inv, _, _, St, tup, σ₁, rfl, IT, hst, hR.keeps kp, hx.trans (.keeps kp), hs.trans ⟨rfl, rfl, rfl⟩, fun a e => ?_, hf, hq⟩
  subst e
  refine ⟨?_, hR.fresh (Z1 _)⟩
  cases e : s.heap.get? s₁.heap.objs.size with
  | none => rfl
  | some o => obtain ⟨o', e'⟩ := hx.pres _ o e; rw [Z1] at e'; cases e'
noncomputable def W6 (x : V) (σ : AH) (Q : List V → (AH → Prop) → Bool → AH → Prop) : Prop := match x with
  | .tup xs => Q xs (fun _ => True) false σ
  | .ref a => match σ a with
    | some (.list xs) => Q xs (fun σ => σ a = some (.list xs)) false σ
    | _ => False
  | _ => False
noncomputable def Zag (t : TE) : TI := fun ℓ σ Q E => t ℓ σ (fun x σ₁ => W6 x σ₁ Q) E
theorem Z5 {e : Expr} {t : TE} (h1 : Y1 g sc r c e t) : Zr7 g sc r c e (Zag t) := .mk fun A env s ℓ σ Q E X h => by
  refine wpAny_mono (h1.run A env s ℓ σ _ E X h) (fun v s₁ p => ?_) fun _ _ p => p
  refine Wr.elim p fun x σ₁ hv hR hx hs hq => ?_
  cases x with
  | tup xs =>
    obtain ⟨hf, a, o, us, m, rfl, nh, ho, hc, hd, hvs⟩ := Xn.mp hv
    refine wpAny_pyIter_tuple ⟨o, ho, hc, m, hd⟩ (Zcr hR hx hs (Zku a _ xs) ⟨⟨_, Heap.get?_push_size _ rfl, rfl, rfl⟩, ?_⟩ hf hq)
    exact VR.mono (fun a o _ _ _ e _ _ => .of (Yo _ _ a o e)) hv
  | ref a =>
    rw [Z9.mp hv]
    simp only [W6] at hq
    split at hq
    · rename_i xs e
      obtain ⟨hf, us, n, ho, hvs⟩ := (hR.own a _ e).2
      exact wpAny_pyIter_list ⟨_, ho, rfl, n, rfl⟩ (Zcr hR hx hs (Znb a _ xs) ⟨_, Heap.get?_push_size _ rfl, rfl, rfl⟩ hf hq)
    · exact hq.elim
  | _ => exact hq.elim
noncomputable def Zdl (t : TE) : TI := fun ℓ σ Q E => t ℓ σ (fun x σ₁ => match x with | .int n => 0 ≤ n ∧ Y3 n.toNat ∧ Q (Xh 0 n.toNat) (fun _ => True) false σ₁ | _ => False) E
theorem Zm5 {A : Around} {s s₁ : Shared} {σ σ₁ : AH} {Q : List V → (AH → Prop) → Bool → AH → Prop} {E : Value → Shared → Prop} {lo hi : Int} {rr : Addr} {t u v : Tok} (hr : IsRange s₁.heap rr lo hi 1 t u v) (hlo : -(2 ^ 62) ≤ lo ∧ lo < 2 ^ 62) (hhi : -(2 ^ 62) ≤ hi ∧ hi < 2 ^ 62) (hR : Rel g s₁.heap σ₁) (hx : Ext No s.heap σ s₁.heap σ₁) (hs : Wv s s₁)
    (hf : Y3 (hi - lo).toNat) (hq : Q (Xh lo (hi - lo).toNat) (fun _ => True) false σ₁) : wpAny (model g.prog g.w) A (pyIter (.ref rr)) (Zr8 g s σ Q) E s₁ := by
  refine wpAny_pyIter_range hr (small_one hlo.1 hlo.2 hhi.1 hhi.2) (Zcr hR hx hs (Zkv _ lo (hi - lo).toNat) ?_ (by simpa [Xh] using hf) hq)
  have hsz : Builtin.Range.rangeSize lo hi 1 = (((hi - lo).toNat : Nat) : Int) := by rw [rangeSize_one]; split <;> omega
  have e1 : lo + ((0 : Nat) : Int) = lo := by simp
  have e2 : (((hi - lo).toNat : Nat) : Int) - ((0 : Nat) : Int) = Builtin.Range.rangeSize lo hi 1 := by rw [hsz]; simp
  show IsRangeIter _ _ (lo + ((0 : Nat) : Int)) ((((hi - lo).toNat : Nat) : Int) - ((0 : Nat) : Int)) 1
  rw [e1, e2]
  exact Heap.get?_push_size _ rfl
theorem W7 {e : Expr} {p pos : Pos} {t : TE} (hm : (Str.ofString "range", NameKind.globalImplicit) ∈ sc.names) (hb : Yr g "range" (.type "range")) (h1 : Y1 g sc r c e t) (hs : Ze2 e = false) :
    Zr7 g sc r c (.Call (.Name (Str.ofString "range") p) [e] [] pos) (Zdl t) := .mk fun A env s ℓ σ Q E X h => by
  show wpAny _ A (do callWith pos (← eval (.Name (Str.ofString "range") p) env) [] (backTo pos (starEach [e] env)) (backToKw pos (keywordEach [] env))) _ _ s
  refine wpAny_bind (Yc X hm hb ?_)
  rw [Ym (es := []) env hs]
  refine Xe (.inr (.inr ⟨_, rfl⟩)) rfl ?_
  show wpAny _ A (spliced [(false, eval e env)]) _ _ s
  refine Calls.spliced_cons (wpAny_mono (h1.run A env s ℓ σ _ E X h) (fun v s₁ p => ?_) fun _ _ p => p)
  refine Wr.elim p fun x σ₁ hv hR hx hs1 hq => ?_
  refine Calls.spliced_nil ⟨fun a o e => hR.base a o e, ?_⟩
  cases x with
  | int n =>
    obtain ⟨t, rfl⟩ := Zx.mp hv
    refine call_range_1 ?_
    have kp := Yo s₁.heap { cls := .type "range", data := .fields #[.int 0 s₁.toks, .int n t, .int 1 (s₁.toks + 1)] }
    have hn : n.toNat ≤ 1000000 := hq.2.1
    have hz : (n - 0).toNat = n.toNat := by simp
    exact Zm5 (lo := 0) (hi := n) (IsRange.new ..) (by decide) ⟨by have := hq.1; omega, by have := hq.1; exact Z3v hn hz⟩ (hR.keeps kp) (hx.trans (.keeps kp)) (hs1.trans ⟨rfl, rfl, rfl⟩) (hz ▸ hq.2.1) (hz ▸ hq.2.2)
  | _ => exact hq.elim
noncomputable def Zn2 (x : V) (σ : AH) : Option String := match x with
  | .ref a => match σ a with
    | some (.list _) => some "list"
    | some (.dictI _ _) => some "dict"
    | some (.dictS _ _) => some "dict"
    | some (.dictT _ _) => some "dict"
    | _ => none
  | .str _ => some "str"
  | _ => none
theorem Zhs {s : Shared} {σ : AH} {x : V} {v : Value} {T : String} (R : Rel g s.heap σ) (hv : VR g s.heap x v) (e : Zn2 x σ = some T) : s.TypeIs v T ∧ ∀ a, v = .ref a → ∃ ob, s.heap.get? a = some ob ∧ ob.dict = none := by
  cases x with
  | str y => obtain ⟨_, t, rfl⟩ := Z8.mp hv; cases e; exact ⟨typeIs_str s y t, fun a q => nomatch q⟩
  | ref a =>
    rw [Z9.mp hv]
    simp only [Zn2] at e
    split at e <;> first | cases e | skip
    · rename_i ys q
      obtain ⟨_, us, n, ho, _⟩ := (R.own a _ q).2
      exact ⟨⟨_, ho, rfl⟩, fun b q => by cases q; exact ⟨_, ho, rfl⟩⟩
    all_goals
      rename_i kvs ep q
      obtain ⟨_, us, ⟨o, es, ho, hc, _⟩, _⟩ := (R.own a _ q).2
      exact ⟨⟨_, ho, hc.1⟩, fun b q => by cases q; exact ⟨_, ho, hc.2.1⟩⟩
  | _ => cases e
noncomputable def Ziu (k : TyK) (x : V) (σ : AH) : Prop := match x with
  | .ref a => match σ a with
    | some (.list _) => (match k with | .list => True | _ => False)
    | some (.dictI _ _) => (match k with | .dict => True | _ => False)
    | some (.dictS _ _) => (match k with | .dict => True | _ => False)
    | some (.dictT _ _) => (match k with | .dict => True | _ => False)
    | _ => False
  | .str _ => (match k with | .str => True | _ => False)
  | _ => False
theorem Zix {k : TyK} {x : V} {σ : AH} (h : Ziu k x σ) : Zn2 x σ = some k.name := by
  unfold Ziu at h
  split at h
  · split at h <;> first | exact h.elim | (rename_i q; simp only [Zn2, q]; cases k <;> first | exact h.elim | rfl)
  · cases k <;> first | exact h.elim | rfl
  · exact h.elim
noncomputable def Xd (T : TyK) (t : TF) (to : TE) (ts : TL) : TE := fun ℓ σ Q E => to ℓ σ (fun o σ₁ => Ziu T o σ₁ ∧ ts ℓ σ₁ (fun vs σ₂ => t (o :: vs) σ₂ Q E) E) E
noncomputable def Zdj : Expr → Bool
  | .Call .. => true
  | _ => false
theorem Zda {o : Expr} {name : Str} {env : Env} (h : Zdj o = false) : attributeBase o name env (eval o env) = eval o env := by
  cases o <;> first | rfl | cases h
theorem Zf6 {args : List Expr} {pos : Pos} {env : Env} (hp : Zc0 args) (hf : decide (args.length < 30) = true) : ((backTo pos (starEach args env)).all (fun x => !x.1) && (backToKw pos (keywordEach [] env)).all (fun x => x.1.isSome) && decide (args.length + ([] : List Keyword).length + (if ([] : List Keyword).isEmpty then 0 else 1) < 30)) = true := by
  have h1 : (backTo pos (starEach args env)).all (fun x => !x.1) = true := by
    have := Xc hp pos env
    rw [List.all_eq_true]
    intro x hx
    have := List.any_eq_false.mp this x hx
    simpa using this
  have h2 : (backToKw pos (keywordEach [] env)).all (fun x => x.1.isSome) = true := rfl
  rw [h1, h2]
  simpa using hf
theorem Za3 {o : Expr} {name : Str} {apos pos : Pos} {args : List Expr} {T : TyK} {id : String} {t : TF} {to : TE} {ts : TL} (pa : PlainAttrs T.name) (slot : Slot T.name name id) (hty : typeOf (.builtin id) = pure (.type "method_descriptor")) (hF : Zdb g r (.builtin id) t)
    (ho : Y1 g sc r true o to) (hL : Zkb g sc r true args ts) (hp : Zc0 args) (hbase : Zdj o = false) (hfew : decide (args.length < 30) = true)
    (hline : (apos.endLine == pos.line) = true) : Y1 g sc r true (.Call (.Attribute o name apos) args [] pos) (Xd T t to ts) := .mk fun A env s ℓ σ Q E X h => by
  refine wpAny_Call_method (Zda hbase) (Zf6 hp hfew) hline pa slot hty (wpAny_mono (ho.run A env s ℓ σ _ E X h) (fun v s₁ p => ?_) fun _ _ p => p)
  obtain ⟨x, σ₁, hv, hR, hx, hs1, hT, hq⟩ := p
  have X1 := X.step hR hx
  refine ⟨(Zhs hR hv (Zix hT)).1, (Zhs hR hv (Zix hT)).2, ?_⟩
  refine Xe (.inr (.inl ⟨_, rfl⟩)) (Xc hp pos env) (wpAny_mono (hL.run A env pos s₁ ℓ σ₁ _ E X1 hq) (fun vs s₂ p => ?_) fun _ _ p => p.back hx hs1)
  refine Wr.elim p fun xs σ₂ hvs hR2 hx2 hs2 hq => ?_
  have X2 := X1.step hR2 hx2
  exact ⟨fun a o e => hR2.base a o e, X7 (hx.trans hx2) (hs1.trans hs2) (hF.run A s₂ σ₂ (x :: xs) (v :: vs) Q E X.gok X2.fr.frl X2.room hR2 (Yg (hx2.vr hR Yw hv) hvs) hq)⟩
noncomputable def Wy : TF := fun xs σ Q _ => match xs with
  | [.ref a, x] => match σ a with | some (.list ys) => Y3 (ys.length + 1) ∧ Q .none (σ.set a (.list (ys ++ [x]))) | _ => False
  | _ => False
theorem Zje {s : Shared} {σ : AH} {Q : V → AH → Prop} {a : Addr} {ys zs : List V} {us : Array Value} {n : Nat} {h' : Heap} {v : Value} {x : V} (R : Rel g s.heap σ) (e : σ a = some (.list ys)) (hf : Y3 zs.length) (ho' : h'.get? a = some { cls := .type "list", data := .seq us n })
    (sb : Heap.SameBut a s.heap h') (hvs : VRs g s.heap zs us.toList) (hv : VR g s.heap x v) (h : Q x (σ.set a (.list zs))) {tk : Nat} : Wq g s σ Q v { s with heap := h', toks := tk } := by
  obtain ⟨o₀, e₀, c₀⟩ := Zbg (R.own a _ e).2
  have tk : Yh g s.heap h' := fun b o us m _ q cc d => by
    refine .of (sb.extBut b o (fun z => ?_) q)
    subst z; rw [e₀] at q; cases q; exact c₀ _ _ cc d
  exact ⟨x, _, VR.mono tk hv, R.upd (ao' := .list zs) e sb ⟨hf, us, n, ho', VRs.mono tk hvs⟩, .upd e sb ⟨_, ho'⟩, ⟨rfl, rfl, rfl⟩, h⟩
theorem Zki : Zdb g r (.builtin "list.append") Wy := .mk fun A s σ xs vs Q E G F Rm R hv h => by
  unfold Wy at h
  split at h
  · rename_i a x
    obtain ⟨v, _, rfl, ha, hr⟩ := Zi hv
    obtain ⟨u, _, rfl, hx, hr⟩ := Zi hr; clear hr
    rw [Zr hr, Z9.mp ha]
    split at h
    · rename_i ys e
      obtain ⟨hf, us, n, ho, hvs⟩ := (R.own a _ e).2
      have hlen : ys.length = us.size := by have := Zu hvs; simpa using this
      refine wpAny_list_append_plain ⟨n, ho⟩ (fun h' hpl sb => ?_) (by rw [← hlen]; exact hf.line)
      obtain ⟨m, ho'⟩ := hpl
      exact Zje R e (by simpa using h.1) ho' sb (by rw [Array.toList_push]; exact Zmj hvs hx) (Xu.mpr rfl) h.2
    · exact h.elim
  · exact h.elim
noncomputable def Zln : TF := fun xs σ Q _ => match xs with
  | [x, .int k] => match Zc9 x σ with | some ns => Q (.int (ns.count k : Nat)) σ | none => False
  | _ => False
theorem Zb0 {h : Heap} : ∀ {ns : List Int} {vs : List Value}, VRs g h (ns.map V.int) vs → IntsAre vs ns
  | [], vs, a => by rw [Zr a]; exact .nil
  | n :: ns, vs, a => by
    obtain ⟨u, us, rfl, hu, hus⟩ := Zi a
    obtain ⟨t, rfl⟩ := Zx.mp hu
    exact .cons n t (Zb0 hus)
theorem Zmz : Zdb g r (.builtin "list.count") Zln := .mk fun A s σ xs vs Q E G F Rm R hv h => by
  unfold Zln at h
  split at h
  · rename_i x k
    obtain ⟨v, _, rfl, hx, hr⟩ := Zi hv
    obtain ⟨u, _, rfl, hk, hr2⟩ := Zi hr
    obtain ⟨t, rfl⟩ := Zx.mp hk
    rw [Zr hr2]
    split at h
    · rename_i ns e
      obtain ⟨a, us, n, rfl, ho, hus⟩ := Zfz R hx e
      exact count_list_ints ⟨_, ho, rfl, n, rfl⟩ (Zb0 hus) (Xl R rfl ⟨rfl, rfl, rfl⟩ (Zx.mpr ⟨_, rfl⟩) h)
    · exact h.elim
  · exact h.elim
end
section
open PySem PyProof.Rows
variable {g : Gr} {sc csc : Scope} {r : Nat} {c : Bool}
theorem Yj {x : Str} (h : x.length ≤ 1000000) : Y3 x.length := h
section
variable {o : Expr} {apos pos : Pos} {args : List Expr} {to : TE} {ts : TL}
theorem Za6 (ho : Y1 g sc r true o to) (hL : Zkb g sc r true args ts) (hp : Zc0 args) (hbase : Zdj o = false) (hfew : decide (args.length < 30) = true)
    (hline : (apos.endLine == pos.line) = true) : Y1 g sc r true (.Call (.Attribute o (Str.ofString "append") apos) args [] pos) (Xd .list Wy to ts) :=
  Za3 (T := .list) F.plainAttrs_list F.slot_list_append F.type_list_append Zki ho hL hp hbase hfew hline
theorem Zvp (ho : Y1 g sc r true o to) (hL : Zkb g sc r true args ts) (hp : Zc0 args) (hbase : Zdj o = false) (hfew : decide (args.length < 30) = true)
    (hline : (apos.endLine == pos.line) = true) : Y1 g sc r true (.Call (.Attribute o (Str.ofString "count") apos) args [] pos) (Xd .list Zln to ts) :=
  Za3 (T := .list) F.plainAttrs_list F.slot_list_count F.type_list_count Zmz ho hL hp hbase hfew hline
end
noncomputable def nth {α : Type} : List α → Nat → Option α
  | [], _ => none
  | a :: _, 0 => some a
  | _ :: l, i + 1 => nth l i
theorem at_ {α : Type} : ∀ {l : List α} {i : Nat} {x : α}, nth l i = some x → x ∈ l
  | _ :: _, 0, _, h => by cases h; exact .head _
  | _ :: _, _ + 1, _, h => .tail _ (at_ h)
theorem Zo8 {vs : List Value} (h : vs.length = 1) : ∃ a, vs = [a] := List.length_eq_one_iff.mp h
theorem Zsn {vs : List Value} (h : vs.length = 2) : ∃ a b, vs = [a, b] := by
  cases vs with
  | nil => cases h
  | cons a l => obtain ⟨b, rfl⟩ := Zo8 (Nat.succ.inj h); exact ⟨_, _, rfl⟩
theorem Zsm {vs : List Value} (h : vs.length = 3) : ∃ a b c, vs = [a, b, c] := by
  cases vs with
  | nil => cases h
  | cons a l => obtain ⟨b, c, rfl⟩ := Zsn (Nat.succ.inj h); exact ⟨_, _, _, rfl⟩
theorem Ztj {vs : List Value} (h : vs.length = 4) : ∃ a b c d, vs = [a, b, c, d] := by
  cases vs with
  | nil => cases h
  | cons a l => obtain ⟨b, c, d, rfl⟩ := Zsm (Nat.succ.inj h); exact ⟨_, _, _, _, rfl⟩
theorem Z2r {vs : List Value} (h : vs.length = 5) : ∃ a b c d e, vs = [a, b, c, d, e] := by
  cases vs with
  | nil => cases h
  | cons a l => obtain ⟨b, c, d, e, rfl⟩ := Ztj (Nat.succ.inj h); exact ⟨_, _, _, _, _, rfl⟩
theorem Zak {mg : Str → Option Value} {o : Obj} {es : Array DictEntry} {ep : Nat} {n : String} {v : Value} (hN : g.b0.Ns mainGlobals mg) (h3 : g.b0.get? mainGlobals = some o) (hd : o.data = .dict es ep) (e : nsFind es (Str.ofString n) = some v) : Yr g n v := by
  obtain ⟨o', es', ep', ho, hd', hk, hf⟩ := id hN
  rw [h3] at ho; cases ho
  rw [hd] at hd'; cases hd'
  exact .inl ⟨mg, hN, (hf _).symm.trans e⟩
theorem Zbp {mg mb : Str → Option Value} {o : Obj} {es : Array DictEntry} {ep : Nat} {n : String} {v : Value} (hN : g.b0.Ns mainGlobals mg) (h3 : g.b0.get? mainGlobals = some o) (hd : o.data = .dict es ep) (e : nsFind es (Str.ofString n) = none)
    (hB : g.b0.Ns builtinsNs mb) (hb : ∀ x : Str, x ≠ "__name__" → mb x = bootBuiltins x) (hn : Str.ofString n ≠ "__name__") (hv : bootBuiltins (Str.ofString n) = some v) : Yr g n v := by
  obtain ⟨o', es', ep', ho, hd', hk, hf⟩ := id hN
  rw [h3] at ho; cases ho
  rw [hd] at hd'; cases hd'
  exact .inr ⟨mg, mb, hN, (hf _).symm.trans e, hB, (hb _ hn).trans hv⟩
theorem Z2 {n id : String} {t : TF} (h : Yr g n (.builtin id)) (hF : Zdb g r (.builtin id) t) : FnG g n r t := ⟨_, h, .inr (.inl ⟨_, rfl⟩), hF⟩
theorem Zan {n id : String} {t : TF} (h : Yr g n (.type id)) (hF : Zdb g r (.type id) t) : FnG g n r t := ⟨_, h, .inr (.inr ⟨_, rfl⟩), hF⟩
theorem Zaq {n : String} {a : Addr} {o : Obj} {fd : FuncData} {t : TF} (h : Yr g n (.ref a)) (ho : g.b0.get? a = some o) (hd : o.data = .func fd) (hF : Zdb g r (.ref a) t) : FnG g n r t := ⟨_, h, .inl ⟨a, o, fd, rfl, ho, hd⟩, hF⟩
theorem Zt {h : Heap} {c : Addr} {oc : Obj} {vs : Array Value} {tq : Tok} {q : Str} (hoc : h.get? c = some oc) (hd : oc.data = .fields vs) (hq : vs[1]? = some (.str q tq)) : h.CodeRec (.ref c) q := ⟨c, oc, vs, tq, rfl, hoc, hd, hq⟩
end
section
open PySem PyProof.Rows
theorem Zd {σ : AH} {a : Addr} {o : AO} : (σ.set a o) a = some o := if_pos rfl
theorem Ze {σ : AH} {a b : Addr} {o : AO} (h : b ≠ a) : (σ.set a o) b = σ b := if_neg h
noncomputable def Sub (σ σ' : AH) : Prop := ∀ a o, σ a = some o → σ' a = some o
theorem Sub.refl {σ : AH} : Sub σ σ := fun _ _ h => h
theorem Sub.trans {σ σ' σ'' : AH} (x : Sub σ σ') (y : Sub σ' σ'') : Sub σ σ'' := fun a o h => y a o (x a o h)
theorem Sub.new {σ σ' : AH} {a : Addr} {o : AO} (x : Sub σ σ') (h : σ' a = none) : Sub σ (σ'.set a o) := fun b p e => by
  have e' := x b p e
  rw [Ze fun z => by rw [z, h] at e'; cases e']
  exact e'
theorem Sub.upd {σ σ' : AH} {a : Addr} {o : AO} (x : Sub σ σ') (h : σ a = none) : Sub σ (σ'.set a o) := fun b p e => by
  rw [Ze fun z => by rw [z, h] at e; cases e]
  exact x b p e
theorem Sub.none {σ σ' : AH} {a : Addr} (x : Sub σ σ') (h : σ' a = Option.none) : σ a = Option.none := by
  cases e : σ a with
  | none => rfl
  | some o => rw [x a o e] at h; cases h
theorem Z1x {σ : AH} {a b : Addr} {o : AO} (h : σ a = some o) (k : σ b = none) : a ≠ b := fun z => by rw [z, k] at h; cases h
theorem Zk {σ : AH} {a b : Addr} {o p : AO} (h : σ a = some o) (k : σ b = none) : (σ.set b p) a = some o := by rw [Ze (Z1x h k)]; exact h
theorem Zjc {t : Tgt} {inv : AH → Prop} {tb : TS} {Q : Fl → Loc → AH → Prop} {E : Addr → Loc → AH → Prop} (I : List V → Loc → AH → Prop) (h0 : ∀ ℓ σ, I [] ℓ σ → inv σ ∧ Q .next ℓ σ)
    (h1 : ∀ x xs ℓ σ, (∀ ℓ' σ', I xs ℓ' σ' → Zce t inv tb xs ℓ' σ' Q E) → I (x :: xs) ℓ σ → inv σ ∧ Xs t x ℓ σ fun ℓ₁ => tb ℓ₁ σ (fun f ℓ₂ σ₂ => match f with
      | .next => Zce t inv tb xs ℓ₂ σ₂ Q E
      | .cont => Zce t inv tb xs ℓ₂ σ₂ Q E
      | .brk => Q .next ℓ₂ σ₂
      | .ret v => Q (.ret v) ℓ₂ σ₂) E) : ∀ xs ℓ σ, I xs ℓ σ → Zce t inv tb xs ℓ σ Q E
  | [], ℓ, σ, h => h0 ℓ σ h
  | x :: xs, ℓ, σ, h => h1 x xs ℓ σ (fun ℓ' σ' h' => Zjc I h0 h1 xs ℓ' σ' h') h
theorem Zjz {α : Type} {t : Tgt} {inv : AH → Prop} {tifs : TB} {telt : TE} {ℓ : Loc} {σ : AH} {Q : List V → AH → Prop} {E : Addr → AH → Prop} (f : α → V) (p : α → Bool) (F : α → V) (hinv : inv σ) :
    ∀ (xs : List α) (acc : List V), (∀ x ∈ xs, ∃ ℓ₁, (∀ P : Loc → Prop, P ℓ₁ → Xs t (f x) ℓ.bare σ P) ∧ (∀ Qb, Qb (p x) σ → tifs ℓ₁ σ Qb E) ∧ (p x = true → ∀ Qv, Qv (F x) σ → telt ℓ₁ σ Qv E)) →
      Q (acc ++ (xs.filter p).map F) σ → Zet t inv tifs telt ℓ (xs.map f) acc σ Q E
  | [], acc, _, h => ⟨hinv, by simpa using h⟩
  | x :: xs, acc, hs, h => by
    obtain ⟨ℓ₁, h1, h2, h3⟩ := hs x (.head _)
    have ih := Zjz (t := t) (inv := inv) (tifs := tifs) (telt := telt) (ℓ := ℓ) (E := E) (Q := Q) f p F hinv xs
    refine ⟨hinv, h1 _ (h2 _ ?_)⟩
    cases e : p x with
    | true =>
      refine h3 e _ (ih _ (fun y hy => hs y (.tail _ hy)) ?_)
      rw [List.filter_cons_of_pos (by simpa using e)] at h
      simpa using h
    | false =>
      refine ih _ (fun y hy => hs y (.tail _ hy)) ?_
      rw [List.filter_cons_of_neg (by simp [e])] at h
      exact h
theorem Zkm {lo : Int} {n i : Nat} (h : i < n) : (Xh lo n).drop i = .int (lo + (i : Int)) :: (Xh lo n).drop (i + 1) := by
  have hl : i < (Xh lo n).length := by simpa [Xh] using h
  rw [List.drop_eq_getElem_cons hl]
  simp [Xh]
theorem Zm6 {lo : Int} {n : Nat} : (Xh lo n).drop n = [] := List.drop_eq_nil_of_le (by simp [Xh])
theorem Zko {t : Tgt} {inv : AH → Prop} {tb : TS} {Q : Fl → Loc → AH → Prop} {E : Addr → Loc → AH → Prop} {n : Nat} (I : Nat → Loc → AH → Prop) (h0 : ∀ ℓ σ, I n ℓ σ → inv σ ∧ Q .next ℓ σ)
    (h1 : ∀ i ℓ σ, i < n → (∀ ℓ' σ', I (i + 1) ℓ' σ' → Zce t inv tb ((Xh 0 n).drop (i + 1)) ℓ' σ' Q E) → I i ℓ σ → inv σ ∧ Xs t (.int (i : Int)) ℓ σ fun ℓ₁ => tb ℓ₁ σ (fun f ℓ₂ σ₂ => match f with
      | .next => Zce t inv tb ((Xh 0 n).drop (i + 1)) ℓ₂ σ₂ Q E
      | .cont => Zce t inv tb ((Xh 0 n).drop (i + 1)) ℓ₂ σ₂ Q E
      | .brk => Q .next ℓ₂ σ₂
      | .ret v => Q (.ret v) ℓ₂ σ₂) E) {ℓ : Loc} {σ : AH} (h : I 0 ℓ σ) : Zce t inv tb (Xh 0 n) ℓ σ Q E := by
  have key : ∀ k i ℓ σ, n - i = k → i ≤ n → I i ℓ σ → Zce t inv tb ((Xh 0 n).drop i) ℓ σ Q E := by
    intro k
    induction k with
    | zero =>
      intro i ℓ σ hk hi h
      have : i = n := by exact Z2g hk hi
      subst this
      rw [Zm6]
      exact h0 ℓ σ h
    | succ k ih =>
      intro i ℓ σ hk hi h
      have hlt : i < n := by exact Z2f hk hi
      rw [Zkm hlt]
      have := h1 i ℓ σ hlt (fun ℓ' σ' h' => ih (i + 1) ℓ' σ' (by exact Z2e hk hlt) hlt h') h
      rw [show (0 : Int) + (i : Int) = (i : Int) by exact Z3u]
      exact this
  simpa using key n 0 ℓ σ (by exact Z3t) (by exact Z2d) h
theorem Zhf {α : Type} (xs : List α) : xs.filter (fun _ => true) = xs := by
  induction xs with
  | nil => rfl
  | cons x xs ih => rw [List.filter_cons_of_pos rfl, ih]
theorem Wu {α : Type} {t : Tgt} {inv : AH → Prop} {telt : TE} {ℓ : Loc} {σ : AH} {Q : List V → AH → Prop} {E : Addr → AH → Prop} (f : α → V) (F : α → V) (hinv : inv σ) (xs : List α)
    (hs : ∀ x ∈ xs, ∃ ℓ₁, (∀ P : Loc → Prop, P ℓ₁ → Xs t (f x) ℓ.bare σ P) ∧ ∀ Qv, Qv (F x) σ → telt ℓ₁ σ Qv E) (h : Q (xs.map F) σ) : Zet t inv (Xo true) telt ℓ (xs.map f) [] σ Q E :=
  Zjz f (fun _ => true) F hinv xs [] (fun x hx => let ⟨ℓ₁, h1, h2⟩ := hs x hx; ⟨ℓ₁, h1, fun _ h => h, fun _ => h2⟩) (by rw [Zhf]; exact h)
theorem Yy {ps : List String} {tb : TS} {xs : List V} {σ : AH} {Q : V → AH → Prop} {E : Addr → AH → Prop} (hl : xs.length = ps.length)
    (h : ∀ (K : Fl → Loc → AH → Prop) (KE : Addr → Loc → AH → Prop), (∀ v ℓ' σ' σ'', Sub σ'' σ' → Q v σ'' → K (.ret v) ℓ' σ') → (∀ ℓ' σ' σ'', Sub σ'' σ' → Q .none σ'' → K .next ℓ' σ') → (∀ C ℓ' σ' σ'', Sub σ'' σ' → E C σ'' → KE C ℓ' σ') →
      tb (Loc.empty.setAll ps xs) σ K KE) : Zwp ps tb xs σ Q E :=
  ⟨hl, h _ _ (fun _ _ _ σ'' hs hq => ⟨σ'', hs, hq⟩) (fun _ _ σ'' hs hq => ⟨σ'', hs, hq⟩) fun _ _ _ σ'' hs hq => ⟨σ'', hs, hq⟩⟩
theorem Zrf {t : Tgt} {inv : AH → Prop} {tb : TS} {Q : Fl → Loc → AH → Prop} {E : Addr → Loc → AH → Prop} (I : List V → Loc → AH → Prop) (h0 : ∀ ℓ σ, I [] ℓ σ → inv σ ∧ Q .next ℓ σ)
    (h1 : ∀ x xs ℓ σ (K : Fl → Loc → AH → Prop), (∀ ℓ' σ', I xs ℓ' σ' → K .next ℓ' σ') → (∀ v ℓ' σ', Q (.ret v) ℓ' σ' → K (.ret v) ℓ' σ') → (∀ ℓ' σ', Q .next ℓ' σ' → K .brk ℓ' σ') → (∀ ℓ' σ', I xs ℓ' σ' → K .cont ℓ' σ') →
      I (x :: xs) ℓ σ → inv σ ∧ Xs t x ℓ σ fun ℓ₁ => tb ℓ₁ σ K E) {xs : List V} {ℓ : Loc} {σ : AH} (h : I xs ℓ σ) : Zce t inv tb xs ℓ σ Q E :=
  Zjc I h0 (fun x xs ℓ σ ih hI => h1 x xs ℓ σ _ (fun ℓ' σ' h => ih ℓ' σ' h) (fun _ _ _ h => h) (fun _ _ h => h) (fun ℓ' σ' h => ih ℓ' σ' h) hI) xs ℓ σ h
theorem Zig {t : Tgt} {inv : AH → Prop} {tb : TS} {Q : Fl → Loc → AH → Prop} {E : Addr → Loc → AH → Prop} {n : Nat} (I : Nat → Loc → AH → Prop) (h0 : ∀ ℓ σ, I n ℓ σ → inv σ ∧ Q .next ℓ σ)
    (h1 : ∀ i ℓ σ (K : Fl → Loc → AH → Prop), i < n → (∀ ℓ' σ', I (i + 1) ℓ' σ' → K .next ℓ' σ') → (∀ v ℓ' σ', Q (.ret v) ℓ' σ' → K (.ret v) ℓ' σ') → (∀ ℓ' σ', Q .next ℓ' σ' → K .brk ℓ' σ') → (∀ ℓ' σ', I (i + 1) ℓ' σ' → K .cont ℓ' σ') →
      I i ℓ σ → inv σ ∧ Xs t (.int (i : Int)) ℓ σ fun ℓ₁ => tb ℓ₁ σ K E) {ℓ : Loc} {σ : AH} (h : I 0 ℓ σ) : Zce t inv tb (Xh 0 n) ℓ σ Q E :=
  Zko I h0 (fun i ℓ σ hi ih hI => h1 i ℓ σ _ hi (fun ℓ' σ' h => ih ℓ' σ' h) (fun _ _ _ h => h) (fun _ _ h => h) (fun ℓ' σ' h => ih ℓ' σ' h) hI) h
theorem Zbr {t : Tgt} {inv : AH → Prop} {tb : TS} {Q : Fl → Loc → AH → Prop} {E : Addr → Loc → AH → Prop} (I : List V → Loc → AH → Prop) (h0 : ∀ ℓ σ, I [] ℓ σ → inv σ ∧ Q .next ℓ σ)
    (h1 : ∀ x xs ℓ σ (K : Fl → Loc → AH → Prop), (∀ ℓ' σ', I xs ℓ' σ' → K .next ℓ' σ') → (∀ v ℓ' σ', Q (.ret v) ℓ' σ' → K (.ret v) ℓ' σ') → I (x :: xs) ℓ σ → inv σ ∧ Xs t x ℓ σ fun ℓ₁ => tb ℓ₁ σ K E) {xs : List V} {ℓ : Loc} {σ : AH} (h : I xs ℓ σ) : Zce t inv tb xs ℓ σ Q E :=
  Zrf I h0 (fun x xs ℓ σ K a b _ _ => h1 x xs ℓ σ K a b) h
theorem Zcu {t : Tgt} {inv : AH → Prop} {tb : TS} {Q : Fl → Loc → AH → Prop} {E : Addr → Loc → AH → Prop} {n : Nat} (I : Nat → Loc → AH → Prop) (h0 : ∀ ℓ σ, I n ℓ σ → inv σ ∧ Q .next ℓ σ)
    (h1 : ∀ i ℓ σ (K : Fl → Loc → AH → Prop), i < n → (∀ ℓ' σ', I (i + 1) ℓ' σ' → K .next ℓ' σ') → (∀ v ℓ' σ', Q (.ret v) ℓ' σ' → K (.ret v) ℓ' σ') → I i ℓ σ → inv σ ∧ Xs t (.int (i : Int)) ℓ σ fun ℓ₁ => tb ℓ₁ σ K E) {ℓ : Loc} {σ : AH} (h : I 0 ℓ σ) : Zce t inv tb (Xh 0 n) ℓ σ Q E :=
  Zig I h0 (fun i ℓ σ K hi a b _ _ => h1 i ℓ σ K hi a b) h
theorem Zs {t ts : TS} {ℓ : Loc} {σ : AH} {Q : Fl → Loc → AH → Prop} {E : Addr → Loc → AH → Prop} (h : ∀ K : Fl → Loc → AH → Prop, (∀ ℓ' σ', ts ℓ' σ' Q E → K .next ℓ' σ') → t ℓ σ K E) : Zsf t ts ℓ σ Q E :=
  h _ (fun _ _ h => h)
theorem Yp {t ts : TS} {ℓ : Loc} {σ : AH} {Q : Fl → Loc → AH → Prop} {E : Addr → Loc → AH → Prop} (h : ∀ K : Fl → Loc → AH → Prop, (∀ ℓ' σ', ts ℓ' σ' Q E → K .next ℓ' σ') → (∀ v ℓ' σ', Q (.ret v) ℓ' σ' → K (.ret v) ℓ' σ') → t ℓ σ K E) : Zsf t ts ℓ σ Q E :=
  h _ (fun _ _ h => h) (fun _ _ _ h => h)
theorem Ye {t ts : TS} {ℓ : Loc} {σ : AH} {Q : Fl → Loc → AH → Prop} {E : Addr → Loc → AH → Prop} (h : ∀ K : Fl → Loc → AH → Prop, (∀ v ℓ' σ', Q (.ret v) ℓ' σ' → K (.ret v) ℓ' σ') → t ℓ σ K E) : Zsf t ts ℓ σ Q E :=
  h _ (fun _ _ _ h => h)
theorem Xa {α : Type} {f : α → V} {v : V} {xs : List V} {l : List α} (h : v :: xs = l.map f) : ∃ a r, l = a :: r ∧ v = f a ∧ xs = r.map f := by
  cases l with
  | nil => cases h
  | cons a r => injection h with h1 h2; exact ⟨a, r, rfl, h1, h2⟩
theorem Xr {α : Type} {f : α → V} {l : List α} (h : [] = l.map f) : l = [] := by
  cases l with
  | nil => rfl
  | cons a r => cases h
end
section
open PySem PyProof.Rows
theorem Zec {σ : AH} : ∀ (ns : List Int), Xf σ (ns.map PyData.int) (ns.map V.int)
  | [] => by simp [Xf]
  | n :: ns => by
    simp only [List.map_cons, Xf]
    exact ⟨_, _, rfl, by simp [Y0], Zec ns⟩
theorem Zbd {σ : AH} {a : Addr} {xs : List V} {ds : List PyData} (e : σ a = some (.list xs)) (h : Xf σ ds xs) : Y0 σ (.list ds) (.ref a) := by
  unfold Y0; exact ⟨a, xs, rfl, e, h⟩
theorem Zgc : ∀ ns : List Int, PyData.canLayAll0 (ns.map PyData.int) = true
  | [] => by simp [PyData.canLayAll0]
  | n :: ns => by simp [PyData.canLayAll0, PyData.canLay0, Zgc ns]
theorem Zhg : ∀ ns : List Int, PyData.depthAll (ns.map PyData.int) ≤ 1
  | [] => by simp [PyData.depthAll]
  | n :: ns => by
    have := Zhg ns
    simp only [List.map_cons, PyData.depthAll, PyData.depth]; exact Zw2 this
theorem Zks (n : Int) : Lay (.int n) := ⟨by simp [PyData.canLay0], by simp [PyData.depth]⟩
theorem Zri : Lay .none := ⟨by simp [PyData.canLay0], by simp [PyData.depth]⟩
theorem Zii (ns : List Int) : Lay (.list (ns.map PyData.int)) := ⟨by simp [PyData.canLay0, Zgc], by have := Zhg ns; simp only [PyData.depth]; exact Zw1 this⟩
theorem Zf9 : ∀ ns ms : List Int, PyData.eqvAll (ns.map PyData.int) (ms.map PyData.int) = (ns == ms)
  | [], [] => by simp [PyData.eqvAll]
  | [], m :: ms => by simp [PyData.eqvAll]
  | n :: ns, [] => by simp [PyData.eqvAll]
  | n :: ns, m :: ms => by
    simp only [List.map_cons, PyData.eqvAll, PyData.eqv, Zf9 ns ms]
    rw [Bool.eq_iff_iff]; simp
theorem Zpz : ∀ (ns : List Int) (k : Int), ((ns.map PyData.int).any fun y => PyData.eqv y (.int k)) = decide (k ∈ ns)
  | [], k => by simp
  | n :: ns, k => by
    simp only [List.map_cons, List.any_cons, Zpz ns k, PyData.eqv]
    by_cases q : n = k
    · subst q; simp
    · have q' : ¬ k = n := fun z => q z.symm
      have : (n == k) = false := by simpa using q
      rw [this]; simp [q']
theorem Zrm {σ : AH} {a : Addr} {ns : List Int} {k : Int} {Q : Bool → Prop} (ha : σ a = some (.list (ns.map V.int))) (h : Q (decide (k ∈ ns))) : inD (.int k) (.ref a) σ Q := by
  simp only [inD, ha]
  exact ⟨_, .int k, Zec ns, by simp [Y0], Zii ns, Zks k, by rw [Zpz]; exact h⟩
theorem Yt {xs : List V} {i : Nat} {x : V} (h : xs[i]? = some x) : atV xs (i : Int) = some x := by
  have hl : i < xs.length := by
    rcases Nat.lt_or_ge i xs.length with q | q
    · exact q
    · rw [List.getElem?_eq_none q] at h; cases h
  have e : seqIndex? (i : Int) xs.length = some i := by
    unfold seqIndex?
    rw [if_neg (show ¬ ((i : Int) < 0) by exact Z3s)]
    simp only
    rw [if_pos (by simp; exact Z3r hl)]
    simp
  unfold atV
  rw [e]; exact h
theorem Wj {xs : List V} {k : Int} {x : V} (h0 : 0 ≤ k) (h : xs[k.toNat]? = some x) : atV xs k = some x := by
  have : k = ((k.toNat : Nat) : Int) := by exact Z2c h0
  rw [this]; exact Yt h
theorem Zsk {r : List Int} {i : Nat} (h : i < r.length) : atV (r.map V.int) (i : Int) = some (.int (r.getD i 0)) := by
  refine Yt ?_
  simp [h]
end
section
open PySem PySem.W PyProof.Rows
variable {g : Gr} {sc csc : Scope} {r : Nat} {c : Bool} {K : Frag}
structure Zsa (K : Frag) (C : Addr) : Prop where
  get : plainGet K C (Str.ofString "x") = true
  dict : hasDictIn K C = true
  set : findIn K (.ref C) "__setattr__" = some (some (.builtin "object.__setattr__"))
  over : plainOver K C = true
theorem Zhb {o : Obj} {es : Array DictEntry} {ep : Nat} {name : Str} (hd : o.data = .dict es ep) (hk : StrKeys es) : lookIn name o = some (nsFind es name) := by
  unfold lookIn
  rw [hd]
  have hr : es.toList.any (·.refKey) = false := by
    rw [List.any_eq_false]
    intro e he
    obtain ⟨n, t, q⟩ := hk e (by simpa using he)
    simp [DictEntry.refKey, q]
  unfold nsFind findBy
  cases q : es.toList.find? (·.key.isStr name) with
  | none =>
    have : es.find? (fun e => e.key.isStr name) = none := by rw [← Array.find?_toList]; exact q
    simp [hr, this]
  | some e =>
    have : es.find? (fun e => e.key.isStr name) = some e := by rw [← Array.find?_toList]; exact q
    simp [this]
variable {g : Gr} {sc csc : Scope} {r : Nat} {c : Bool} {K : Frag}
theorem Zja {kvs : List (Str × V)} {x : Str} (h : kvs.lookup x ≠ none) : x ∈ kvs.map (·.1) := by
  induction kvs with
  | nil => simp at h
  | cons p kvs ih =>
    obtain ⟨y, v⟩ := p
    rw [List.lookup_cons] at h
    by_cases z : x = y
    · subst z; simp
    · have zb : (x == y) = false := by simpa using z
      rw [zb] at h
      exact List.mem_map.mpr (let ⟨q, h1, h2⟩ := List.mem_map.mp (ih h); ⟨q, .tail _ h1, h2⟩)
noncomputable def Zha (e : DictEntry) : Str := match e.key with | .str n _ => n | _ => Str.empty
theorem Zrb {h : Heap} {a : Addr} {m : Str → Option Value} (hn : h.Ns1 a m) (names : List Str) (hm : ∀ x, m x ≠ none → x ∈ names) : ∃ o es ep, h.get? a = some o ∧ o.data = .dict es ep ∧ es.size ≤ names.length := by
  obtain ⟨o, es, ep, ho, hd, hk, hu, hf⟩ := hn
  refine ⟨o, es, ep, ho, hd, ?_⟩
  have isn : ∀ e ∈ es.toList, e.key.isStr (Zha e) = true := fun e he => by
    obtain ⟨n, t, q⟩ := hk e (by simpa using he)
    simp [Zha, q, Value.isStr]
  have hnd : (es.toList.map Zha).Nodup := by
    unfold List.Nodup
    rw [List.pairwise_map]
    refine List.Pairwise.imp_of_mem (fun {a b} ha hb h q => ?_) hu
    exact h (Zha a) (isn a ha) (q ▸ isn b hb)
  have hsub : es.toList.map Zha ⊆ names := fun x hx => by
    obtain ⟨e, he, rfl⟩ := List.mem_map.mp hx
    refine hm _ fun q => ?_
    rw [← hf] at q
    unfold nsFind findBy at q
    have : es.find? (fun e' => e'.key.isStr (Zha e)) = none := by simpa using q
    rw [Array.find?_eq_none] at this
    exact this e (by simpa using he) (isn e he)
  have := List.Nodup.length_le_of_subset hnd hsub
  simpa using this
theorem Zky {h : Heap} {σ : AH} {x C d : Addr} {kvs : List (Str × V)} (R : Rel g h σ) (hx : σ x = some (.inst C d)) (hd : σ d = some (.attrs kvs)) :
    ∃ od, InstAt h x (instObj C d) C (some od) ∧ (∀ name v, kvs.lookup name = some v → ∃ u, lookIn name od = some (some u) ∧ VR g h v u) ∧ (∀ name, kvs.lookup name = none → lookIn name od = some none) ∧ Y3 kvs.length ∧ ∃ m, h.Ns1 d m ∧ ∀ x, (∀ v, kvs.lookup x = some v → ∃ u, m x = some u ∧ VR g h v u) ∧ (kvs.lookup x = none → m x = none) := by
  have ox : h.get? x = some (instObj C d) := (R.own x _ hx).2
  obtain ⟨hft, m, hn, hm⟩ := (R.own d _ hd).2
  obtain ⟨od, es, ep, hod, hdd, hk, _, hf⟩ := id hn
  refine ⟨od, ⟨ox, rfl, rfl, hod⟩, fun name v e => ?_, fun name e => ?_, hft, m, hn, hm⟩
  · obtain ⟨u, h1, h2⟩ := (hm name).1 v e
    exact ⟨u, by rw [Zhb hdd hk, hf, h1], h2⟩
  · rw [Zhb hdd hk, hf, (hm name).2 e]
theorem Zph {h : Heap} {x : V} {v : Value} (hv : VR g h x v) : handedIn v = true := by
  cases x with
  | none => rw [Xu.mp hv]; rfl
  | bool b => rw [Y9.mp hv]; rfl
  | int i => obtain ⟨t, rfl⟩ := Zx.mp hv; rfl
  | str y => obtain ⟨_, t, rfl⟩ := Z8.mp hv; rfl
  | ref a => rw [Z9.mp hv]; rfl
  | tup xs => obtain ⟨_, a, _, _, _, rfl, _⟩ := Xn.mp hv; rfl
  | frz xs => obtain ⟨_, a, _, _, _, rfl, _⟩ := Zcl.mp hv; rfl
noncomputable def Ze6 (C : Addr) (name : Str) (v : V) (σ : AH) : Option V := match v with
  | .ref x => match σ x with
    | some (.inst C' d) => if C' = C then (match σ d with | some (.attrs kvs) => kvs.lookup name | _ => none) else none
    | _ => none
  | _ => none
theorem Zgf {C x d : Addr} {name : Str} {σ : AH} {kvs : List (Str × V)} {u : V} (hx : σ x = some (.inst C d)) (hd : σ d = some (.attrs kvs)) (h : kvs.lookup name = some u) : Ze6 C name (.ref x) σ = some u := by
  simp [Ze6, hx, hd, h]
theorem Zla {C : Addr} {name : Str} {v u : V} {σ : AH} (h : Ze6 C name v σ = some u) : ∃ x d kvs, v = .ref x ∧ σ x = some (.inst C d) ∧ σ d = some (.attrs kvs) ∧ kvs.lookup name = some u := by
  unfold Ze6 at h
  split at h
  · rename_i x
    split at h
    · rename_i C' d e
      split at h
      · rename_i q; subst q
        split at h
        · rename_i kvs e'; exact ⟨x, d, kvs, rfl, e, e', h⟩
        · cases h
      · cases h
    · cases h
  · cases h
noncomputable def Zbh (C : Addr) (name : String) (t : TE) : TE := fun ℓ σ Q E => t ℓ σ (fun v σ₁ => match Ze6 C (Str.ofString name) v σ₁ with | some u => Q u σ₁ | none => False) E
theorem Yd {C : Addr} {e : Expr} {name : String} {pos : Pos} {t : TE} {attr : Option Value} (hK : K.In g.b0) (hc : Zsa K C) (ha : findIn K (.ref C) (Str.ofString name) = some attr) (hn : noGet K attr = true) (hcall : Zdj e = false) (h1 : Y1 g sc r c e t) :
    Y1 g sc r c (.Attribute e (Str.ofString name) pos) (Zbh C name t) := .mk fun A env s ℓ σ Q E X h => by
  rw [arm_eval_Attribute, Zda hcall]
  refine wpAny_bind (wpAny_mono (h1.run A env s ℓ σ _ E X h) (fun v s₁ p => ?_) fun _ _ p => p)
  refine Wr.elim p fun x σ₁ hv hR hx hs hq => ?_
  split at hq
  · rename_i u e
    obtain ⟨a, d, kvs, rfl, h2, h3, h4⟩ := Zla e
    rw [Z9.mp hv]
    obtain ⟨od, I, l1, l2, _⟩ := Zky hR h2 h3
    obtain ⟨uv, l3, hu⟩ := l1 _ _ h4
    refine wpAny_bind (wpAny_standAt (wpAny_bind (wpAny_holding (get_value (fun a o e => hR.base a o (hK a o e)) I (plainGet_of hc.get).1 (findObj_own hc.dict ha hn l3) (Zph hu) ?_))))
    refine wpAny_bind (wpAny_letTemporaryGo (wpAny_pure ?_))
    exact ⟨u, σ₁, hu, hR, hx, hs.trans ⟨rfl, rfl, rfl⟩, hq⟩
  · exact hq.elim
inductive Zwf (C : Addr) (name : String) (ℓ : Loc) (Q : Fl → Loc → AH → Prop) (v o : V) (σ₂ : AH) : Prop
  | mk (x d : Addr) (kvs : List (Str × V)) (h1 : o = .ref x) (h2 : σ₂ x = some (.inst C d)) (h3 : σ₂ d = some (.attrs kvs)) (h4 : Y3 (kvs.length + 1)) (h5 : Q .next ℓ (σ₂.set d (.attrs ((Str.ofString name, v) :: kvs)))) : Zwf C name ℓ Q v o σ₂
noncomputable def Zd2 (C : Addr) (name : String) (to tv : TE) : TS := fun ℓ σ Q E => tv ℓ σ (fun v σ₁ => to ℓ σ₁ (Zwf C name ℓ Q v) fun C σ' => E C ℓ σ') fun C σ' => E C ℓ σ'
theorem Zbl {C : Addr} {o value : Expr} {name : String} {pos' pos : Pos} {to tv : TE} (hK : K.In g.b0) (hc : Zsa K C) (ht : takerIn K C (Str.ofString name) = some none) (h1 : Y1 g sc r c o to) (h2 : Y1 g sc r c value tv)
    (hs : ∀ env, swapsWith value (some (.Attribute o (Str.ofString name) pos')) pos.line env = pure false) : Zlc g sc r c (.Assign [.Attribute o (Str.ofString name) pos'] value pos) (Zd2 C name to tv) := .mk fun A env s ℓ σ Q E X h => by
  refine plainObj_wpAny_Assign_Attribute (wpAny_mono (h2.run A env s ℓ σ _ _ X h) (fun v s₁ p => ?_) fun _ _ p => p.toS X) (hs env)
  refine Wr.elim p fun xv σ₁ hv hR1 hx1 hs1 hq => ?_
  have X1 := X.step hR1 hx1
  refine wpAny_mono (h1.run A env s₁ ℓ σ₁ _ _ X1 hq) (fun ov s₂ p => ?_) fun _ _ p => (p.toS X1).back hx1.own hs1
  obtain ⟨xo, σ₂, ho, hR2, hx2, hs2, x, d, kvs, rfl, e1, e2, hfit, hq⟩ := p
  have X2 := X1.step hR2 hx2
  rw [Z9.mp ho]
  have hv2 := hx2.vr hR1 Yw hv
  obtain ⟨od, I, l1, l2, hft, m, hn, hm⟩ := Zky hR2 e1 e2
  have XK : K.In s₂.heap := fun a o e => hR2.base a o (hK a o e)
  obtain ⟨cd, hcd, hdd⟩ := any_some hc.dict
  refine set_plain XK I hc.set (osa_open (s := { s₂ with toks := s₂.toks + 1 }) XK I hc.over ht fun b => ?_)
  have hx0 := I.at_
  have XK' : K.In ({ s₂ with toks := s₂.toks + 1 } : Shared).heap := XK
  refine wpAny_bind (wpAny_pure (wpAny_bind (wpAny_bind (wpAny_loadPart hx0 (wpAny_bind ((looks_clsIn XK' hcd).here ?_))))))
  rw [hdd]
  refine wpAny_pure (a := some d) (wpAny_bind (wpAny_pure (wpAny_bind ?_)))
  refine wpAny_nsSet1 (s := { s₂ with toks := s₂.toks + 1 }) hn fun h' hn' sb => ?_
  have tk : Yh g s₂.heap h' := fun b o us k _ q cc dd => by
    refine .of (sb.extBut b o (fun z => ?_) q)
    obtain ⟨o', es, ep, ho', hd', _⟩ := hn
    subst z; rw [ho'] at q; cases q; rw [hd'] at dd; cases dd
  have hor : OR g h' d (.attrs ((Str.ofString name, xv) :: kvs)) := by
    refine ⟨hfit, _, hn', fun y => ⟨fun w q => ?_, fun q => ?_⟩⟩
    · rw [List.lookup_cons] at q
      by_cases z : y = Str.ofString name
      · subst z
        simp only [beq_self_eq_true] at q
        cases q
        exact ⟨v, by simp, VR.mono tk hv2⟩
      · have zb : (y == Str.ofString name) = false := by simpa using z
        rw [zb] at q
        obtain ⟨u, h1, h2⟩ := (hm y).1 w q
        exact ⟨u, by rw [if_neg z]; exact h1, VR.mono tk h2⟩
    · rw [List.lookup_cons] at q
      by_cases z : y = Str.ofString name
      · subst z; simp at q
      · have zb : (y == Str.ofString name) = false := by simpa using z
        rw [zb] at q
        rw [if_neg z]; exact (hm y).2 q
  have pd : ∃ o, h'.get? d = some o := let ⟨o, _, _, e, _⟩ := hn'; ⟨o, e⟩
  have R3 : Rel g h' (σ₂.set d (.attrs ((Str.ofString name, xv) :: kvs))) := hR2.upd e2 sb hor
  have x3 : Ext No s₂.heap σ₂ h' (σ₂.set d (.attrs ((Str.ofString name, xv) :: kvs))) := .upd e2 sb pd
  have hsz : ∃ o es ep, h'.get? d = some o ∧ o.data = .dict es ep ∧ es.size ≤ kvs.length + 1 := by
    have := Zrb hn' (Str.ofString name :: kvs.map (·.1)) fun y q => ?_
    · simpa using this
    · by_cases z : y = Str.ofString name
      · rw [z]; exact .head _
      · rw [if_neg z] at q
        refine .tail _ (Zja fun w => q ((hm y).2 w))
  obtain ⟨od', es', ep', ho', hd', hle⟩ := hsz
  refine wpAny_bind (wpAny_lookBehind ho' (by rw [hd']; exact pastItsLine_dict (by have := hfit.line; exact Z3q hle this)) (wpAny_pure ?_))
  show Zcz g env s σ Q .next _
  exact ⟨.next, ℓ, _, rfl, X2.loc.step hR2 x3, R3, ((hx1.trans hx2).trans x3).own, (hs1.trans hs2).trans ⟨rfl, rfl, rfl⟩, hq⟩
end
section
open PySem PySem.W PyProof.Rows
variable {g : Gr} {sc csc : Scope} {r : Nat} {c : Bool} {K : Frag}
theorem Zge {A : Around} {E : Value → Shared → Prop} {s : Shared} {pos : Pos} {f : Value} {first : List Value} {l : List (Bool × Sem Value)} {Q : Value → Shared → Prop} (hK : K.In g.b0) (hk : keepIn K f = true) (hp : l.any (·.1) = false)
    (h : wpAny (model g.prog g.w) A (spliced l) (fun vs s' => (∀ a o, g.b0.get? a = some o → s'.heap.get? a = some o) ∧ wpAny (model g.prog g.w) A (call f (first ++ vs) []) Q E s') E s) : wpAny (model g.prog g.w) A (callWith pos f first l []) Q E s :=
  callWith_of (P := fun h => K.In h) (by simp [hp]) (keeps_K hk) (Zbc hp (wpAny_mono h (fun vs s' h' => ⟨fun a o e => h'.1 a o (hK a o e), h'.2⟩) fun _ _ x => x))
noncomputable def FnM (g : Gr) (K : Frag) (C : Addr) (name : String) (r : Nat) (t : TF) : Prop := ∃ f, findIn K (.ref C) (Str.ofString name) = some (some (.ref f)) ∧ isFn K (.ref f) = true ∧ keepIn K (.ref f) = true ∧ Zdb g r (.ref f) t
theorem FnM.le {C : Addr} {name : String} {r r' : Nat} {t : TF} (h : FnM g K C name r t) (k : r ≤ r') : FnM g K C name r' t := let ⟨f, h1, h2, h3, h4⟩ := h; ⟨f, h1, h2, h3, h4.le k⟩
noncomputable def instOf (C : Addr) (name : Str) (o : V) (σ : AH) : Prop := ∃ x d kvs, o = .ref x ∧ σ x = some (.inst C d) ∧ σ d = some (.attrs kvs) ∧ kvs.lookup name = none
noncomputable def Y8 (C : Addr) (name : String) (t : TF) (to : TE) (ts : TL) : TE := fun ℓ σ Q E => to ℓ σ (fun o σ₁ => instOf C (Str.ofString name) o σ₁ ∧ ts ℓ σ₁ (fun vs σ₂ => t (o :: vs) σ₂ Q E) E) E
theorem Zz {C : Addr} {o : Expr} {name : String} {apos pos : Pos} {args : List Expr} {t : TF} {to : TE} {ts : TL} (hK : K.In g.b0) (hc : Zsa K C) (hF : FnM g K C name r t)
    (ho : Y1 g sc r true o to) (hL : Zkb g sc r true args ts) (hp : Zc0 args) (hbase : Zdj o = false) (hfew : decide (args.length < 30) = true)
    (hline : (apos.endLine == pos.line) = true) : Y1 g sc r true (.Call (.Attribute o (Str.ofString name) apos) args [] pos) (Y8 C name t to ts) := .mk fun A env s ℓ σ Q E X h => by
  obtain ⟨f, hf, hfn, hkf, hF⟩ := hF
  rw [arm_eval_Call, Zda hbase]
  refine wpAny_bind (wpAny_mono (ho.run A env s ℓ σ _ E X h) (fun v s₁ p => ?_) fun _ _ p => p)
  obtain ⟨xo, σ₁, hv, hR, hx, hs1, ⟨x, d, kvs, rfl, e1, e2, e3⟩, hq⟩ := p
  have X1 := X.step hR hx
  rw [Z9.mp hv]
  obtain ⟨od, I, l1, l2, _⟩ := Zky hR e1 e2
  have XK : K.In s₁.heap := fun a o e => hR.base a o (hK a o e)
  refine wpAny_bind (wpAny_standAt ?_)
  have fin : wpAny (model g.prog g.w) A (callWith pos (.ref f) [.ref x] (backTo pos (starEach args env)) []) (Wq g s σ Q) (Xx g A s σ E) s₁ := by
    refine Zge hK hkf (Xc hp pos env) (wpAny_mono (hL.run A env pos s₁ ℓ σ₁ _ E X1 hq) (fun vs s₂ p => ?_) fun _ _ p => p.back hx hs1)
    refine Wr.elim p fun xs σ₂ hvs hR2 hx2 hs2 hq => ?_
    have X2 := X1.step hR2 hx2
    exact ⟨fun a o e => hR2.base a o e, X7 (hx.trans hx2) (hs1.trans hs2) (hF.run A s₂ σ₂ (.ref x :: xs) (.ref x :: vs) Q E X.gok X2.fr.frl X2.room hR2 (Yg (Z9.mpr rfl) hvs) hq)⟩
  have hform : methodCallForm (args.length + ([] : List Keyword).length) (backTo pos (starEach args env)) (backToKw pos (keywordEach [] env)) = true := Zf6 hp hfew
  have hpos : methodCallPos true o env apos pos = pure pos := by unfold methodCallPos; simp [hline]
  unfold methodCall
  rw [hform]
  refine wpAny_bind (wpAny_holding (method_fn XK I (plainGet_of hc.get).1 (plainGet_of hc.get).2 hf (beq_iff_eq.mp hfn) (by show (lookIn (Str.ofString name) od).map _ = _; rw [l2 _ e3]; rfl) ?_))
  exact wpAny_bind (wpAny_of_eq hpos fin)
theorem Zgl.made {A : Around} {r : Nat} {c : Bool} {C : Addr} {vs : List Value} (x : Zgl A (r + 1) c) : Zgl (A.under (.builtin "type.__call__" ⟨.ref C :: vs, []⟩)) r c :=
  ⟨by have := x.depth; show A.depth + 1 + 2 * r + 110 < _; exact om4 this, by have := x.units; show A.units + 1 + 20 * r + 100 < _; exact Z3p this, x.calm⟩
noncomputable def Zt6 (C : Addr) (t : TF) : TF := fun xs σ Q E => ∀ x d, σ x = none → σ d = none → x ≠ d → t (.ref x :: xs) ((σ.set d (.attrs [])).set x (.inst C d)) (fun v σ' => v = .none ∧ Q (.ref x) σ') E
theorem Zqt {C fI : Addr} {t : TF} (hK : K.In g.b0) (hm : makesIn K C = true) (hi : findIn K (.ref C) "__init__" = some (some (.ref fI))) (hf : typeIn K (.ref fI) = some (.type "function")) (hI : Xz g r (.ref fI) t) : Zdb g (r + 1) (.ref C) (Zt6 C t) := .mk fun A s σ xs vs Q E G F Rm R hv h => by
  obtain ⟨hh, gg, dd, tt, os⟩ := s
  have X : K.In hh := fun a o e => R.base a o (hK a o e)
  refine wpAny_call (make_core (makes_of X hm) (looks_findIn X hi) (fun self => bind_fn X self hf) (.inl rfl) ?_)
  have k1 : ∀ a o, hh.get? a = some o → (hh.push emptyDict).get? a = some o := fun a o e => Heap.get?_push_of_some _ e
  have k2 : ∀ a o, hh.get? a = some o → ((hh.push emptyDict).push (instObj C hh.objs.size)).get? a = some o := fun a o e => Heap.get?_push_of_some _ (k1 a o e)
  have fr1 : hh.get? (hh.objs.size + 1) = none := Heap.get?_none_of_le (Nat.le_succ _)
  have fr0 : hh.get? hh.objs.size = none := Z1 _
  have hD : ((hh.push emptyDict).push (instObj C hh.objs.size)).get? hh.objs.size = some emptyDict := Heap.get?_push_of_some _ (Heap.get?_push_size _ rfl)
  have hX : ((hh.push emptyDict).push (instObj C hh.objs.size)).get? (hh.objs.size + 1) = some (instObj C hh.objs.size) := by
    have := Heap.get?_push_size (o := instObj C hh.objs.size) (hh.push emptyDict) rfl
    rwa [Heap.size_push] at this
  have R1 : Rel g ((hh.push emptyDict).push (instObj C hh.objs.size)) (σ.set hh.objs.size (.attrs [])) := by
    refine R.alloc k2 fr0 ⟨Yn rfl, fun _ => none, ⟨emptyDict, #[], 0, hD, rfl, fun e he => by simp at he, List.Pairwise.nil, fun _ => rfl⟩, fun x => ⟨fun v q => (nomatch q), fun _ => rfl⟩⟩
  have b0 : g.b0.get? (hh.objs.size + 1) = none := by
    cases q : g.b0.get? (hh.objs.size + 1) with
    | none => rfl
    | some o => have := R.base _ o q; rw [show (Shared.heap ⟨hh, gg, dd, tt, os⟩) = hh from rfl, fr1] at this; cases this
  have R2 := R1.claim (a := hh.objs.size + 1) (ao := .inst C hh.objs.size) b0 hX
  have x2 : Ext No hh σ ((hh.push emptyDict).push (instObj C hh.objs.size)) ((σ.set hh.objs.size (.attrs [])).set (hh.objs.size + 1) (.inst C hh.objs.size)) := by
    refine ⟨fun a o e _ _ => .of (k2 a o e), fun a o e => ⟨o, k2 a o e⟩, fun a q => ?_⟩
    by_cases z : a = hh.objs.size + 1
    · rw [z]; exact .inr fr1
    · rw [Ze z] at q
      by_cases z2 : a = hh.objs.size
      · rw [z2]; exact .inr fr0
      · rw [Ze z2] at q; exact .inl q
  have F2 : FrL g (A.under (.builtin "type.__call__" ⟨.ref C :: vs, []⟩)) ((hh.push emptyDict).push (instObj C hh.objs.size)) ((σ.set hh.objs.size (.attrs [])).set (hh.objs.size + 1) (.inst C hh.objs.size)) := by
    obtain ⟨l, h1, h2, h3⟩ := F
    obtain ⟨k3, k4⟩ := W9 (W := No) (x2.dicts fun _ _ _ _ n => n.elim) _ h2 h3
    exact ⟨l, h1, k3, k4⟩
  have σx : σ (hh.objs.size + 1) = none := R.fresh fr1
  have σd : σ hh.objs.size = none := R.fresh fr0
  refine codeAny_mono (hI.run (A.under (.builtin "type.__call__" ⟨.ref C :: vs, []⟩)) ⟨(hh.push emptyDict).push (instObj C hh.objs.size), gg, dd, tt, os⟩ _ (.ref (hh.objs.size + 1) :: xs) (.ref (hh.objs.size + 1) :: vs) _ E G F2 Rm.made R2 (Yg (Z9.mpr rfl) (VRs.mono (fun a o _ _ _ e _ _ => .of (k2 a o e)) hv))
    (h _ _ σx σd (Nat.succ_ne_self _))) fun rr s' p => ?_
  match rr, p with
  | .ok (.ret v), p =>
    obtain ⟨y, σ', hy, hR', hx', hs', rfl, hq⟩ := p
    exact ⟨Xu.mp hy, .ref _, σ', Z9.mpr rfl, hR', x2.trans hx', Wv.trans ⟨rfl, rfl, rfl⟩ hs', hq⟩
  | .error e, p => obtain ⟨D, σ', h1, h2, h3, h4, h5⟩ := p; exact ⟨D, σ', h1.back x2.pres, h2, x2.trans h3, Wv.trans ⟨rfl, rfl, rfl⟩ h4, h5⟩
end
section
open PySem PySem.W PyProof.Rows
variable {g : Gr} {sc csc : Scope} {r : Nat} {c : Bool} {K : Frag}
theorem Zjb (its : Array Value) (n : Nat) (f : Array Value → Array Value) : ∃ n', Obj.mapSeq f { cls := .type "list", data := .seq its n } = { cls := .type "list", data := .seq (f its) n' } := by
  simp [Obj.mapSeq]
theorem Zh6 {prog : Program} {w : World} {A : Around} {E : Value → Shared → Prop} {s : Shared} {l : Addr} {items : Array Value} {n : Nat} {k : Int} {t : Tok} {v : Value} {Q : Unit → Shared → Prop} (ho : s.heap.get? l = some { cls := .type "list", data := .seq items n }) (h0 : 0 ≤ k) (hfit : k < 2 ^ 63) (hn : k < items.size)
    (hQ : ∀ h' n', h'.get? l = some { cls := .type "list", data := .seq (items.setIfInBounds k.toNat v) n' } → Heap.SameBut l s.heap h' → Q () { s with heap := h' }) :
    wpAny (model prog w) A (setItem (.ref l) (.int k t) v) Q E s := by
  have hl : s.heap.IsList l items := ⟨_, ho, rfl, n, rfl⟩
  obtain ⟨o, ho', hc, ne, hd⟩ := id hl
  have eo : o = { cls := .type "list", data := .seq items n } := by rw [ho] at ho'; cases ho'; rfl
  unfold setItem
  try with_reducible refine wpAny_holding ?_
  first | refine wpAny_bind (wpAny_pure ?_) | skip
  refine wpAny_bind (wpAny_sequenceKey hl.typeIs (by decide) ?_)
  refine wpAny_bind (wpAny_callSpecial?_slot (name := Str.ofString "__setitem__") hl.typeIs slot_list_setitem
    (wpAny_call_entry slot_list_setitem hl.typeIs entry_list_setitem ?_ (args_list_setitem _ _ _)))
  show wpAny _ _ (Builtin.List.listSubscript? (.int k t) >>= _) _ _ s
  refine wpAny_bind (wpAny_listSubscript_int (fitsIndex_of h0 hfit) ?_)
  clear hfit
  obtain ⟨j, rfl⟩ := Int.eq_ofNat_of_zero_le h0
  have hj : j < items.size := by exact Z2b hn
  have hx' : items[j]? = some items[j] := Array.getElem?_eq_getElem hj
  show wpAny _ _ ((seqItemAt l j >>= fun r => pure (r.map (j, ·))) >>= _) _ _ s
  refine wpAny_bind (wpAny_bind (wpAny_seqItemAt ho' hd (wpAny_pure ?_)))
  rw [hx']
  show wpAny _ _ (setSeqItemAt l j v >>= _) _ _ s
  obtain ⟨n', hm⟩ := Zjb items n (·.setIfInBounds j v)
  have hfin : (s.heap.update l (Obj.mapSeq (·.setIfInBounds j v))).get? l = some { cls := .type "list", data := .seq (items.setIfInBounds j v) n' } := by
    rw [Heap.get?_update_self _ ho (by rw [hm]; rfl), hm]
  refine wpAny_bind (wpAny_setSeqItemAt ho' hd ?_)
  first
    | exact wpAny_bind (wpAny_pure (wpAny_pure ⟨.none, rfl, wpAny_pure (hQ _ _ hfin (Heap.SameBut.update ..))⟩))
    | exact wpAny_pure ⟨.none, rfl, wpAny_pure (hQ _ _ hfin (Heap.SameBut.update ..))⟩
noncomputable def Zfb {K : Type} [DecidableEq K] (kvs : List (K × V)) (k : K) (x : V) : List (K × V) :=
  if kvs.any (fun kv => decide (kv.1 = k)) then kvs.map (fun kv => if kv.1 = k then (kv.1, x) else kv) else kvs ++ [(k, x)]
theorem Zp2 {h : Heap} {x : V} {v : Value} (hx : VR g h x v) : ∀ {xs : List V} {vs : List Value} (j : Nat), VRs g h xs vs → VRs g h (xs.set j x) (vs.set j v)
  | [], vs, j, a => by rw [Zr a]; simpa using Yx
  | y :: xs, vs, j, a => by
    obtain ⟨u, us, rfl, hy, hus⟩ := Zi a
    cases j with
    | zero => exact Yg hx hus
    | succ j => exact Yg hy (Zp2 hx j hus)
theorem Zp1 {K : Type} [DecidableEq K] {α β : Type} {us : List (K × α)} {kvs : List (K × β)} (hk : us.map (·.1) = kvs.map (·.1)) (k : K) : (us.any fun kv => decide (kv.1 = k)) = kvs.any fun kv => decide (kv.1 = k) := by
  have h1 : (us.any fun kv => decide (kv.1 = k)) = (us.map (·.1)).any fun y => decide (y = k) := by simp [List.any_map, Function.comp_def]
  have h2 : (kvs.any fun kv => decide (kv.1 = k)) = (kvs.map (·.1)).any fun y => decide (y = k) := by simp [List.any_map, Function.comp_def]
  rw [h1, h2, hk]
theorem Zgy {K : Type} [DecidableEq K] {h : Heap} {k : K} {x : V} {v : Value} (hx : VR g h x v) {us : List (K × Value)} {kvs : List (K × V)} (hk : us.map (·.1) = kvs.map (·.1)) (hv : VRs g h (kvs.map (·.2)) (us.map (·.2))) :
    (stored us k v).map (·.1) = (Zfb kvs k x).map (·.1) ∧ VRs g h ((Zfb kvs k x).map (·.2)) ((stored us k v).map (·.2)) := by
  have rep : ∀ {us : List (K × Value)} {kvs : List (K × V)}, us.map (·.1) = kvs.map (·.1) → VRs g h (kvs.map (·.2)) (us.map (·.2)) →
      (us.map (fun kv => if kv.1 = k then (kv.1, v) else kv)).map (·.1) = (kvs.map (fun kv => if kv.1 = k then (kv.1, x) else kv)).map (·.1) ∧ VRs g h ((kvs.map (fun kv => if kv.1 = k then (kv.1, x) else kv)).map (·.2)) ((us.map (fun kv => if kv.1 = k then (kv.1, v) else kv)).map (·.2)) := by
    intro us
    induction us with
    | nil =>
      intro kvs hk hv
      cases kvs with
      | nil => exact ⟨rfl, Yx⟩
      | cons _ _ => simp at hk
    | cons u us ih =>
      intro kvs hk hv
      cases kvs with
      | nil => simp at hk
      | cons kv kvs =>
        simp only [List.map_cons, List.cons.injEq] at hk
        obtain ⟨w, ws, hw, hv1, hv2⟩ := Zi hv
        simp only [List.map_cons, List.cons.injEq] at hw
        obtain ⟨rfl, rfl⟩ := hw
        obtain ⟨i1, i2⟩ := ih hk.2 hv2
        simp only [List.map_cons]
        by_cases z : u.1 = k
        · have z' : kv.1 = k := hk.1 ▸ z
          rw [if_pos z, if_pos z']
          exact ⟨by rw [i1]; simp [hk.1], Yg hx i2⟩
        · have z' : ¬ kv.1 = k := hk.1 ▸ z
          rw [if_neg z, if_neg z']
          exact ⟨by rw [i1]; simp [hk.1], Yg hv1 i2⟩
  unfold stored Zfb
  rw [Zp1 hk k]
  split
  · exact rep hk hv
  · exact ⟨by simp [hk], by simpa using Zac hv (Yg hx Yx)⟩
theorem Zdr {K : Type} [DecidableEq K] (kvs : List (K × V)) (k : K) (x : V) : (Zfb kvs k x).length ≤ kvs.length + 1 := by
  unfold Zfb; split <;> simp
theorem Zcq {A : Around} {env : Env} {s : Shared} {σ : AH} {ℓ : Loc} {Q : Fl → Loc → AH → Prop} {a : Addr} {ao ao' : AO} {h' : Heap} {tk : Nat} (X : Cx g sc r c A env s.heap σ ℓ) (e : σ a = some ao) (sb : Heap.SameBut a s.heap h') (ho : Yh g s.heap h' → OR g h' a ao') (hq : Q .next ℓ (σ.set a ao')) : Zcz g env s σ Q .next { s with heap := h', toks := tk } := by
  obtain ⟨o₀, e₀, c₀⟩ := Zbg (X.rel.own a _ e).2
  have tks : Yh g s.heap h' := fun b o us m _ q cc d => by
    refine .of (sb.extBut b o (fun z => ?_) q)
    subst z; rw [e₀] at q; cases q; exact c₀ _ _ cc d
  have hor := ho tks
  have pr : ∃ o, h'.get? a = some o := let ⟨o, q, _⟩ := Zbg hor; ⟨o, q⟩
  have x : Ext No s.heap σ h' (σ.set a ao') := .upd e sb pr
  exact ⟨.next, ℓ, _, rfl, X.loc.step X.rel x, X.rel.upd e sb hor, x.own, ⟨rfl, rfl, rfl⟩, hq⟩
noncomputable def Zca (o i v : V) (σ : AH) (Q : AH → Prop) : Prop := match o with
  | .ref a => match σ a with
    | some (.list xs) => ∃ j : Nat, i = .int (j : Int) ∧ j < xs.length ∧ Q (σ.set a (.list (xs.set j v)))
    | some (.dictI kvs _) => ∃ k, i = .int k ∧ Y3 (kvs.length + 1) ∧ ∀ ep, Q (σ.set a (.dictI (Zfb kvs k v) ep))
    | some (.dictT kvs _) => ∃ ks : List Int, i = .tup (ks.map V.int) ∧ Y3 (kvs.length + 1) ∧ ∀ ep, Q (σ.set a (.dictT (Zfb kvs ks v) ep))
    | _ => False
  | _ => False
noncomputable def Zc3 (to ti tv : TE) : TS := fun ℓ σ Q E => tv ℓ σ (fun v σ₁ => to ℓ σ₁ (fun o σ₂ => ti ℓ σ₂ (fun i σ₃ => Zca o i v σ₃ fun σ' => Q .next ℓ σ') fun C σ' => E C ℓ σ') fun C σ' => E C ℓ σ') fun C σ' => E C ℓ σ'
theorem Zfl {h : Heap} {k : List Int} {x : V} {v : Value} {a : Addr} (hx : VR g h x v) {us : List (List Int × Addr × Value)} {kvs : List (List Int × V)} (hk : us.map (·.1) = kvs.map (·.1)) (hv : VRs g h (kvs.map (·.2)) (us.map (·.2.2))) :
    (storedH us k a v).map (·.1) = (Zfb kvs k x).map (·.1) ∧ VRs g h ((Zfb kvs k x).map (·.2)) ((storedH us k a v).map (·.2.2)) := by
  have rep : ∀ {us : List (List Int × Addr × Value)} {kvs : List (List Int × V)}, us.map (·.1) = kvs.map (·.1) → VRs g h (kvs.map (·.2)) (us.map (·.2.2)) →
      (us.map (putAt k v)).map (·.1) = (kvs.map (fun kv => if kv.1 = k then (kv.1, x) else kv)).map (·.1) ∧ VRs g h ((kvs.map (fun kv => if kv.1 = k then (kv.1, x) else kv)).map (·.2)) ((us.map (putAt k v)).map (·.2.2)) := by
    intro us
    induction us with
    | nil =>
      intro kvs hk hv
      cases kvs with
      | nil => exact ⟨rfl, Yx⟩
      | cons _ _ => simp at hk
    | cons u us ih =>
      intro kvs hk hv
      cases kvs with
      | nil => simp at hk
      | cons kv kvs =>
        simp only [List.map_cons, List.cons.injEq] at hk
        obtain ⟨w, ws, hw, hv1, hv2⟩ := Zi hv
        simp only [List.map_cons, List.cons.injEq] at hw
        obtain ⟨rfl, rfl⟩ := hw
        obtain ⟨i1, i2⟩ := ih hk.2 hv2
        simp only [List.map_cons]
        unfold putAt at i1 i2 ⊢
        by_cases z : u.1 = k
        · have z' : kv.1 = k := hk.1 ▸ z
          rw [if_pos z, if_pos z']
          exact ⟨by rw [i1]; simp [hk.1], Yg hx i2⟩
        · have z' : ¬ kv.1 = k := hk.1 ▸ z
          rw [if_neg z, if_neg z']
          exact ⟨by rw [i1]; simp [hk.1], Yg hv1 i2⟩
  have hany : (atKey us k).isSome = kvs.any fun kv => decide (kv.1 = k) := by
    rw [← Zp1 hk k]
    unfold atKey
    rw [Option.isSome_map, Bool.eq_iff_iff, List.find?_isSome]
    simp
  unfold storedH Zfb
  rw [hany]
  split
  · exact rep hk hv
  · exact ⟨by simp [hk], by simpa using Zac hv (Yg hx Yx)⟩
variable {g : Gr} {sc csc : Scope} {r : Nat} {c : Bool} {K : Frag}
theorem Zb5 {K' : Type} [DecidableEq K'] {prog : Program} {w : World} {knd : KeyKind prog w K'} {h : Heap} {a : Addr} {kvs : List (K' × Value)} (x : h.DictOf knd a kvs) : ∃ ep, h.DictAt knd a kvs ep := let ⟨o, es, ep, r⟩ := x; ⟨ep, o, es, r⟩
theorem Zah {o i value : Expr} {pos' pos : Pos} {to ti tv : TE} (h1 : Y1 g sc r c o to) (h2 : Y1 g sc r c i ti) (h3 : Y1 g sc r c value tv) (hs : ∀ env, swapsWith value (some (.Subscript o i pos')) pos.line env = pure false) :
    Zlc g sc r c (.Assign [.Subscript o i pos'] value pos) (Zc3 to ti tv) := .mk fun A env s ℓ σ Q E X h => by
  refine wpAny_Assign_Subscript (wpAny_mono (h3.run A env s ℓ σ _ _ X h) (fun v s₁ p => ?_) fun _ _ p => p.toS X) (hs env)
  refine Wr.elim p fun xv σ₁ hv hR1 hx1 hs1 hq => ?_
  have X1 := X.step hR1 hx1
  refine wpAny_mono (h1.run A env s₁ ℓ σ₁ _ _ X1 hq) (fun ov s₂ p => ?_) fun _ _ p => (p.toS X1).back hx1.own hs1
  refine Wr.elim p fun xo σ₂ ho hR2 hx2 hs2 hq => ?_
  have X2 := X1.step hR2 hx2
  have hx12 := hx1.trans hx2
  have hs12 := hs1.trans hs2
  refine wpAny_mono (h2.run A env s₂ ℓ σ₂ _ _ X2 hq) (fun iv s₃ p => ?_) fun _ _ p => (p.toS X2).back hx12.own hs12
  refine Wr.elim p fun xi σ₃ hi hR3 hx3 hs3 hq => ?_
  have X3 := X2.step hR3 hx3
  have hv3 := (hx2.trans hx3).vr hR1 Yw hv
  have ho3 := hx3.vr hR2 Yw ho
  refine wpAny_mono (Q := fun _ s' => Zcz g env s₃ σ₃ Q .next s') ?_ (fun _ _ p => p.back (hx12.trans hx3).own (hs12.trans hs3)) fun _ _ (p : False) => p.elim
  unfold Zca at hq
  split at hq
  · rename_i a _
    rw [Z9.mp ho3]
    split at hq
    · rename_i xs e
      obtain ⟨j, rfl, hj, hq⟩ := hq
      obtain ⟨t, rfl⟩ := Zx.mp hi
      obtain ⟨hf, us, n, hou, hvs⟩ := (hR3.own a _ e).2
      have hlen : xs.length = us.size := by have := Zu hvs; simpa using this
      have hfl := hf
      unfold Y3 at hfl
      refine Zh6 hou (by exact Zw0) (by exact Z3o hj hlen hfl) (by exact Z3n hj hlen) fun h' n' ho' sb => ?_
      refine Zcq (tk := s₃.toks) (ao' := .list (xs.set j xv)) X3 e sb (fun tk => ⟨by simpa using hf, _, n', ho', ?_⟩) hq
      have := Zp2 (VR.mono tk hv3) j (VRs.mono tk hvs)
      simpa using this
    · rename_i kvs ep e
      obtain ⟨k, rfl, hft, hq⟩ := hq
      obtain ⟨t, rfl⟩ := Zx.mp hi
      obtain ⟨hf, us, hd, hk, hvs⟩ := (hR3.own a _ e).2
      have hlen : kvs.length = us.length := by have := congrArg List.length hk; simpa using this.symm
      refine wpAny_setItem_pairs (knd := intKind g.prog g.w) (k := k) (by simp [intKind, Value.isInt]) hd.dictOf (fun h' hd' sb => ?_) (by rw [← hlen]; exact hf.line)
      obtain ⟨ep', hd'⟩ := Zb5 hd'
      refine Zcq (ao' := .dictI (Zfb kvs k xv) ep') X3 e sb (fun tk => ?_) (hq ep')
      obtain ⟨p1, p2⟩ := Zgy (VR.mono tk hv3) hk (VRs.mono tk hvs)
      exact ⟨hft.le (Zdr _ _ _), _, hd', p1, p2⟩
    · rename_i kvs ep e
      obtain ⟨ks, rfl, hft, hq⟩ := hq
      obtain ⟨ka, rfl, nh, hka⟩ := Zb7 hi
      obtain ⟨hf, us, hd, hk, hvs⟩ := (hR3.own a _ e).2
      have hlen : kvs.length = us.length := by have := congrArg List.length hk; simpa using this.symm
      refine wpAny_setItem_heap (knd := tupleKind (intKind g.prog g.w)) (tupleKind_room_in1 (by have := X3.room.cline; exact Zvc this)) hka hd.ofH (fun h' hd' sb => ?_) (by rw [← hlen]; exact hf.line)
      obtain ⟨o', es', ep', g1, g2, g3, g4, g5, g6⟩ := hd'
      have hh : ∀ y ∈ us, ¬ g.hid y.2.1 := by obtain ⟨_, _, _, _, _, _, q, _⟩ := hd; exact fun y hy => (q y hy).1
      refine Zcq (ao' := .dictT (Zfb kvs ks xv) ep') X3 e sb (fun tk => ⟨hft.le (Zdr _ _ _), storedH us ks ka v, ⟨o', es', g1, g2, g3, g4, fun y hy => ⟨?_, g5 y hy⟩, g6⟩, (Zfl (VR.mono tk hv3) hk (VRs.mono tk hvs)).1, (Zfl (VR.mono tk hv3) hk (VRs.mono tk hvs)).2⟩) (hq ep')
      · unfold storedH at hy
        split at hy
        · obtain ⟨z, hz, rfl⟩ := List.mem_map.1 hy
          unfold putAt; split <;> exact hh z hz
        · rcases List.mem_append.1 hy with q | q
          · exact hh y q
          · rw [List.mem_singleton.1 q]; exact nh
    · exact hq.elim
  · exact hq.elim
end
section
open PySem PyProof.Rows
variable {g : Gr} {sc csc : Scope} {r : Nat} {c : Bool}
noncomputable def Zui (tt : TB) (tb : TS) : TS := fun ℓ σ Q E => ∃ I : Nat → Loc → AH → Prop, (∃ n, I n ℓ σ) ∧ ∀ n ℓ σ, I n ℓ σ → tt ℓ σ (fun b σ₂ => match b with
    | true => tb ℓ σ₂ (fun f ℓ₃ σ₃ => match f with
      | .next => ∃ m, m < n ∧ I m ℓ₃ σ₃
      | .cont => ∃ m, m < n ∧ I m ℓ₃ σ₃
      | .brk => Q .next ℓ₃ σ₃
      | .ret v => Q (.ret v) ℓ₃ σ₃) E
    | false => Q .next ℓ σ₂) fun C σ' => E C ℓ σ'
inductive WhI (g : Gr) (env : Env) (s : Shared) (σ : AH) (I : Nat → Loc → AH → Prop) (n : Nat) (s' : Shared) : Prop
  | mk (ℓ' : Loc) (σ' : AH) (h1 : I n ℓ' σ') (h2 : LR g s'.heap σ' env ℓ') (h3 : Rel g s'.heap σ') (h4 : Ext (Own env) s.heap σ s'.heap σ') (h5 : Wv s s') : WhI g env s σ I n s'
theorem Zmv {test : Expr} {body : List Stmt} {pos : Pos} {tt : TB} {tb : TS} (ht : Znq g sc r c test tt) (hb : Zdw g sc r c body tb) : Zlc g sc r c (.While test body [] pos) (Zui tt tb) := .mk fun A env s ℓ σ Q E X h => by
  obtain ⟨I, ⟨n0, h0⟩, hI⟩ := h
  refine wpAny_While (codeAny_whileLoop (WhI g env s σ I) ?_ n0 ⟨ℓ, σ, h0, X.loc, X.rel, .refl, .refl⟩)
  rintro n s' ⟨ℓ', σ', hi, hL, hR, hx, hsm⟩
  have X' : Cx g sc r c A env s'.heap σ' ℓ' := X.stepS hL hR hx
  refine wpAny_mono (ht.run A env s' ℓ' σ' _ _ X' (hI n ℓ' σ' hi)) (fun b s₂ p => ?_) fun e s₂ p => ((p.toS X').back hx hsm).noted X fun e s' p => p.came fun e s' p => p
  obtain ⟨b', σ₂, rfl, hR2, hx2, hs2, hq⟩ := p
  have X2 := X'.step hR2 hx2
  have hx02 : Ext (Own env) s.heap σ s₂.heap σ₂ := hx.trans hx2.own
  have hs02 : Wv s s₂ := hsm.trans hs2
  cases b' with
  | true =>
    simp only [if_true]
    refine wpAny_mono (hb.run A env s₂ ℓ' σ₂ _ E X2 hq) (fun f s₃ p => ?_) fun e s₃ p => (p.back hx02 hs02).noted X fun e s' p => p.came fun e s' p => p
    obtain ⟨f', ℓ₃, σ₃, hf', hL3, hR3, hx3, hs3, hq⟩ := p
    cases f' with
    | next => cases hf'; obtain ⟨m, hm, hi'⟩ := hq; exact ⟨m, hm, ℓ₃, σ₃, hi', hL3, hR3, hx02.trans hx3, hs02.trans hs3⟩
    | cont => cases hf'; obtain ⟨m, hm, hi'⟩ := hq; exact ⟨m, hm, ℓ₃, σ₃, hi', hL3, hR3, hx02.trans hx3, hs02.trans hs3⟩
    | brk => cases hf'; exact ⟨.next, ℓ₃, σ₃, rfl, hL3, hR3, hx02.trans hx3, hs02.trans hs3, hq⟩
    | ret v => obtain ⟨u, rfl, hu⟩ := hf'; exact ⟨.ret v, ℓ₃, σ₃, ⟨u, rfl, hu⟩, hL3, hR3, hx02.trans hx3, hs02.trans hs3, hq⟩
  | false =>
    simp only [Bool.false_eq_true, if_false]
    exact wpAny_execs_nil ⟨.next, ℓ', σ₂, rfl, X2.loc, hR2, hx02, hs02, hq⟩
theorem Zjm (a I : Addr) (kvs : List (Int × V)) (ep : Nat) : Zgs g (kvs.map (·.2)) (fun σ => σ a = some (.dictI kvs ep)) I (· = I) (fun k h => h.IsValIter I a k kvs.length ep) false where
  stab := fun k h h' st _ kp => st.at fun o e => kp I o rfl e
  flds := fun k h b st e => by subst e; obtain ⟨o, ho, _, hd⟩ := st; exact ⟨o, ho, .inr ⟨_, hd⟩⟩
  self := fun k A E s Q st h => wpAny_pyIter_valiter st h
  item := fun k x A E s σ target Q hx st R iv off _ h => by
    obtain ⟨hf, us, hd, hk, hv⟩ := (R.own a _ iv).2
    have hlen : kvs.length = us.length := by have := congrArg List.length hk; simpa using this.symm
    obtain ⟨v, e, hxv⟩ := Zcy hv hx
    rw [List.getElem?_map] at e
    cases eu : us[k]? with
    | none => rw [eu] at e; cases e
    | some p =>
      obtain ⟨kk, v'⟩ := p
      rw [eu] at e; cases e
      obtain ⟨oI, hoI, hcI, hdI⟩ := id st
      refine wpAny_pyNext_values_item (hlen ▸ st) hd eu fun h' st' sb => ?_
      obtain ⟨o', ho', hc', hd'⟩ := id st'
      refine Za7 ho' hc' hd' (by decide) (h _ _ (fun b o nb e => sb.extBut b o nb e) ⟨rfl, rfl, rfl⟩ (hlen ▸ st') (VR.mono (Zcn hoI hdI sb.extBut) hxv))
  last := fun k A E s σ Q hk' hh st R iv off h => by
    obtain ⟨hf, us, hd, hk, hv⟩ := (R.own a _ iv).2
    have hlen : kvs.length = us.length := by have := congrArg List.length hk; simpa using this.symm
    refine wpAny_pyNext_values_end hh (hlen ▸ st) hd (List.getElem?_eq_none (by simpa [hlen] using hk')) fun h' eb => h { s with heap := h' } (fun b o nb e => eb b o nb e) ⟨rfl, rfl, rfl⟩
noncomputable def Zn4 (t : TE) : TI := fun ℓ σ Q E => t ℓ σ (fun x σ₁ => match x with
  | .ref a => match σ₁ a with | some (.dictI kvs ep) => Q (kvs.map (·.2)) (fun σ => σ a = some (.dictI kvs ep)) false σ₁ | _ => False
  | _ => False) E
theorem Zkh {e : Expr} {apos pos : Pos} {t : TE} (h1 : Y1 g sc r c e t) (hbase : Zdj e = false) (hline : (apos.endLine == pos.line) = true) : Zr7 g sc r c (.Call (.Attribute e (Str.ofString "values") apos) [] [] pos) (Zn4 t) := .mk fun A env s ℓ σ Q E X h => by
  refine wpAny_Call_method (Zda hbase) (Zf6 (args := []) rfl rfl) hline F.plainAttrs_dict F.slot_dict_values F.type_dict_values (wpAny_mono (h1.run A env s ℓ σ _ E X h) (fun v s₁ p => ?_) fun _ _ p => p)
  refine Wr.elim p fun x σ₁ hv hR hx hs1 hq => ?_
  cases x with
  | ref a =>
    rw [Z9.mp hv]
    simp only at hq
    split at hq
    · rename_i kvs ep e
      obtain ⟨hf, us, hd, hk, hvs⟩ := (hR.own a _ e).2
      have hlen : kvs.length = us.length := by have := congrArg List.length hk; simpa using this.symm
      have ht := Zhs hR hv (T := "dict") (by simp [Zn2, e])
      rw [Z9.mp hv] at ht
      refine ⟨ht.1, ht.2, ?_⟩
      refine Xe (g := g) (.inr (.inl ⟨_, rfl⟩)) (Xc (es := []) rfl pos env) (Calls.spliced_nil ⟨fun a o e => hR.base a o e, ?_⟩)
      refine call_meetsIn F.slot_dict_values hd.dictOf.typeIs F.entry_dict_values (F.args_dict_values_1 _) (meets_dict_values (intKind g.prog g.w) a (X8 X.gok hR e)) ⟨⟨us, hd.dictOf⟩, ?_⟩
      have kp := Yo s₁.heap { cls := .type "dict_values", data := .fields #[.ref a] }
      refine wpAny_pyIter_values (knd := intKind g.prog g.w) ⟨_, Heap.get?_push_size _ rfl, rfl, rfl⟩ (hd.push _) ?_
      rw [← hlen]
      exact Zcr (s₁ := { s₁ with heap := s₁.heap.push { cls := .type "dict_values", data := .fields #[.ref a] } }) (hR.keeps kp) (hx.trans (.keeps kp)) (hs1.trans ⟨rfl, rfl, rfl⟩) (Zjm a _ kvs ep) ⟨_, Heap.get?_push_size _ rfl, rfl, rfl⟩ (by simpa using hf) hq
    · exact hq.elim
  | _ => exact hq.elim
theorem Zes {α : Type} {t : Tgt} {inv : AH → Prop} {tifs : TB} {telt : TE} {ℓ : Loc} {σ : AH} {Q : List V → AH → Prop} {E : Addr → AH → Prop} (f : α → V) (p : α → Bool) (F : α → V) (hinv : ∀ σ', Sub σ σ' → inv σ') :
    ∀ (xs : List α) (acc : List V) (σ₀ : AH), Sub σ σ₀ → (∀ x ∈ xs, ∀ σ', Sub σ σ' → ∃ ℓ₁, (∀ P : Loc → Prop, P ℓ₁ → Xs t (f x) ℓ.bare σ' P) ∧ (∀ Qb : Bool → AH → Prop, (∀ σ'', Sub σ' σ'' → Qb (p x) σ'') → tifs ℓ₁ σ' Qb E) ∧
        (p x = true → ∀ σ'', Sub σ' σ'' → ∀ Qv : V → AH → Prop, (∀ σ₃, Sub σ'' σ₃ → Qv (F x) σ₃) → telt ℓ₁ σ'' Qv E)) →
      (∀ σ', Sub σ σ' → Q (acc ++ (xs.filter p).map F) σ') → Zet t inv tifs telt ℓ (xs.map f) acc σ₀ Q E
  | [], acc, σ₀, h0, _, h => ⟨hinv σ₀ h0, by simpa using h σ₀ h0⟩
  | x :: xs, acc, σ₀, h0, hs, h => by
    obtain ⟨ℓ₁, h1, h2, h3⟩ := hs x (.head _) σ₀ h0
    have ih := Zes (t := t) (inv := inv) (tifs := tifs) (telt := telt) (ℓ := ℓ) (E := E) (Q := Q) f p F hinv xs
    refine ⟨hinv σ₀ h0, h1 _ (h2 _ fun σ₁ s1 => ?_)⟩
    cases e : p x with
    | true =>
      refine h3 e σ₁ s1 _ fun σ₂ s2 => ih _ σ₂ ((h0.trans s1).trans s2) (fun y hy => hs y (.tail _ hy)) fun σ' hσ' => ?_
      have := h σ' hσ'
      rw [List.filter_cons_of_pos (by simpa using e)] at this
      simpa using this
    | false =>
      refine ih _ σ₁ (h0.trans s1) (fun y hy => hs y (.tail _ hy)) fun σ' hσ' => ?_
      have := h σ' hσ'
      rw [List.filter_cons_of_neg (by simp [e])] at this
      exact this
end
section
open PySem PySem.W PyProof.Rows
variable {g : Gr} {sc csc : Scope} {r : Nat} {c : Bool} {K : Frag}
theorem Zcd {s : Shared} {σ : AH} {Q : V → AH → Prop} {h' : Heap} {tk : Nat} {b : Addr} {us : Array Value} {n : Nat} {xs : List V} (R : Rel g s.heap σ) (kp : ∀ a o, s.heap.get? a = some o → h'.get? a = some o) (hb : s.heap.get? b = none) (ho : h'.get? b = some { cls := .type "list", data := .seq us n }) (hf : Y3 xs.length)
    (hv : VRs g h' xs us.toList) (hq : σ b = none → Q (.ref b) (σ.set b (.list xs))) : Wq g s σ Q (.ref b) { s with heap := h', toks := tk } :=
  ⟨.ref b, _, Z9.mpr rfl, R.alloc (ao := .list xs) kp hb ⟨hf, us, n, ho, hv⟩, .alloc kp hb, ⟨rfl, rfl, rfl⟩, hq (R.fresh hb)⟩
noncomputable def Zgx (t : TE) : TE := fun ℓ σ Q E => t ℓ σ (fun x σ₁ => match x with | .int n => 0 ≤ n ∧ Y3 n.toNat ∧ (∀ a, σ₁ a = none → Q (.ref a) (σ₁.set a (.list (Xh 0 n.toNat)))) | _ => False) E
theorem Zm7 {h : Heap} {n : Nat} {acc : List Value} (hl : acc.length = n) (hv : ∀ (i : Nat) v, acc[i]? = some v → ∃ t, v = Value.int (i : Int) t) : VRs g h (Xh 0 n) acc := by
  have key : ∀ (acc : List Value) (k : Nat), (∀ (i : Nat) v, acc[i]? = some v → ∃ t, v = Value.int ((k + i : Nat) : Int) t) → VRs g h ((List.range' k acc.length).map fun (i : Nat) => V.int (i : Int)) acc := by
    intro acc
    induction acc with
    | nil => intro k _; exact Yx
    | cons a acc ih =>
      intro k h1
      rw [List.length_cons, List.range'_succ, List.map_cons]
      refine Yg (Zx.mpr ?_) (ih (k + 1) fun i v e => ?_)
      · simpa using h1 0 a rfl
      · obtain ⟨t, q⟩ := h1 (i + 1) v (by simpa using e)
        exact ⟨t, by rw [q]; congr 1; exact Z3m⟩
  have := key acc 0 (by simpa using hv)
  rw [hl] at this
  unfold Xh
  rw [List.range_eq_range']
  simpa using this
theorem Zgo {e : Expr} {p p' pos pos' : Pos} {t : TE} (hm : (Str.ofString "list", NameKind.globalImplicit) ∈ sc.names) (hb : Yr g "list" (.type "list")) (hm' : (Str.ofString "range", NameKind.globalImplicit) ∈ sc.names) (hb' : Yr g "range" (.type "range")) (h1 : Y1 g sc r true e t) (hs : Ze2 e = false) :
    Y1 g sc r true (.Call (.Name (Str.ofString "list") p) [.Call (.Name (Str.ofString "range") p') [e] [] pos'] [] pos) (Zgx t) := .mk fun A env s ℓ σ Q E X h => by
  show wpAny _ A (do callWith pos (← eval (.Name (Str.ofString "list") p) env) [] (backTo pos (starEach [.Call (.Name (Str.ofString "range") p') [e] [] pos'] env)) (backToKw pos (keywordEach [] env))) _ _ s
  refine wpAny_bind (Yc X hm hb ?_)
  rw [Ym (es := []) env rfl]
  refine Xe (.inr (.inr ⟨_, rfl⟩)) rfl ?_
  show wpAny _ A (spliced [(false, eval (.Call (.Name (Str.ofString "range") p') [e] [] pos') env)]) _ _ s
  refine Calls.spliced_cons ?_
  show wpAny _ A (do callWith pos' (← eval (.Name (Str.ofString "range") p') env) [] (backTo pos' (starEach [e] env)) (backToKw pos' (keywordEach [] env))) _ _ s
  refine wpAny_bind (Yc X hm' hb' ?_)
  rw [Ym (es := []) env hs]
  refine Xe (.inr (.inr ⟨_, rfl⟩)) rfl ?_
  show wpAny _ A (spliced [(false, eval e env)]) _ _ s
  refine Calls.spliced_cons (wpAny_mono (h1.run A env s ℓ σ _ E X h) (fun v s₁ p => ?_) fun _ _ p => p)
  refine Wr.elim p fun x σ₁ hv hR hx hs1 hq => ?_
  refine Calls.spliced_nil ⟨fun a o e => hR.base a o e, ?_⟩
  cases x with
  | int n =>
    obtain ⟨t, rfl⟩ := Zx.mp hv
    refine call_range_1 ?_
    have kp := Yo s₁.heap { cls := .type "range", data := .fields #[.int 0 s₁.toks, .int n t, .int 1 (s₁.toks + 1)] }
    obtain ⟨h0, hf, hq⟩ := hq
    have hn : n.toNat ≤ 1000000 := hf
    have hR' := hR.keeps kp
    refine Calls.spliced_nil ⟨fun a o e => hR'.base a o e, ?_⟩
    refine call_list_range (n := n.toNat) (s := { s₁ with heap := s₁.heap.push { cls := .type "range", data := .fields #[.int 0 s₁.toks, .int n t, .int 1 (s₁.toks + 1)] }, toks := s₁.toks + 2 }) (X.room.calm rfl) (IsRange.new ..) (small_one (by decide) (by decide) (by exact Z3l h0) (by exact Z3k hn)) (by rw [rangeSize_one]; split <;> omega) (by exact Z3j hn) fun h' tk acc c' hk ho hacc => ?_
    have x1 : Ext No s.heap σ (s₁.heap.push { cls := .type "range", data := .fields #[.int 0 s₁.toks, .int n t, .int 1 (s₁.toks + 1)] }) σ₁ := hx.trans (.keeps kp)
    refine Wr.back (s₁ := { s₁ with heap := s₁.heap.push { cls := .type "range", data := .fields #[.int 0 s₁.toks, .int n t, .int 1 (s₁.toks + 1)] }, toks := s₁.toks + 2 }) x1 (hs1.trans ⟨rfl, rfl, rfl⟩) ?_
    refine Zcd (s := { s₁ with heap := s₁.heap.push { cls := .type "range", data := .fields #[.int 0 s₁.toks, .int n t, .int 1 (s₁.toks + 1)] }, toks := s₁.toks + 2 }) (xs := Xh 0 n.toNat) hR' hk (Z1 _) ho (by simpa [Xh] using hf) (Zm7 (by rw [Array.length_toList]; exact hacc.1) fun i v e => ?_) (hq _)
    obtain ⟨t, q⟩ := hacc.2 i v (by rw [← Array.getElem?_toList]; exact e)
    exact ⟨t, by rw [q]; congr 1; exact Z3i⟩
  | _ => exact hq.elim
noncomputable def Zhx (t₁ t₂ : TE) : TE := fun ℓ σ Q E => t₁ ℓ σ (fun a σ₁ => t₂ ℓ σ₁ (fun b σ₂ => ∃ l xs n, a = .ref l ∧ σ₂ l = some (.list xs) ∧ b = .int n ∧ 0 ≤ n ∧ Y3 n.toNat ∧ Y3 (xs.length * n.toNat) ∧ ∀ d, σ₂ d = none → Q (.ref d) (σ₂.set d (.list (List.replicate n.toNat xs).flatten))) E) E
theorem Zp3 {h : Heap} {xs : List V} {vs : List Value} (a : VRs g h xs vs) : ∀ n : Nat, VRs g h (List.replicate n xs).flatten (List.replicate n vs).flatten
  | 0 => Yx
  | n + 1 => by rw [List.replicate_succ, List.replicate_succ, List.flatten_cons, List.flatten_cons]; exact Zac a (Zp3 a n)
theorem Zcp {e₁ e₂ : Expr} {t₁ t₂ : TE} {pos : Pos} (h1 : Y1 g sc r c e₁ t₁) (h2 : Y1 g sc r c e₂ t₂) : Y1 g sc r c (.BinOp e₁ .Mult e₂ pos) (Zhx t₁ t₂) := .mk fun A env s ℓ σ Q E X h => by
  refine wpAny_BinOp (wpAny_mono (h1.run A env s ℓ σ _ E X h) (fun u s₁ p => ?_) fun _ _ p => p)
  refine Wr.elim p fun a σ₁ hu hR hx hs hq => ?_
  have X₁ := X.step hR hx
  refine wpAny_mono (h2.run A env s₁ ℓ σ₁ _ E X₁ hq) (fun v s₂ p => ?_) fun _ _ p => p.back hx hs
  obtain ⟨b, σ₂, hv, hR2, hx2, hs2, l, xs, n, rfl, e, rfl, h0, hn, hf, hq⟩ := p
  refine X7 (hx.trans hx2) (hs.trans hs2) ?_
  obtain ⟨t, rfl⟩ := Zx.mp hv
  rw [Z9.mp hu]
  obtain ⟨hfx, us, k, ho, hvs⟩ := (hR2.own l _ e).2
  have hlen : xs.length = us.size := by have := Zu hvs; simpa using this
  have hff : us.size * n.toNat ≤ 1000000 := by rw [← hlen]; exact hf
  have hn : n.toNat ≤ 1000000 := hn
  refine wpAny_binaryOp_repeat_ref (T := "list") (U := "int") (by decide) ⟨_, ho, rfl⟩ (fun s' => typeIs_int s' n t) noFill_list_mul F.fills_int_mul F.slot_int_rmul repeat_list F.slot_int_index.lookup
    (call_meets F.slot_int_rmul (typeIs_int s₂ n t) F.entry_int_rmul (F.args_int_rmul_2 _ _) (lm_int_rmul_list_any n t l us k none #[])
      ⟨ho, rfl, ⟨_, ho, rfl⟩, call_meets F.slot_list_mul ⟨_, ho, rfl⟩ F.entry_list_mul (F.args_list_mul_2 _ _)
        (lm_list_mul_any l us k none #[] n t (by simp [Builtin.List.listFitsIndex]; exact Z3h h0 hn) (by exact Z3g hff) (by simp [Builtin.List.listTooLong, sizeLine]; exact Z3f hff)) ⟨ho, ?_⟩⟩)
  rw [listMul_foldl_if]
  exact Zbn .refl .refl hR2 (Zp3 hvs n.toNat) (by simpa [List.length_flatten, Nat.mul_comm] using hf) hq rfl
end
section
open PySem PySem.W PyProof.Rows
variable {prog : Program} {w : World}
noncomputable def Zjg (a b : Int × Int × Int) : Bool := if a.1 = b.1 then (if a.2.1 = b.2.1 then decide (a.2.2 < b.2.2) else decide (a.2.1 < b.2.1)) else decide (a.1 < b.1)
theorem Zff {A : Around} {s : Shared} (a b : Int) (t u : Tok) : SeqAt.EqAt A s (.int a t) (.int b u) (a == b) := SeqAt.EqAt.int_int a t b u
theorem Zqm {A : Around} {E : Value → Shared → Prop} {s : Shared} {Q : Value → Shared → Prop} {p q : Addr} {op oq : Obj} {xs ys : Array Value} {n m : Nat} {a b : Int × Int × Int} {t1 t2 t3 u1 u2 u3 : Tok} {x y : Value}
    (hp : s.heap.get? p = some op) (cp : op.cls = .type "tuple") (dp : op.data = .seq xs n) (hq : s.heap.get? q = some oq) (cq : oq.cls = .type "tuple") (dq : oq.data = .seq ys m)
    (hx : xs.toList = [.int a.1 t1, .int a.2.1 t2, .int a.2.2 t3, x]) (hy : ys.toList = [.int b.1 u1, .int b.2.1 u2, .int b.2.2 u3, y]) (he : a = b → SeqAt.EqAt A.in1 s x y true) (hu : A.units < cLine)
    (h : Q (.bool (Zjg a b)) s) : wpAny (model prog w) A (richCompare .Lt (.ref p) (.ref q)) Q E s := by
  refine wpAny_richCompare_same_room (op := .Lt) ⟨_, hp, cp⟩ ⟨_, hq, cq⟩ F.slot_tuple_lt (wpAny_call_entry F.slot_tuple_lt ⟨_, hp, cp⟩ F.entry_tuple_lt ?_ (F.args_tuple_lt_2 _ _)) hu
  show wpAny _ _ (isInstance (.ref q) (.type "tuple") >>= _) _ _ s
  refine wpAny_bind (wpAny_isInstance ⟨_, hq, cq⟩ isSubtype_tuple_tuple ?_)
  simp only [Bool.not_true, Bool.false_eq_true, if_false]
  refine wpAny_bind (wpAny_tupleItemsOf hp dp ?_)
  refine wpAny_bind (wpAny_tupleItemsOf hq dq ?_)
  rw [hx, hy]
  simp only [List.zip_cons_cons, List.zip_nil_left, List.forIn_cons, List.forIn_nil]
  have lt : ∀ {P : Value → Shared → Prop} {x y : Int} {t u : Tok}, P (.bool (decide (x < y))) s → wpAny (model prog w) A.in1 (richCompare .Lt (.int x t) (.int y u)) P E s := fun {P x y t u} hP =>
    richCompare_gives (op := .Lt) (typeIs_int s _ t) (typeIs_int s _ u) F.slot_int_lt F.entry_int_lt (F.args_int_lt_2 _ _) (gives_int_lt _ _ t u) (fun x => nomatch x) hP
  refine wpAny_bind (wpAny_bind (wpAny_bind (Zff _ _ _ _ _ _ _ _ ?_)))
  by_cases h1 : a.1 = b.1
  case neg =>
    rw [if_pos (by simp [h1])]
    refine wpAny_bind (wpAny_rule (wpAny_bind (lt ?_)))
    refine wpAny_bind (wpAny_pure (wpAny_pure (wpAny_pure (wpAny_pure ⟨_, rfl, (fun e => nomatch e), ?_⟩))))
    unfold Zjg at h; rw [if_neg h1] at h; exact h
  case pos =>
    rw [if_neg (by simp [h1])]
    refine wpAny_pure (wpAny_bind (wpAny_bind (Zff _ _ _ _ _ _ _ _ ?_)))
    by_cases h2 : a.2.1 = b.2.1
    case neg =>
      rw [if_pos (by simp [h2])]
      refine wpAny_bind (wpAny_rule (wpAny_bind (lt ?_)))
      refine wpAny_bind (wpAny_pure (wpAny_pure (wpAny_pure (wpAny_pure ⟨_, rfl, (fun e => nomatch e), ?_⟩))))
      unfold Zjg at h; rw [if_pos h1, if_neg h2] at h; exact h
    case pos =>
      rw [if_neg (by simp [h2])]
      refine wpAny_pure (wpAny_bind (wpAny_bind (Zff _ _ _ _ _ _ _ _ ?_)))
      unfold Zjg at h; rw [if_pos h1, if_pos h2] at h
      by_cases h3 : a.2.2 = b.2.2
      case neg =>
        rw [if_pos (by simp [h3])]
        refine wpAny_bind (wpAny_rule (wpAny_bind (lt ?_)))
        exact wpAny_bind (wpAny_pure (wpAny_pure (wpAny_pure (wpAny_pure ⟨_, rfl, (fun e => nomatch e), h⟩))))
      case pos =>
        rw [if_neg (by simp [h3])]
        have hab : a = b := by
          obtain ⟨a1, a2, a3⟩ := a; obtain ⟨b1, b2, b3⟩ := b
          simp only at h1 h2 h3; rw [h1, h2, h3]
        refine wpAny_pure (wpAny_bind (wpAny_bind (he hab _ _ _ _ ?_)))
        rw [if_neg (by simp)]
        refine wpAny_pure (wpAny_pure ?_)
        have hsx : xs.size = 4 := by rw [← Array.length_toList, hx]; rfl
        have hsy : ys.size = 4 := by rw [← Array.length_toList, hy]; rfl
        show wpAny _ _ (ret (Builtin.Tuple.tupleCompareSizes .Lt xs.size ys.size)) _ _ _
        rw [hsx, hsy]
        refine wpAny_pure ⟨_, rfl, (fun e => nomatch e), ?_⟩
        rw [h3] at h
        simpa [Builtin.Tuple.tupleCompareSizes] using h
section
variable {A : Around} {R : Result → Shared → Prop} {I : Addr} {fp wr : List Addr} {n : Nat} {P : Nat → Value → Prop} {St : Nat → Heap → Prop} {h0 : Heap}
noncomputable def Zgr (h0 h : Heap) : Prop := ∀ b o, h0.get? b = some o → h.get? b = some o
theorem Zo6 (W : Walks prog w A.in1 I fp wr n P St) (bt : Nat → Nat → Bool) (hwr : ∀ b ∈ wr, h0.get? b = none)
    (hcmp : ∀ i j vi vj (s : Shared) (Q : Value → Shared → Prop) (E : Value → Shared → Prop), P i vi → P j vj → Zgr h0 s.heap → Q (.bool (bt i j)) s → wpAny (model prog w) A.in1 (richCompare .Lt vi vj) Q E s) (S : Addr) (hSf : S ∉ fp) (hS0 : h0.get? S = none) :
    ∀ (k j : Nat) (s : Shared) (vb : Value) (c : Nat), n - (j + 1) = k → j + 1 ≤ n → St (j + 1) s.heap → Zgr h0 s.heap → P (argBest bt j) vb →
    s.heap.get? S = some { cls := .type "list", dict := none, data := .seq #[vb, vb] c, slots := #[] } →
    (∀ v h' tk, P (argBest bt (n - 1)) v → Zgr h0 h' → R (.ok (.ret v)) { s with heap := h', toks := tk }) →
    codeAny (model prog w) A (.builtin "min.loop" ⟨[.ref I, .none, .ref S], []⟩) R s := by
  have hSw : S ∉ wr := fun h => hSf (W.sub _ h)
  have hname : (toString "min" ++ toString ".loop" : String) = "min.loop" := by decide
  have kpI : ∀ {h h' : Heap}, Zgr h0 h → (∀ b o, b ∉ wr → h.get? b = some o → h'.get? b = some o) → Zgr h0 h' := fun {h h'} k q b o e => q b o (fun hb => by rw [hwr b hb] at e; cases e) (k b o e)
  have kpS : ∀ {h : Heap} {f}, Zgr h0 h → Zgr h0 (h.update S f) := fun {h f} k b o e => (Heap.get?_update_other _ _ (fun z : S = b => by rw [← z, hS0] at e; cases e)).trans (k b o e)
  intro k
  induction k with
  | zero =>
    intro j s vb c hk hj hst kp hPb hS hR
    have hin : j + 1 = n := by exact Z3e hk hj
    refine codeAny_builtin F.entry_min_loop ?_
    rw [Around.under_plainId F.plain_min_loop _]
    show wpAny _ A.in1 (seqItems? (.ref S) >>= _) _ _ s
    refine wpAny_bind (wpAny_seqItems hS rfl ?_)
    show wpAny _ A.in1 (tryCatch (pyNext (.ref I)) _ >>= _) _ _ s
    refine wpAny_bind (wpAny_tryCatch (W.done s _ _ (hin ▸ hst) fun h' tk hk' => ?_))
    have hS' := hk' S _ hSw hS
    show wpAny _ A.in1 (updateSeq S (fun _ => #[]) >>= _) _ _ _
    refine wpAny_bind ?_
    refine wpAny_updateSeq hS' rfl (wpAny_bind (wpAny_letGo (wpAny_pure ?_)))
    exact hR vb _ tk (by rw [← hin]; exact hPb) (kpS (kpI kp hk'))
  | succ k ih =>
    intro j s vb c hk hj hst kp hPb hS hR
    have hlt : j + 1 < n := by exact Z3d hk hj
    refine codeAny_builtin F.entry_min_loop ?_
    rw [Around.under_plainId F.plain_min_loop _]
    show wpAny _ A.in1 (seqItems? (.ref S) >>= _) _ _ s
    refine wpAny_bind (wpAny_seqItems hS rfl ?_)
    show wpAny _ A.in1 (tryCatch (pyNext (.ref I)) _ >>= _) _ _ s
    refine wpAny_bind (wpAny_tryCatch (W.item (j + 1) s _ _ hlt hst fun v h' tk hP hst' hk' => ?_))
    have hS' := hk' S _ hSw hS
    have kp' := kpI kp hk'
    show wpAny _ A.in1 (tryCatch (holding [v, v] (richCompare .Lt v vb >>= _)) _ >>= _) _ _ _
    refine wpAny_bind (wpAny_tryCatch (wpAny_holding (wpAny_bind (hcmp (j + 1) (argBest bt j) v vb _ _ _ hP hPb kp' ?_))))
    refine wpAny_bind (wpAny_holding (wpAny_truthy_bool ?_))
    refine wpAny_bind (wpAny_letGo (wpAny_pure ?_))
    cases hb : bt (j + 1) (argBest bt j) with
    | true =>
      simp only [if_true]
      refine wpAny_bind ?_
      refine wpAny_updateSeq hS' rfl (wpAny_bind (wpAny_letGo ?_))
      rw [hname]
      refine wpAny_pure ⟨plainId_quiet F.plain_min_loop _, ih (j + 1) _ v _ (by exact Z2a hk hlt) hlt (W.frame _ _ _ hst' fun b hbf o e => ?_) (kpS kp') (by simp only [argBest, hb, if_true]; exact hP) (Heap.get?_update_self _ hS' rfl) fun v' h'' tk'' hP' hk'' => ?_⟩
      · exact (Heap.get?_update_other _ _ (fun h : S = b => hSf (by rw [h]; exact hbf))).trans e
      · exact hR v' h'' tk'' hP' hk''
    | false =>
      simp only [Bool.false_eq_true, if_false]
      refine wpAny_bind (wpAny_letGo ?_)
      rw [hname]
      refine wpAny_pure ⟨plainId_quiet F.plain_min_loop _, ih (j + 1) _ vb c (by exact Z2a hk hlt) hlt hst' kp' (by simp only [argBest, hb, Bool.false_eq_true, if_false]; exact hPb) hS' fun v' h'' tk'' hP' hk'' => ?_⟩
      exact hR v' h'' tk'' hP' hk''
end
theorem Zpx {A : Around} {E : Value → Shared → Prop} {s : Shared} {l : Addr} {us : Array Value} (hh : A.handled = none) (hl : s.heap.IsList l us) (hne : 0 < us.size) (bt : Nat → Nat → Bool) {Q : Value → Shared → Prop}
    (hcmp : ∀ i j vi vj (s' : Shared) (Q : Value → Shared → Prop) (E : Value → Shared → Prop), us[i]? = some vi → us[j]? = some vj → Zgr s.heap s'.heap → Q (.bool (bt i j)) s' → wpAny (model prog w) A.in1 (richCompare .Lt vi vj) Q E s')
    (h : ∀ v h' tk, us[argBest bt (us.size - 1)]? = some v → Zgr s.heap h' → Q v { s with heap := h', toks := tk }) : wpAny (model prog w) A (call (.builtin "min") [.ref l]) Q E s := by
  have hname : (toString "min" ++ toString ".loop" : String) = "min.loop" := by decide
  have hlt : l < s.heap.objs.size := by obtain ⟨_, e, _⟩ := hl; exact Heap.lt_size e
  refine call_function_tree F.kind_min F.plain_min F.entry_min (F.args_min1 _) ?_
  show wpAny _ A.in1 (Builtin.Builtins.bindParams "min" ["key", "default"] 0 ⟨[], []⟩ >>= _) _ _ s
  refine wpAny_bind (wpAny_of_eq (show Builtin.Builtins.bindParams "min" ["key", "default"] 0 ⟨[], []⟩ = pure [none, none] from rfl) ?_)
  refine wpAny_bind (wpAny_pure ?_)
  refine wpAny_bind (wpAny_pyIter_list hl ?_)
  have W := Walks.list (prog := prog) (w := w) (A := A.in1) (by exact hh) s.heap.objs.size l (Nat.ne_of_lt hlt) us
  refine wpAny_bind (wpAny_newObj_type ?_)
  rw [hname]
  have kp1 := Yo s.heap { cls := .type "list_iterator", data := .fields #[.ref l, .int 0 0] }
  have st0 : (fun i h => Heap.IsListIter h s.heap.objs.size l i ∧ h.IsList l us) 0 (s.heap.push { cls := .type "list_iterator", data := .fields #[.ref l, .int 0 0] }) := ⟨⟨_, Heap.get?_push_size _ rfl, rfl, rfl⟩, hl.push _⟩
  have hsz : (s.heap.push { cls := .type "list_iterator", data := .fields #[.ref l, .int 0 0] }).objs.size = s.heap.objs.size + 1 := size_push' _ _
  have hSf : (s.heap.push { cls := .type "list_iterator", data := .fields #[.ref l, .int 0 0] }).objs.size ∉ [s.heap.objs.size, l] := by
    rw [hsz]; simp; exact fun q => by have h2 : s.heap.objs.size < s.heap.objs.size + 1 := Nat.lt_succ_self _; rw [q] at h2; exact Nat.lt_asymm hlt h2
  have kp2 := Yo (s.heap.push { cls := .type "list_iterator", data := .fields #[.ref l, .int 0 0] }) { cls := .type "list", data := .seq #[] }
  refine wpAny_pure ⟨plainId_quiet F.plain_min_loop _, ?_⟩
  refine codeAny_builtin F.entry_min_loop ?_
  rw [Around.under_plainId F.plain_min_loop _]
  show wpAny _ A.in1 (seqItems? (.ref (s.heap.push { cls := .type "list_iterator", data := .fields #[.ref l, .int 0 0] }).objs.size) >>= _) _ _ _
  refine wpAny_bind (wpAny_seqItems (Heap.get?_push_size _ rfl) rfl ?_)
  show wpAny _ A.in1 (tryCatch (pyNext (.ref s.heap.objs.size)) _ >>= _) _ _ _
  refine wpAny_bind (wpAny_tryCatch (W.item 0 _ _ _ hne (W.frame _ _ _ st0 fun b _ o e => kp2 b o e) fun v h' tk hP hst' hk' => ?_))
  have hS' := hk' (s.heap.push { cls := .type "list_iterator", data := .fields #[.ref l, .int 0 0] }).objs.size _ (by rw [hsz]; simp) (Heap.get?_push_size _ rfl)
  show wpAny _ A.in1 (updateSeq (s.heap.push { cls := .type "list_iterator", data := .fields #[.ref l, .int 0 0] }).objs.size (fun _ => #[v, v]) >>= _) _ _ _
  refine wpAny_bind ?_
  refine wpAny_updateSeq hS' rfl ?_
  rw [hname]
  have hS0 : s.heap.get? (s.heap.push { cls := .type "list_iterator", data := .fields #[.ref l, .int 0 0] }).objs.size = none := Heap.get?_none_of_le (by rw [hsz]; exact Nat.le_succ _)
  have kp3 : Zgr s.heap h' := fun b o e => hk' b o (by simp; exact Nat.ne_of_lt (Heap.lt_size e)) (kp2 b o (kp1 b o e))
  refine wpAny_pure ⟨plainId_quiet F.plain_min_loop _, Zo6 (h0 := s.heap) W bt (fun b hb => ?_) hcmp _ hSf hS0 _ 0 _ v _ rfl hne (W.frame _ _ _ hst' fun b hbf o e => ?_) (fun b o e => ?_) hP (Heap.get?_update_self _ hS' rfl) fun v' h'' tk'' hP' hk'' => ?_⟩
  · simp at hb; subst hb; exact Z1 _
  · exact (Heap.get?_update_other _ _ (fun z => hSf (by rw [z]; exact hbf))).trans e
  · exact (Heap.get?_update_other _ _ (fun z => by rw [z] at hS0; rw [hS0] at e; cases e)).trans (kp3 b o e)
  · exact h v' h'' tk'' hP' hk''
variable {g : Gr} {sc : Scope} {r : Nat} {c : Bool}
noncomputable def Zka (t : Int × Int × Int × Addr) : V := .tup [.int t.1, .int t.2.1, .int t.2.2.1, .ref t.2.2.2]
noncomputable def tri (t : Int × Int × Int × Addr) : Int × Int × Int := (t.1, t.2.1, t.2.2.1)
inductive Zwj (xs : List V) (σ : AH) (Q : V → AH → Prop) : Prop
  | mk (a : Addr) (es : List (Int × Int × Int × Addr)) (h1 : xs = [.ref a]) (h2 : σ a = some (.list (es.map Zka))) (h3 : es ≠ []) (h4 : ∀ t ∈ es, ∃ ns : List Int, σ t.2.2.2 = some (.list (ns.map V.int)) ∧ ∀ t' ∈ es, tri t = tri t' → σ t'.2.2.2 = some (.list (ns.map V.int)))
    (h5 : ∀ t ∈ es, (∀ t' ∈ es, Zjg (tri t') (tri t) = false) → Q (Zka t) σ) : Zwj xs σ Q
noncomputable def Zwx : TF := fun xs σ Q _ => Zwj xs σ Q
theorem Z2p {a b : Int} {P : Prop} [Decidable P] : (if a = b then decide P else decide (a < b)) = true ↔ a < b ∨ a = b ∧ P := by
  by_cases h : a = b
  · rw [if_pos h, decide_eq_true_iff]; exact ⟨fun p => .inr ⟨h, p⟩, fun q => q.elim (fun l => absurd h (Int.ne_of_lt l)) And.right⟩
  · rw [if_neg h, decide_eq_true_iff]; exact ⟨.inl, fun q => q.elim id fun q => absurd q.1 h⟩
theorem Zl0 {a b : Int × Int × Int} : Zjg a b = true ↔ a.1 < b.1 ∨ a.1 = b.1 ∧ (a.2.1 < b.2.1 ∨ a.2.1 = b.2.1 ∧ a.2.2 < b.2.2) := by
  rw [← Z2p (a := a.2.1) (b := b.2.1), ← Z2p (a := a.1) (b := b.1), Bool.decide_eq_true]; exact Iff.rfl
theorem Zd9 {a b : Int × Int × Int} : Zjg a b = false ↔ ¬ (a.1 < b.1 ∨ a.1 = b.1 ∧ (a.2.1 < b.2.1 ∨ a.2.1 = b.2.1 ∧ a.2.2 < b.2.2)) := by rw [← Zl0, Bool.not_eq_true]
theorem Z2o {a b c : Int} {P Q R : Prop} (h : a < b ∨ a = b ∧ P) (k : b < c ∨ b = c ∧ Q) (f : P → Q → R) : a < c ∨ a = c ∧ R :=
  h.elim (fun h => k.elim (fun k => .inl (Int.lt_trans h k)) fun k => .inl (k.1 ▸ h)) fun h => k.elim (fun k => .inl (h.1 ▸ k)) fun k => .inr ⟨h.1.trans k.1, f h.2 k.2⟩
theorem Z2q {a b : Int} {P Q : Prop} (h : ¬(a < b ∨ a = b ∧ P)) (k : ¬(b < a ∨ b = a ∧ Q)) : a = b ∧ ¬P ∧ ¬Q := by
  have e : a = b := Int.le_antisymm (Int.not_lt.1 fun x => k (.inl x)) (Int.not_lt.1 fun x => h (.inl x))
  exact ⟨e, fun p => h (.inr ⟨e, p⟩), fun q => k (.inr ⟨e.symm, q⟩)⟩
theorem Zjf (a : Int × Int × Int) : Zjg a a = false := Zd9.2 fun h => h.elim (Int.lt_irrefl _) fun h => h.2.elim (Int.lt_irrefl _) fun h => Int.lt_irrefl _ h.2
theorem Zhc (val : Nat → Int × Int × Int) : ∀ k i, i ≤ k → Zjg (val i) (val (argBest (fun i j => Zjg (val i) (val j)) k)) = false
  | 0, i, h => by rw [Nat.le_zero.1 h]; exact Zjf _
  | k + 1, i, h => by
    have ih := Zhc val k
    unfold argBest
    split
    · rename_i q
      rcases Nat.lt_or_ge i (k + 1) with w | w
      · exact Zd9.2 fun z => Zd9.1 (ih i (Nat.le_of_lt_succ w)) (Z2o z (Zl0.1 q) fun z q => Z2o z q Int.lt_trans)
      · rw [Nat.le_antisymm h w]; exact Zjf _
    · rename_i q
      rcases Nat.lt_or_ge i (k + 1) with w | w
      · exact ih i (Nat.le_of_lt_succ w)
      · rw [Nat.le_antisymm h w]; exact Bool.eq_false_iff.2 q
theorem Zti {a b : Int × Int × Int} (h1 : Zjg b a = false) (h2 : Zjg a b = false) : a = b := by
  have p := Z2q (Zd9.1 h2) (Zd9.1 h1)
  have q := Z2q p.2.1 p.2.2
  exact Prod.ext p.1 (Prod.ext q.1 (Int.le_antisymm (Int.not_lt.1 q.2.2) (Int.not_lt.1 q.2.1)))
theorem Zia {h : Heap} {es : List (Int × Int × Int × Addr)} {vs : List Value} (hv : VRs g h (es.map Zka) vs) {i : Nat} {v : Value} (e : vs[i]? = some v) : ∃ t, es[i]? = some t ∧ ∃ a o us n t1 t2 t3, v = .ref a ∧ h.get? a = some o ∧ o.cls = .type "tuple" ∧ o.data = .seq us n ∧ us.toList = [.int (tri t).1 t1, .int (tri t).2.1 t2, .int (tri t).2.2 t3, .ref t.2.2.2] := by
  have hlen := Zu hv
  have hi : i < es.length := by
    rcases Nat.lt_or_ge i es.length with q | q
    · exact q
    · rw [List.getElem?_eq_none (by rw [← hlen]; simpa using q)] at e; cases e
  obtain ⟨u, e', hu⟩ := Zcy hv (i := i) (x := Zka es[i]) (by simp [hi])
  rw [e] at e'; cases e'
  refine ⟨es[i], by simp [hi], ?_⟩
  obtain ⟨_, a, o, us, n, rfl, _, ho, hc, hd, hvs⟩ := Xn.mp hu
  obtain ⟨u1, r1, q1, h1, hvs⟩ := Zi hvs
  obtain ⟨u2, r2, rfl, h2, hvs⟩ := Zi hvs; clear hvs
  obtain ⟨u3, r3, rfl, h3, hvs⟩ := Zi hvs; clear hvs
  obtain ⟨u4, r4, rfl, h4, hvs⟩ := Zi hvs; clear hvs
  rw [Zr hvs] at q1
  obtain ⟨t1, rfl⟩ := Zx.mp h1
  obtain ⟨t2, rfl⟩ := Zx.mp h2
  obtain ⟨t3, rfl⟩ := Zx.mp h3
  rw [Z9.mp h4] at q1
  exact ⟨a, o, us, n, t1, t2, t3, rfl, ho, hc, hd, q1⟩
theorem Zof : Zdb g r (.builtin "min") Zwx := .mk fun A s σ xs vs Q E G F Rm R hv h => by
  obtain ⟨a, es, rfl, ea, hne, hsame, h⟩ := h
  obtain ⟨v, _, rfl, hx, hr⟩ := Zi hv
  rw [Zr hr, Z9.mp hx]
  obtain ⟨hf, us, n, ho, hvs⟩ := (R.own a _ ea).2
  have hlen : es.length = us.size := by have := Zu hvs; simpa using this
  have hpos : 0 < us.size := by rw [← hlen]; exact List.length_pos_iff.mpr hne
  refine Zpx (Rm.calm rfl) ⟨_, ho, rfl, n, rfl⟩ hpos (fun i j => Zjg (tri (es.getD i (0, 0, 0, 0))) (tri (es.getD j (0, 0, 0, 0)))) (fun i j vi vj s' Q' E' hi hj kp hq => ?_) fun v h' tk hv' kp => ?_
  · obtain ⟨ti, ei, pa, po, pus, pn, t1, t2, t3, rfl, ho1, hc1, hd1, hl1⟩ := Zia hvs (by rw [Array.getElem?_toList]; exact hi)
    obtain ⟨tj, ej, qa, qo, qus, qn, u1, u2, u3, rfl, ho2, hc2, hd2, hl2⟩ := Zia hvs (by rw [Array.getElem?_toList]; exact hj)
    have di : es.getD i (0, 0, 0, 0) = ti := by rw [List.getD_eq_getElem?_getD, ei]; rfl
    have dj : es.getD j (0, 0, 0, 0) = tj := by rw [List.getD_eq_getElem?_getD, ej]; rfl
    rw [di, dj] at hq
    refine Zqm (kp _ _ ho1) hc1 hd1 (kp _ _ ho2) hc2 hd2 hl1 hl2 (fun e => ?_) (by have := Rm.cline; show A.units + 1 < _; exact Zvc this) hq
    obtain ⟨ns, e1, e2⟩ := hsame ti (List.mem_of_getElem? ei)
    have e2 := e2 tj (List.mem_of_getElem? ej) e
    by_cases z : ti.2.2.2 = tj.2.2.2
    · rw [z]; exact SeqAt.EqAt.same _
    · obtain ⟨_, lu, ln, lo, lv⟩ := (R.own _ _ e1).2
      obtain ⟨_, mu, mn, mo, mv⟩ := (R.own _ _ e2).2
      have hi1 := Zb0 lv
      have hi2 := Zb0 mv
      have ll : lu.size = mu.size := by
        have h1 := Zu lv; have h2 := Zu mv
        simp at h1 h2; exact Z3c h1 h2
      refine SeqAt.EqAt.of_refs z ?_
      have hall : (List.range lu.size).all (fun _ => true) = true := by simp
      rw [← hall]
      refine SeqAt.RcAt.lists ⟨_, kp _ _ lo, rfl, ln, rfl⟩ ⟨_, kp _ _ mo, rfl, mn, rfl⟩ ll (by have := Rm.cline; show A.units + 1 + 1 < _; exact Z3b this) fun k h1 h2 => ?_
      obtain ⟨t, q1⟩ := Zee lv k lu[k] (by simp [h1])
      obtain ⟨u, q2⟩ := Zee mv k mu[k] (by simp [h2])
      rw [q1, q2]
      have := Zff (A := A.in1.in1.in1) (s := s') (ns.getD k 0) (ns.getD k 0) t u
      simpa using this
  · obtain ⟨t, et, _⟩ := Zia hvs (by rw [Array.getElem?_toList]; exact hv')
    have hb := Zeu (fun i j => Zjg (tri (es.getD i (0, 0, 0, 0))) (tri (es.getD j (0, 0, 0, 0)))) (us.size - 1)
    obtain ⟨w, e', hw⟩ := Zcy hvs (i := argBest (fun i j => Zjg (tri (es.getD i (0, 0, 0, 0))) (tri (es.getD j (0, 0, 0, 0)))) (us.size - 1)) (x := Zka t) (by rw [List.getElem?_map, et]; rfl)
    rw [Array.getElem?_toList, hv'] at e'; cases e'
    refine .keeps kp ⟨rfl, rfl, rfl⟩ (VR.mono (fun a o _ _ _ e _ _ => .of (kp a o e)) hw) R (h t (List.mem_of_getElem? et) fun t' ht' => ?_)
    obtain ⟨i, hi, rfl⟩ := List.getElem_of_mem ht'
    have := Zhc (fun i => tri (es.getD i (0, 0, 0, 0))) (us.size - 1) i (by exact Z3a hlen hpos hi)
    have d1 : es.getD (argBest (fun i j => Zjg (tri (es.getD i (0, 0, 0, 0))) (tri (es.getD j (0, 0, 0, 0)))) (us.size - 1)) (0, 0, 0, 0) = t := by rw [List.getD_eq_getElem?_getD, et]; rfl
    have d2 : es.getD i (0, 0, 0, 0) = es[i] := by simp [hi]
    simp only [d1, d2] at this
    exact this
end
section
open PySem PySem.W PyProof.Rows
variable {g : Gr} {sc csc : Scope} {r : Nat} {c : Bool} {K : Frag}
noncomputable def Zn7 : TE := fun _ σ Q _ => ∀ a ep, σ a = none → Q (.ref a) (σ.set a (.dictI [] ep))
theorem Zem {pos : Pos} : Y1 g sc r c (.Dict [] [] pos) Zn7 := .mk fun A env s ℓ σ Q E X h => by
  refine wpAny_Dict_empty ?_
  have kp := Yo s.heap { cls := .type "dict", data := .dict #[] }
  have hD : (s.heap.push { cls := .type "dict", data := .dict #[] }).DictOf (intKind g.prog g.w) s.heap.objs.size [] := Heap.DictOf.new s.heap
  obtain ⟨ep, hD⟩ := Zb5 hD
  exact ⟨.ref s.heap.objs.size, σ.set s.heap.objs.size (.dictI [] ep), Z9.mpr rfl, X.rel.alloc kp (Z1 _) ⟨Yn rfl, [], hD, rfl, Yx⟩, .alloc kp (Z1 _), ⟨rfl, rfl, rfl⟩, h _ _ (X.rel.fresh (Z1 _))⟩
noncomputable def Zev (t : TE) : Prop := ∀ ℓ σ Q E, t ℓ σ Q E → ∃ x, Q x σ ∧ ∀ σ' (Q' : V → AH → Prop) E', Q' x σ' → t ℓ σ' Q' E'
theorem Zd0 {x : V} : Zev (Zq x) := fun ℓ σ Q E h => ⟨x, h, fun _ _ _ q => q⟩
theorem Zhr {σ : AH} {a : Addr} {o p : AO} : (σ.set a o).set a p = σ.set a p := by
  funext b; unfold AH.set; split <;> rfl
noncomputable def Zsj (k₁ v₁ k₂ v₂ : TE) : TE := fun ℓ σ Q E => k₁ ℓ σ (fun a σ₁ => v₁ ℓ σ₁ (fun x σ₂ => k₂ ℓ σ₂ (fun b σ₃ => v₂ ℓ σ₃ (fun y σ₄ => ∃ ka kb, a = .str ka ∧ b = .str kb ∧ ka ≠ kb ∧ ∀ d ep, σ₄ d = none → Q (.ref d) (σ₄.set d (.dictS [(ka, x), (kb, y)] ep))) E) E) E) E
theorem Zm1 {e₁ e₂ e₃ e₄ : Expr} {pos : Pos} {k₁ v₁ k₂ v₂ : TE} (u1 : Zev k₁) (u2 : Zev v₁) (u3 : Zev k₂) (u4 : Zev v₂) (h1 : Y1 g sc r c e₁ k₁) (h2 : Y1 g sc r c e₂ v₁) (h3 : Y1 g sc r c e₃ k₂) (h4 : Y1 g sc r c e₄ v₂) :
    Y1 g sc r c (.Dict [some e₁, some e₃] [e₂, e₄] pos) (Zsj k₁ v₁ k₂ v₂) := .mk fun A env s ℓ σ Q E X h => by
  obtain ⟨a, h, f1⟩ := u1 _ _ _ _ h
  obtain ⟨x, h, f2⟩ := u2 _ _ _ _ h
  obtain ⟨b, h, f3⟩ := u3 _ _ _ _ h
  obtain ⟨y, ⟨ka, kb, rfl, rfl, hne, h⟩, f4⟩ := u4 _ _ _ _ h
  refine wpAny_Dict_pairs (knd := strKind g.prog g.w) (pairs := [(eval e₁ env, do let x ← eval e₂ env; standAt pos; pure x), (eval e₃ env, do let x ← eval e₄ env; standAt pos; pure x)]) rfl (by simp) (by simp) ?_
  have kp := Yo s.heap { cls := .type "dict", data := .dict #[] }
  obtain ⟨ep, hD⟩ := Zb5 (Heap.DictOf.new (knd := strKind g.prog g.w) s.heap)
  have off : σ s.heap.objs.size = none := X.rel.fresh (Z1 _)
  have R0 : Rel g (s.heap.push { cls := .type "dict", data := .dict #[] }) (σ.set s.heap.objs.size (.dictS [] ep)) := X.rel.alloc kp (Z1 _) ⟨Yn rfl, [], hD, rfl, Yx⟩
  have x0 : Ext No s.heap σ (s.heap.push { cls := .type "dict", data := .dict #[] }) (σ.set s.heap.objs.size (.dictS [] ep)) := .alloc kp (Z1 _)
  have X0 : Cx g sc r c A env ({ s with heap := s.heap.push { cls := .type "dict", data := .dict #[] } } : Shared).heap (σ.set s.heap.objs.size (.dictS [] ep)) ℓ := X.step R0 x0
  have key : ∀ {e : Expr} {t : TE} {v : V}, Y1 g sc r c e t → (∀ σ' (Q' : V → AH → Prop) E', Q' v σ' → t ℓ σ' Q' E') → ∀ {s₁ : Shared} {P : Value → Shared → Prop}, Cx g sc r c A env s₁.heap (σ.set s.heap.objs.size (.dictS [] ep)) ℓ →
      Ext No s.heap σ s₁.heap (σ.set s.heap.objs.size (.dictS [] ep)) → Wv s s₁ → (∀ u s₂, VR g s₂.heap v u → Cx g sc r c A env s₂.heap (σ.set s.heap.objs.size (.dictS [] ep)) ℓ → Ext No s₁.heap (σ.set s.heap.objs.size (.dictS [] ep)) s₂.heap (σ.set s.heap.objs.size (.dictS [] ep)) → Wv s s₂ → P u s₂) →
      wpAny (model g.prog g.w) A (eval e env) P (Xx g A s σ E) s₁ := fun {e t v} hS f {s₁ P} X1 x1 sm k => by
    refine wpAny_mono (hS.run A env s₁ ℓ _ (fun w σ'' => w = v ∧ σ'' = σ.set s.heap.objs.size (.dictS [] ep)) E X1 (f _ _ _ ⟨rfl, rfl⟩)) (fun u s₂ p => ?_) fun _ _ p => p.back x1 sm
    obtain ⟨w, σ₂, hv, hR, hx, hs, rfl, rfl⟩ := p
    exact k u s₂ hv (X1.step hR hx) hx (sm.trans hs)
  refine evalPairs_cons (key h1 f1 X0 x0 ⟨rfl, rfl, rfl⟩ fun va s₁ hva X1 y1 m1 => ?_)
  refine wpAny_bind (key h2 f2 X1 (x0.trans y1) m1 fun vx s₂ hvx X2 y2 m2 => wpAny_bind (wpAny_standAt (wpAny_pure ?_)))
  refine evalPairs_cons (key h3 f3 X2 ((x0.trans y1).trans y2) m2 fun vb s₃ hvb X3 y3 m3 => ?_)
  refine wpAny_bind (key h4 f4 X3 (((x0.trans y1).trans y2).trans y3) m3 fun vy s₄ hvy X4 y4 m4 => wpAny_bind (wpAny_standAt (wpAny_pure ?_)))
  refine evalPairs_nil ?_
  obtain ⟨fa, ta, rfl⟩ := Z8.mp hva
  obtain ⟨fb, tb, rfl⟩ := Z8.mp hvb
  have hvx4 := (y3.trans y4).vr X2.rel Yw hvx
  have e0 : (σ.set s.heap.objs.size (.dictS [] ep)) s.heap.objs.size = some (.dictS [] ep) := Zd
  obtain ⟨_, us, hd, hk, _⟩ := (X4.rel.own _ _ e0).2
  have hus : us = [] := by cases us with | nil => rfl | cons _ _ => simp at hk
  subst hus
  refine ⟨[(ka, vx), (kb, vy)], ⟨strKind_is _ _ ka ta, rfl, strKind_is _ _ kb tb, rfl, trivial⟩, hd.dictOf, fun h' hd' sb => ?_⟩
  have hm : merged ([] : List (Str × Value)) [(ka, vx), (kb, vy)] = [(ka, vx), (kb, vy)] := by
    simp [merged, stored, hne]
  rw [hm] at hd'
  obtain ⟨ep', hd'⟩ := Zb5 hd'
  have tk : Yh g s₄.heap h' := fun z o us m _ q cc d => by
    obtain ⟨o₀, e₀, c₀⟩ := Zbg (X4.rel.own _ _ e0).2
    refine .of (sb.extBut z o (fun w => ?_) q)
    subst w; rw [e₀] at q; cases q; exact c₀ _ _ cc d
  have hor : OR g h' s.heap.objs.size (.dictS [(ka, x), (kb, y)] ep') := ⟨Yn rfl, _, hd', rfl, Yg (VR.mono tk hvx4) (Yg (VR.mono tk hvy) Yx)⟩
  have pr : ∃ o, h'.get? s.heap.objs.size = some o := let ⟨o, q, _⟩ := Zbg hor; ⟨o, q⟩
  have R5 := X4.rel.upd e0 sb hor
  have x5 : Ext No s₄.heap (σ.set s.heap.objs.size (.dictS [] ep)) h' ((σ.set s.heap.objs.size (.dictS [] ep)).set s.heap.objs.size (.dictS [(ka, x), (kb, y)] ep')) := .upd e0 sb pr
  rw [Zhr] at R5 x5
  exact ⟨.ref _, _, Z9.mpr rfl, R5, ((((x0.trans y1).trans y2).trans y3).trans y4).trans x5, m4.trans ⟨rfl, rfl, rfl⟩, h _ _ off⟩
variable {g : Gr} {sc csc : Scope} {r : Nat} {c : Bool} {K : Frag}
noncomputable def Zwm : TF := fun xs σ Q _ => match xs with
  | [.ref a, .int k] => match σ a with
    | some (.dictI kvs _) => ∃ v, kvs.lookup k = some v ∧ ∀ ep, Q v (σ.set a (.dictI (kvs.filter fun kv => decide (kv.1 ≠ k)) ep))
    | _ => False
  | _ => False
theorem Zhn {K' : Type} [DecidableEq K'] {h : Heap} (p : K' → Bool) : ∀ {us : List (K' × Value)} {kvs : List (K' × V)}, us.map (·.1) = kvs.map (·.1) → VRs g h (kvs.map (·.2)) (us.map (·.2)) →
    (us.filter fun u => p u.1).map (·.1) = (kvs.filter fun u => p u.1).map (·.1) ∧ VRs g h ((kvs.filter fun u => p u.1).map (·.2)) ((us.filter fun u => p u.1).map (·.2))
  | [], [], _, _ => ⟨rfl, Yx⟩
  | [], _ :: _, hk, _ => by simp at hk
  | _ :: _, [], hk, _ => by simp at hk
  | u :: us, kv :: kvs, hk, hv => by
    simp only [List.map_cons, List.cons.injEq] at hk
    obtain ⟨w, ws, hw, hv1, hv2⟩ := Zi hv
    simp only [List.map_cons, List.cons.injEq] at hw
    obtain ⟨rfl, rfl⟩ := hw
    obtain ⟨i1, i2⟩ := Zhn p hk.2 hv2
    cases q : p kv.1 with
    | true =>
      have q' : p u.1 = true := by rw [hk.1]; exact q
      rw [List.filter_cons_of_pos (by simpa using q'), List.filter_cons_of_pos (by simpa using q)]
      exact ⟨by simp [hk.1, i1], Yg hv1 i2⟩
    | false =>
      have q' : p u.1 = false := by rw [hk.1]; exact q
      rw [List.filter_cons_of_neg (by simp [q']), List.filter_cons_of_neg (by simp [q])]
      exact ⟨i1, i2⟩
theorem Zib {s : Shared} {σ : AH} {Q : V → AH → Prop} {a : Addr} {ao ao' : AO} {h' : Heap} {tk : Nat} {v : Value} {x : V} (R : Rel g s.heap σ) (e : σ a = some ao) (sb : Heap.SameBut a s.heap h') (ho : Yh g s.heap h' → OR g h' a ao') (hv : VR g s.heap x v) (hq : Q x (σ.set a ao')) : Wq g s σ Q v { s with heap := h', toks := tk } := by
  obtain ⟨o₀, e₀, c₀⟩ := Zbg (R.own a _ e).2
  have tks : Yh g s.heap h' := fun b o us m _ q cc d => by
    refine .of (sb.extBut b o (fun z => ?_) q)
    subst z; rw [e₀] at q; cases q; exact c₀ _ _ cc d
  have hor := ho tks
  have pr : ∃ o, h'.get? a = some o := let ⟨o, q, _⟩ := Zbg hor; ⟨o, q⟩
  exact ⟨x, _, VR.mono tks hv, R.upd e sb hor, .upd e sb pr, ⟨rfl, rfl, rfl⟩, hq⟩
theorem Zqs : Zdb g r (.builtin "dict.pop") Zwm := .mk fun A s σ xs vs Q E G F Rm R hv h => by
  unfold Zwm at h
  split at h
  · rename_i a k
    obtain ⟨v, _, rfl, ha, hr⟩ := Zi hv
    obtain ⟨u, _, rfl, hx, hr⟩ := Zi hr; clear hr
    rw [Zr hr, Z9.mp ha]
    obtain ⟨t, rfl⟩ := Zx.mp hx
    split at h
    · rename_i kvs ep e
      obtain ⟨x, hl, h⟩ := h
      obtain ⟨hf, us, hd, hk, hvs⟩ := (R.own a _ e).2
      have hlen : kvs.length = us.length := by have := congrArg List.length hk; simpa using this.symm
      obtain ⟨xv, hat, hxv⟩ := Zcv hk hvs hl
      refine call_meetsIn PySem.F.slot_dict_pop hd.dictOf.typeIs PySem.F.entry_dict_pop (PySem.F.args_dict_pop_2 _ _) (meets_dict_pop_there (intKind g.prog g.w) _ (intKind_is _ _ k t) [] (.inl rfl) (by rfl)) ⟨us, xv, hd.dictOf, by rw [← hlen]; exact hf.line, hat, fun h' hd' sb => ?_⟩
      obtain ⟨ep', hd'⟩ := Zb5 hd'
      refine Zib (ao' := .dictI (kvs.filter fun kv => decide (kv.1 ≠ k)) ep') R e sb (fun tk => ?_) hxv (h ep')
      obtain ⟨i1, i2⟩ := Zhn (fun q => decide (q ≠ k)) hk hvs
      exact ⟨hf.le (List.length_filter_le _ _), _, hd', i1, VRs.mono tk i2⟩
    · exact h.elim
  · exact h.elim
noncomputable def Zfe (x : V) (σ : AH) : Option (List Int) := match x with
  | .ref a => match σ a with
    | some (.list xs) => Zjq xs
    | some (.dictI kvs _) => some (kvs.map (·.1))
    | _ => none
  | _ => none
noncomputable def Zfk : TF := fun xs σ Q _ => match xs with
  | [x] => match Zfe x σ with
    | some ns => ns.length < 64 ∧ ∀ (ns' : List Int) b, ns'.Perm ns → ns'.Pairwise (· ≤ ·) → σ b = none → Q (.ref b) (σ.set b (.list (ns'.map V.int)))
    | none => False
  | _ => False
theorem Zgj {h : Heap} : ∀ {vs : List Value} {ns : List Int}, IntsAre vs ns → VRs g h (ns.map V.int) vs := fun {vs ns} a => by
  induction a with
  | nil => exact Yx
  | cons n t _ ih => exact Yg (Zx.mpr ⟨t, rfl⟩) ih
theorem Ze3 {us : List (Int × Value)} {P : Nat → Value → Prop} : ∀ (vs : List Value) (ks : List Int), vs.length = ks.length → (∀ (i : Nat) (v : Value), vs[i]? = some v → ∃ k, ks[i]? = some k ∧ ∃ t, v = Value.int k t) → IntsAre vs ks
  | [], [], _, _ => .nil
  | [], _ :: _, h, _ => by simp at h
  | _ :: _, [], h, _ => by simp at h
  | v :: vs, k :: ks, h, q => by
    obtain ⟨k', e, t, rfl⟩ := q 0 v rfl
    simp at e; subst e
    exact .cons _ t (Ze3 (us := us) (P := P) vs ks (by simpa using h) fun i v e => by simpa using q (i + 1) v (by simpa using e))
variable {g : Gr} {sc csc : Scope} {r : Nat} {c : Bool} {K : Frag}
theorem Zb8 : Zdb g r (.builtin "sorted") Zfk := .mk fun A s σ xs vs Q E G F Rm R hv h => by
  match xs, hv, h with
  | [x], hv, h =>
    obtain ⟨v, _, rfl, hx, hr⟩ := Zi hv
    rw [Zr hr]
    simp only [Zfk] at h
    split at h
    · rename_i ns e
      obtain ⟨h64, h⟩ := h
      have hfit : ∀ ns' : List Int, ns'.Perm ns → Y3 (ns'.map V.int).length := fun ns' p => by rw [List.length_map, p.length_eq]; unfold Y3; exact Nat.le_of_lt (Nat.lt_of_lt_of_le h64 (by decide))
      cases x with
      | ref a =>
        rw [Z9.mp hx]
        simp only [Zfe] at e
        split at e
        · rename_i ys q
          obtain ⟨_, us, n, ho, hvs⟩ := (R.own a _ q).2
          rw [Zf4 e] at hvs
          have hI := Zb0 hvs
          refine sorted_ints (vs := us.toList) ⟨_, ho, rfl, n, by simp⟩ hI (by have := Zu hvs; simp at this ⊢; exact Z29 h64 this) fun out ns' a1 a2 a3 => ?_
          obtain ⟨e', he⟩ := sortedAll_at s.heap us.toList out
          exact Zcd (tk := s.toks) R (fun _ _ => sortedAll_old) (Heap.get?_none_of_le (Nat.le_succ _)) he (hfit _ a2) (Zgj a1) fun f => h ns' _ a2 a3 f
        · rename_i kvs ep q
          cases e
          obtain ⟨hf, us, hd, hk, hvs⟩ := (R.own a _ q).2
          have hlen : kvs.length = us.length := by have := congrArg List.length hk; simpa using this.symm
          refine Calls.call_function_entry kind_sorted plain_sorted entry_sorted (args_sorted1 _) ?_
          unfold Builtin.«sorted»
          refine wpAny_bind (m := checkCount "sorted" 1 1 _) (wpAny_pure ?_)
          refine wpAny_bind (kdu_collect (A := A.in1) (kdl_dict (knd := intKind g.prog g.w) (kvs := us) (ep := ep) (X8 G R q)) (by show A.handled = none; exact Rm.calm rfl) hd (by rw [← hlen]; exact hf.line) fun h' tk acc hkp hacc => ?_)
          have hl : acc.toList.length = us.length := by rw [Array.length_toList]; exact hacc.1
          have h64' : acc.toList.length < 64 := by rw [hl, ← hlen]; simpa using h64
          refine wpAny_bind (wpAny_newList ?_ (by rw [hl, ← hlen]; exact hf.line))
          have hI : IntsAre acc.toList (kvs.map (·.1)) := by
            refine Ze3 (us := us) (P := fun _ _ => True) _ _ (by rw [hl, ← hlen]; simp) fun i v e => ?_
            obtain ⟨k, x, e1, e2⟩ := hacc.2 i v (by rw [← Array.getElem?_toList]; exact e)
            refine ⟨k, ?_, ?_⟩
            · rw [← hk, List.getElem?_map, e1]; rfl
            · cases v <;> simp [PySem.intKind, Value.isInt] at e2
              exact ⟨_, by rw [e2]⟩
          have hoL : (h'.push (seqObj "list" acc.toList.toArray 0)).get? h'.objs.size = some (seqObj "list" acc.toList.toArray 0) := Heap.get?_push_size _ rfl
          refine wpAny_bind (wpAny_holding (wpAny_call_entry slot_list_sort ⟨_, hoL, rfl⟩ entry_list_sort (list_sort_tree hoL hI h64' fun out ns' a1 a2 a3 => ⟨_, rfl, ?_⟩) (args_list_sort _)))
          refine wpAny_pure ⟨_, rfl, ?_⟩
          obtain ⟨e', he⟩ := sortedHeap_at (out := out) hoL
          refine Zcd R (fun b o q => ?_) ?_ he (hfit _ a2) (Zgj a1) fun f => h ns' _ a2 a3 f
          · have hb := Heap.lt_size (hkp b o q)
            rw [sortedHeap_old (Nat.ne_of_lt hb) (by rw [size_push']; exact Nat.lt_succ_of_lt hb), Heap.get?_push_ne _ _ _ (Nat.ne_of_lt hb)]
            exact hkp b o q
          · cases w : s.heap.get? h'.objs.size with
            | none => rfl
            | some o => exact absurd (Heap.lt_size (hkp _ o w)) (Nat.lt_irrefl _)
        · cases e
      | _ => cases e
    · exact h.elim
  | [], _, h => exact h.elim
  | _ :: _ :: _, _, h => exact h.elim
end
section
open PySem PyProof.Rows
variable {g : Gr} {sc : Scope} {r : Nat} {c : Bool}
inductive Znv (g : Gr) (C : Addr) : Prop
  | mk (nm q : Str) (N : Addr) (bs bm : List Value) (hdct : Bool) (sn : List Str) (sub : List Value) (ab : Bool) (col : Option Bool) (dd : Option Addr) (k0 k1 k2 k3 k5 : Option Value) (mN : Str → Option Value)
    (ho : g.b0.get? C = some (excClassObj nm q C N bs bm hdct sn sub ab col dd k0 k1 k2 k3 k5 "ValueError.__new__")) (hn : g.b0.Ns N mN) (hi : mN "__init__" = none)
    (ht : OwnTail g.b0 [.type "ValueError", .type "Exception", .type "BaseException", .type "object"] bm) : Znv g C
noncomputable def Ziz (C : Addr) (ts : TL) : TS := fun ℓ σ Q E => ts ℓ σ (fun vs σ' => vs.length ≤ 1000 ∧ E C ℓ σ') fun C' σ' => E C' ℓ σ'
theorem Ws {n : String} {C : Addr} {np cpos pos : Pos} {args : List Expr} {ts : TL} (hm : (Str.ofString n, NameKind.globalImplicit) ∈ sc.names) (hn : Yr g n (.ref C)) (hC : Znv g C) (hL : Zkb g sc r true args ts) (hp : Zc0 args) :
    Zlc g sc r true (.Raise (some (.Call (.Name (Str.ofString n) np) args [] cpos)) none pos) (Ziz C ts) := .mk fun A env s ℓ σ Q E X h => by
  obtain ⟨nm, q, N, bs, bm, hdct, sn, sub, ab, col, dd, k0, k1, k2, k3, k5, mN, ho, hN, hi, ht⟩ := hC
  refine wpAny_Raise_call_subU (mN := mN) (nm := nm) (q := q) (N := N) (bs := bs) (bm := bm) (hdct := hdct) (sn := sn) (sub := sub) (ab := ab) (col := col) (dd := dd) (k0 := k0) (k1 := k1) (k2 := k2) (k3 := k3) (k5 := k5) PySem.F.excBase_ValueError (by decide) PySem.F.excBase_ValueError (ht.hasType (by decide)) (X.room.calm rfl) (Xc hp cpos env) hi (Yc X hm hn ⟨rfl, ?_⟩)
  refine Zbc (Xc hp cpos env) (wpAny_mono (hL.run A env cpos s ℓ σ _ _ X h) (fun vs s₁ p => ?_) fun _ _ p => p.toS X)
  refine Wr.elim p fun xs σ₁ hv hR hx hs hq => ?_
  refine ⟨rfl, ?_, hR.base _ _ ho, hN.at' fun o e => hR.base _ o e, ht.keeps hR.base, fun h' e hm => ?_⟩
  · have := Zu hv; have := hq.1; show vs.length ≤ sizeLine; have e : sizeLine = 16777216 := rfl; omega
  · obtain ⟨t, he, htn, _⟩ := hm.there
    have hk := hm.keeps
    have b0 : g.b0.get? e = none := by
      cases q : g.b0.get? e with
      | none => rfl
      | some o => have := hm.new; rw [hR.base e o q] at this; cases this
    have s0 : s.heap.get? e = none := by
      cases q : s.heap.get? e with
      | none => rfl
      | some o => obtain ⟨o', z⟩ := hx.pres e o q; have := hm.new; rw [z] at this; cases this
    refine ⟨C, ℓ, σ₁, ⟨e, _, _, rfl, s0, b0, hR.fresh hm.new, he, rfl, rfl, rfl, by simp, .inl ⟨rfl, rfl⟩⟩, (X.loc.step X.rel hx).step hR (.keeps hk), hR.keeps hk, (hx.trans (.keeps hk)).own, hs.trans ⟨rfl, rfl, rfl⟩, hq.2⟩
theorem Zgl.marked {A : Around} {r : Nat} {c : Bool} {v : Option Value} (x : Zgl A r c) : Zgl (A.mark v) r false := ⟨x.depth, x.units, fun h => nomatch h⟩
noncomputable def Zsd (n : String) (P : Addr → Prop) (tb th : TS) : TS := fun ℓ σ Q E => tb ℓ σ Q fun C ℓ' σ' => P C ∧ ∀ a, σ' a = none → th (ℓ'.set n (.ref a)) (σ'.set a (.exc C)) (fun f _ σ'' => Q f Loc.empty σ'') fun _ _ _ => False
section
variable {A : Around} {env : Env} {s : Shared} {σ : AH} {ℓ : Loc}
theorem LR.claim {h : Heap} {a : Addr} {ao : AO} (L : LR g h σ env ℓ) (k : ∀ b, Own env b → b ≠ a) : LR g h (σ.set a ao) env ℓ :=
  ⟨L.ns, L.cell, L.cells, ⟨(if_neg (k _ (.inl rfl))).trans L.off.1, L.off.2⟩, fun x c e => ⟨(if_neg (k c (.inr ⟨x, e⟩))).trans (L.offc x c e).1, (L.offc x c e).2⟩, L.apart, L.has⟩
theorem Zkc.claim {h : Heap} {a : Addr} {ao : AO} (F : Zkc g A env h σ) (k : ∀ o es n, h.get? a = some o → o.data ≠ .dict es n) : Zkc g A env h (σ.set a ao) := by
  obtain ⟨e0, outer, hA, hf, ff, off, r1, r2, r3, r4⟩ := F
  obtain ⟨k1, k2⟩ := W9 (W := No) (h' := h) (σ' := σ.set a ao) (fun b o es n e d q => ⟨(if_neg fun z : b = a => k o es n (z ▸ e) d).trans q, o, es, n, e, d⟩) _ ff off
  exact ⟨e0, outer, hA, hf, k1, k2, r1, r2, r3, r4⟩
theorem Zkq {h h' : Heap} {m' : Str → Option Value} (L : LR g h σ env ℓ) (R : Rel g h σ) (hn : h'.Ns env.locals m') (sb : Heap.SameBut env.locals h h') : LR g h' σ env Loc.empty ∧ Rel g h' σ ∧ Ext (Own env) h σ h' σ ∧ Yh g h h' := by
  have w : Own env env.locals := .inl rfl
  have pr : ∃ o, h'.get? env.locals = some o := let ⟨o, _, _, e, _⟩ := hn; ⟨o, e⟩
  have tk : Yh g h h' := fun d o vs m _ y t dd => .of ((sb.2 d fun z => L.noSeq d o (by rw [z]; exact w) y vs m dd).trans y)
  refine ⟨⟨⟨m', hn, fun n v e => (nomatch e)⟩, fun y cc e => ?_, fun n v e => (nomatch e), L.off, L.offc, L.apart, L.has⟩, ⟨fun b hb => ?_, fun b o q => (sb.2 b fun z => ?_).trans (R.base b o q), fun b bo q => ⟨(R.own b bo q).1, Zbs tk (fun o y => (sb.2 b fun z => ?_).trans y) (R.own b bo q).2⟩⟩,
    ⟨fun b o q _ nw => .of ((sb.2 b fun z => nw (z ▸ w)).trans q), fun b o q => ?_, fun b q => .inl q⟩, tk⟩
  · obtain ⟨o, u, ho, hd⟩ := L.cell y cc e
    exact ⟨o, u, (sb.2 cc (L.offc y cc e).2.1).trans ho, hd⟩
  · by_cases z : b = env.locals
    · rw [z]; exact pr
    · obtain ⟨o, q⟩ := R.hid b hb; exact ⟨o, (sb.2 b z).trans q⟩
  · rw [z, L.off.2] at q; cases q
  · rw [z, L.off.1] at q; cases q
  · by_cases z : b = env.locals
    · rw [z]; exact pr
    · exact ⟨o, (sb.2 b z).trans q⟩
end
theorem Zmw {K : W.Frag} {T : Addr} {n m : String} {P : Addr → Prop} {body suite : List Stmt} {b₀ : Stmt} {np hpos pos : Pos} {tb th : TS} (hK : K.In g.b0) (hm : (Str.ofString n, NameKind.globalImplicit) ∈ sc.names) (hn : Yr g n (.ref T)) (hP : ∀ C, P C → W.exmOne K (.ref C) (.ref T) = some true)
    (hl : (Str.ofString m, NameKind.local) ∈ sc.names) (hb : Zdw g sc r c body tb) (hs : Zdw g sc r false (b₀ :: suite) th) : Zlc g sc r c (.Try body [.ExceptHandler (some (.Name (Str.ofString n) np)) (some (Str.ofString m)) (b₀ :: suite) hpos] [] [] pos) (Zsd m P tb th) := .mk fun A env s ℓ σ Q E X h => by
  refine wpAny_Try_except (wpAny_mono (hb.run A env s ℓ σ Q _ X h) (fun f s₁ p => ?_) fun e s₁ p => ?_)
  · cases f with
    | next => exact wpAny_execs_nil p
    | _ => exact p
  · obtain ⟨C, ℓ', σ', hX, hL, hR, hx, hsm, hPC, hth⟩ := p
    refine Zfu (X.fr.step hx (X.loc.dicts hL)) hR hx.pres hX fun s₂ t2 x2 hs2 => Zbb x2 fun s₃ t3 x3 hs3 => ?_
    obtain ⟨a, o, vs, rfl, x0, xb, xs, xo, xc, xn, xd, xz, xt⟩ := id x3
    have L3 := t3.loc (t2.loc hL)
    have R3 := t3.rel (t2.rel hR)
    have e3 := t3.ext (t2.ext hx)
    have X3 : Cx g sc r false (A.mark (some (.ref a))) env s₃.heap σ' ℓ' := ⟨X.gok, X.ok, L3, X.fr.step e3 (X.loc.dicts L3), X.room.marked, R3⟩
    refine wpAny_handleBy_cons (codeAny_handlers_test (Yc X3 hm hn ?_)) (by intro q; cases q)
    have LT : W.Looks (model g.prog g.w) s₃.heap (typeOf (.ref a)) (.ref C) := xc ▸ (W.Looks.ld xo).andThen .now
    refine (W.exm_one (hK.keeps fun b o e => R3.base b o e) LT (hP C hPC)).here ?_
    refine codeAny_handlers_suite_as (Zbb x3 fun s₄ t4 x4 hs4 => ?_)
    obtain ⟨a', o4, vs4, ea, x0', xb', xs', xo4, xc4, xn4, xd4, xz4, _⟩ := x4
    cases ea
    have e4 := t4.ext e3
    have L4 := t4.loc L3
    have R4 := t4.rel R3
    have nown : ∀ b, Own env b → b ≠ a := fun b w z => by obtain ⟨o', q, d⟩ := L4.noFields w; rw [z, xo4] at q; cases q; exact d _ xd4
    have R5 : Rel g s₄.heap (σ'.set a (.exc C)) := R4.claim xb' ⟨o4, vs4, xo4, xc4, xn4, xd4⟩
    have L5 : LR g s₄.heap (σ'.set a (.exc C)) env ℓ' := L4.claim nown
    have e5 : Ext (Own env) s.heap σ s₄.heap (σ'.set a (.exc C)) := ⟨e4.keep, e4.pres, fun b q => by
      by_cases z : b = a
      · exact .inr (z ▸ x0)
      · rw [Ze z] at q; exact e4.dom b q⟩
    have F5 : Zkc g A env s₄.heap (σ'.set a (.exc C)) := (X.fr.step e4 (X.loc.dicts L4)).claim fun o' es n e d => by rw [xo4] at e; cases e; rw [xd4] at d; cases d
    have X5 : Cx g sc r false (A.mark (some (.ref a))) env s₄.heap (σ'.set a (.exc C)) ℓ' := ⟨X.gok, X.ok, L5, F5, X.room.marked, R5⟩
    refine Zc5 X5 hl rfl (Z9.mpr rfl) fun s₆ b _ _ w hL6 hR6 hx6 hs6 => ?_
    have e6 := e5.trans (hx6.weaken fun b' z => z ▸ w)
    have X6 : Cx g sc r false (A.mark (some (.ref a))) env s₆.heap (σ'.set a (.exc C)) (ℓ'.set m (.ref a)) := X5.stepS hL6 hR6 (hx6.weaken fun b' z => z ▸ w)
    have sm6 : Wv s s₆ := ((((hsm.trans hs2).trans hs3).trans hs4).trans hs6)
    have kd : env.kindOf (Str.ofString m) = some .local := by
      rcases X.ok.kinds _ _ hl with q | ⟨q, _⟩
      · exact q
      · cases q
    refine wpAny_mono (hs.run (A.mark (some (.ref a))) env s₆ _ _ _ _ X6 (hth a xs)) (fun f s₇ p => ?_) fun _ _ p => ?_
    · obtain ⟨f', ℓ7, σ7, hf, hL7, hR7, hx7, hs7, hq⟩ := p
      obtain ⟨mm, hnm, _⟩ := hL7.ns
      refine wpAny_nameGoes kd hnm (by rw [X.ok.kind]; rfl) fun h' m' hn' sb => ?_
      obtain ⟨L8, R8, x8, tk8⟩ := Zkq hL7 hR7 hn' sb
      refine ⟨f', Loc.empty, σ7, ?_, L8, R8, (e6.trans hx7).trans x8, (sm6.trans hs7).trans ⟨rfl, rfl, rfl⟩, hq⟩
      cases f' with
      | ret v => obtain ⟨u, rfl, hu⟩ := hf; exact ⟨u, rfl, VR.mono tk8 hu⟩
      | _ => exact hf
    · obtain ⟨_, _, _, _, _, _, _, _, z⟩ := p
      exact z.elim
end
section
open PySem PySem.W PyProof.Rows
variable {g : Gr} {sc : Scope} {r : Nat} {c : Bool}
section
variable {prog : Program} {w : World} {A : Around} {E : Value → Shared → Prop} {s : Shared} {K : Frag} {x C : Addr}
structure Zny (K : Frag) (C : Addr) : Prop where
  ga : findIn K (.ref C) "__getattribute__" = some (some (.builtin "BaseException.__getattribute__"))
  gt : findIn K (.ref C) "__getattr__" = some none
  cl : findIn K (.ref C) "__class__" = some (some (.builtin "object.__class__"))
  mb : mroIn K C (.type "BaseException") = some true
  mo : mroIn K C (.type "object") = some true
  is : (clsIn K C).isSome = true
theorem Zeh.inst {h : Heap} (o : Zeh h x C) : ∃ ox, InstAt h x ox C none := by
  obtain ⟨ox, vs, e, hc, hn, hd⟩ := o
  refine ⟨ox, e, hc, ?_, ?_⟩
  · unfold notCls; rw [hd]
  · rw [hn]; trivial
theorem Zv4 {M : Model} {nameV : Value} {Q : Unit → Shared → Prop} (X : K.In s.heap) (Z : Zny K C) (o : Zeh s.heap x C) (hq : Q () s) : wpAny M A (checkBuiltinCall "BaseException.__getattribute__" ⟨[.ref x, nameV], []⟩) Q E s := by
  obtain ⟨ox, I⟩ := o.inst
  have hk : builtinKind "BaseException.__getattribute__" = some .slot := by decide +kernel
  have hsplit : splitId "BaseException.__getattribute__" = some ("BaseException", "__getattribute__") := by decide +kernel
  have ha := F.args_bexc_ga (.ref x) nameV
  obtain ⟨hh, gg, dr, t, os⟩ := s
  have L0 := I.type (M := M)
  have L1 := looks_mroIn (M := M) X Z.mb
  simp only [checkBuiltinCall, hk, hsplit]
  refine wpAny_bind ?_
  unfold isInstance
  repeat (first | lk | wp_step)
  exact hq
theorem Zpo {tk : Tok} {Q : Fin → Shared → Prop} (X : K.In s.heap) (Z : Zny K C) (o : Zeh s.heap x C) (hq : Q (.done (.ret (.ref C))) s) :
    wpAny (model prog w) A (Builtin.«object.__getattribute__» ⟨[.ref x, .str "__class__" tk], []⟩) Q E s := by
  obtain ⟨ox, I⟩ := o.inst
  have hT5 : s.TypeIs (.builtin "object.__class__") "getset_descriptor" := F.typeOf_object_class
  have f5 := F.typeOf_object_class
  have f6 := F.slot_gs_get.lookup
  have f7 := F.slot_gs_set.lookup
  obtain ⟨hh, gg, dr, t, os⟩ := s
  have L0 := I.type (M := model prog w)
  have L1 := looks_findIn (M := model prog w) X Z.cl
  repeat (any_goals (first | assumption | with_reducible refine L0.here ?_ | with_reducible refine L1.here ?_ | wp_step))
  refine class_get X I Z.mo ?_
  repeat (any_goals (first | assumption | wp_step))
theorem Zv5 {tk : Tok} {Q : Value → Shared → Prop} (X : K.In s.heap) (Z : Zny K C) (o : Zeh s.heap x C) (hq : Q (.ref C) s) : wpAny (model prog w) A (getAttrBy (.ref x) (.str "__class__" tk) false) Q E s := by
  obtain ⟨ox, I⟩ := o.inst
  have f3 := F.excAttr_ValueError.ga.bind (.ref x)
  have hx2 : (Value.builtin "BaseException.__getattribute__" == Value.builtin "object.__getattribute__") = false := by decide +kernel
  have hx1 : (onTheHeap (Value.ref C) && Value.builtin "BaseException.__getattribute__" == Value.builtin "object.__getattribute__") = false := by rw [hx2]; rfl
  obtain ⟨hh, gg, dr, t, os⟩ := s
  have L0 := I.type (M := model prog w)
  have L1 := looks_findIn (M := model prog w) X Z.ga
  have L2 := looks_findIn (M := model prog w) X Z.gt
  repeat (any_goals (first | assumption | with_reducible refine L0.here ?_ | with_reducible refine L1.here ?_ | with_reducible refine L2.here ?_ | wp_step))
  refine codeAny_call_builtin F.excAttr_ValueError.ga.plain F.entry_bexc_ga (Zv4 X Z o (Zpo X Z o ?_))
  repeat (any_goals (first | assumption | wp_step))
theorem Zpp {Q : Option Value → Shared → Prop} (X : K.In s.heap) (Z : Zny K C) (o : Zeh s.heap x C) (hq : Q (some (.ref C)) { s with toks := s.toks + 1 }) : wpAny (model prog w) A (getAttr? (.ref x) "__class__") Q E s := by
  obtain ⟨hh, gg, dr, t, os⟩ := s
  unfold getAttr? getAttrBy?
  refine wpAny_bind (wpAny_mkText (wpAny_bind (wpAny_attempt (Zv5 (s := ⟨hh, gg, dr, t + 1, os⟩) X Z o ?_))))
  exact wpAny_pure hq
theorem Zrk (Z : Zny K C) : KitX K (.ref x) (.ref C) (fun h => Zeh h x C) where
  ty := fun _ _ _ o => let ⟨ox, I⟩ := o.inst; I.type
  it := fun _ _ X _ => by
    have hc := Z.is
    unfold clsIn at hc
    split at hc
    · rename_i c' d' cd' sl' ho
      intro A' Q' E' s' k q
      unfold isType loadHead
      exact wpAny_bind (wpAny_loadPart (k _ _ (X _ _ ho)) (wpAny_pure q))
    · cases hc
  ne := fun h tp dd its n sl X htp => by
    have hc := Z.is
    refine Bool.eq_false_iff.mpr fun q => ?_
    have e : C = tp := Value.ref.inj (beq_iff_eq.mp q)
    subst e
    unfold clsIn at hc
    split at hc
    · rename_i c' d' cd' sl' ho
      have z := (X _ _ ho).symm.trans htp
      cases z
    · cases hc
  ca := fun X o k => Zpp X Z o k
end
theorem Zvu {K : Frag} {C : Addr} {b : Bool} {A : Around} {E : Value → Shared → Prop} {s : Shared} {σ : AH} {Q : V → AH → Prop} {a : Addr} {cv : Value} (hK : K.In g.b0) (Z : Zny K C) (R : Rel g s.heap σ) (e : σ a = some (.exc C)) (hk : kitOne K (.ref C) cv = some b) (h : Q (.bool b) σ) :
    wpAny (model g.prog g.w) A (call (.builtin "isinstance") [.ref a, cv]) (Wq g s σ Q) E s :=
  kia_one (Zrk Z) (hK.keeps fun b o e => R.base b o e) (R.own a _ e).2 hk (by intro q; cases q) fun tk => Xl R rfl ⟨rfl, rfl, rfl⟩ (Y9.mpr rfl) h
end
section
open PySem Builtin Builtin.Str
noncomputable abbrev sg (x : Str) : List Nat := x.cps.toList
theorem Zoa {x y : Str} (h : sg x = sg y) : x = y := by
  obtain ⟨a⟩ := x; obtain ⟨b⟩ := y
  simpa [sg] using h
theorem Za4 (x : Str) : (sg x).length = x.length := by simp [sg, Str.length]
theorem Zbx (x y : Str) : sg (x ++ y) = sg x ++ sg y := by
  show (Str.append x y).cps.toList = _
  simp [Str.append, sg]
noncomputable def spS : Str := ⟨#[32]⟩
noncomputable def Zbj : List (List Nat) → List Nat
  | [] => []
  | [x] => x
  | x :: y :: r => x ++ 32 :: Zbj (y :: r)
theorem Zkt : ∀ ps : List Str, sg (Str.join spS ps) = Zbj (ps.map sg)
  | [] => rfl
  | [x] => rfl
  | x :: y :: r => by
    show sg (x ++ spS ++ Str.join spS (y :: r)) = sg x ++ 32 :: Zbj ((y :: r).map sg)
    rw [Zbx, Zbx, Zkt (y :: r)]
    show (sg x ++ [32]) ++ _ = _
    rw [List.append_assoc]; rfl
theorem Zhi : ∀ {a b c d : List Nat}, 32 ∉ a → 32 ∉ c → a ++ 32 :: b = c ++ 32 :: d → a = c ∧ b = d
  | [], b, [], d, _, _, h => by simp at h; exact ⟨rfl, h⟩
  | [], b, x :: c, d, _, hc, h => by simp at h; exact absurd (.head _) (h.1 ▸ hc)
  | x :: a, b, [], d, ha, _, h => by simp at h; exact absurd (.head _) (h.1 ▸ ha)
  | x :: a, b, y :: c, d, ha, hc, h => by
    simp only [List.cons_append, List.cons.injEq] at h
    obtain ⟨h1, h2⟩ := Zhi (fun q => ha (.tail _ q)) (fun q => hc (.tail _ q)) h.2
    exact ⟨by rw [h.1, h1], h2⟩
theorem Zjl : ∀ {ps qs : List (List Nat)}, ps ≠ [] → qs ≠ [] → (∀ p ∈ ps, 32 ∉ p) → (∀ q ∈ qs, 32 ∉ q) → Zbj ps = Zbj qs → ps = qs
  | [], _, h, _, _, _, _ => absurd rfl h
  | _, [], _, h, _, _, _ => absurd rfl h
  | [x], [y], _, _, _, _, h => by simpa [Zbj] using h
  | [x], y :: z :: r, _, _, hp, _, h => by
    simp only [Zbj] at h
    exact absurd (by rw [h]; simp) (hp x (.head _))
  | x :: z :: r, [y], _, _, _, hq, h => by
    simp only [Zbj] at h
    exact absurd (by rw [← h]; simp) (hq y (.head _))
  | x :: z :: r, y :: w :: t, _, _, hp, hq, h => by
    simp only [Zbj] at h
    obtain ⟨h1, h2⟩ := Zhi (hp x (.head _)) (hq y (.head _)) h
    rw [h1, Zjl (by simp) (by simp) (fun p q => hp p (.tail _ q)) (fun p q => hq p (.tail _ q)) h2]
theorem Zjj : ∀ {ps : List (List Nat)} {p : List Nat} {c : Nat}, p ∈ ps → c ∈ p → c ∈ Zbj ps
  | [x], p, c, h, hc => by simp at h; subst h; exact hc
  | x :: y :: r, p, c, h, hc => by
    simp only [Zbj, List.mem_append, List.mem_cons]
    cases h with
    | head => exact .inl hc
    | tail _ h => exact .inr (.inr (Zjj h hc))
theorem Zjk : ∀ {ps : List (List Nat)} {p : List Nat}, p ∈ ps → p.length ≤ (Zbj ps).length
  | [x], p, h => by simp at h; subst h; exact Nat.le_refl _
  | x :: y :: r, p, h => by
    simp only [Zbj, List.length_append, List.length_cons]
    cases h with
    | head => exact Z28
    | tail _ h => have := Zjk h; exact Z27 this
theorem Zf2 : ∀ {ps : List (List Nat)}, ps.length ≤ (Zbj ps).length + 1
  | [] => by simp
  | [x] => by simp [Zbj]
  | x :: y :: r => by
    have := Zf2 (ps := y :: r)
    simp only [Zbj, List.length_append, List.length_cons] at this ⊢; exact Z26 this
noncomputable def Wm (t : Str) : List Str := Txt.split t spS
theorem Zli (t : Str) : Wm t ≠ [] := by
  unfold Wm Txt.split
  split
  · simp
  · split
    · simp
    · rw [StrLaws.partsBetween_eq]
      obtain ⟨p, r, e⟩ := StrLaws.partsFrom_ne t spS.length 0 (occurrences t spS 0 t.length (t.length + 1))
      rw [e]; simp
theorem Zc1 (t : Str) : Zbj ((Wm t).map sg) = sg t := by
  rw [← Zkt]; unfold Wm; rw [StrLaws.join_split]
theorem Zql {t : Str} {ps : List Str} (hn : ps ≠ []) (hf : ∀ p ∈ ps, 32 ∉ sg p) (hj : Zbj (ps.map sg) = sg t) : Wm t = ps := by
  have h := Zjl (ps := (Wm t).map sg) (qs := ps.map sg) (by simpa using Zli t) (by simpa using hn) (fun p hp => by
    obtain ⟨w, hw, rfl⟩ := List.mem_map.mp hp
    exact StrLaws.split_free t 32 w hw) (fun q hq => by
    obtain ⟨w, hw, rfl⟩ := List.mem_map.mp hq
    exact hf w hw) ((Zc1 t).trans hj.symm)
  have inj : ∀ (a b : List Str), a.map sg = b.map sg → a = b := fun a => by
    induction a with
    | nil => intro b h; cases b with | nil => rfl | cons _ _ => simp at h
    | cons x a ih =>
      intro b h
      cases b with
      | nil => simp at h
      | cons y b =>
        simp only [List.map_cons, List.cons.injEq] at h
        rw [Zoa h.1, ih b h.2]
  exact inj _ _ h
noncomputable abbrev Zei (x : Str) : Prop := x.cps.all (· < 128) = true
theorem Zab {x : Str} : Zei x ↔ ∀ c ∈ sg x, c < 128 := by
  unfold Zei sg
  rw [← Array.all_toList, List.all_eq_true]
  exact ⟨fun h c hc => of_decide_eq_true (h c hc), fun h c hc => decide_eq_true (h c hc)⟩
theorem Znz {t w : Str} (h : Zei t) (hw : w ∈ Wm t) : Zei w := by
  rw [Zab] at h ⊢
  intro c hc
  refine h c ?_
  rw [← Zc1 t]
  exact Zjj (List.mem_map_of_mem hw) hc
theorem Ziw {t w : Str} (hw : w ∈ Wm t) : w.length ≤ t.length := by
  rw [← Za4, ← Za4, ← Zc1 t]
  exact Zjk (List.mem_map_of_mem hw)
theorem Zfh (t : Str) : (Wm t).length ≤ t.length + 1 := by
  have := Zf2 (ps := (Wm t).map sg)
  rw [Zc1, Za4] at this
  simpa using this
theorem Zb2 {x : Str} (h : Zei x) : PyData.strOk x = true := by
  rw [Zab] at h
  unfold PyData.strOk
  rw [← Array.all_toList, List.all_eq_true]
  intro c hc
  have := h c hc
  exact decide_eq_true (by exact Nat.lt_of_lt_of_le this (by decide))
noncomputable def Zl8 (c : Nat) : Bool := decide (48 ≤ c ∧ c ≤ 57)
noncomputable def Zmo : Str := ⟨#[48]⟩
noncomputable def okW (w : Str) : Bool := decide (1 ≤ w.length) && (decide (w.length ≤ 30) && ((sg w).all Zl8 && !((sg w).head? == some 48 && !(w == Zmo))))
noncomputable def Zt5 (w : Str) : Int := ((NumText.digitsVal (sg w) : Nat) : Int)
noncomputable def num? (w : Str) : Option Int := if okW w then some (Zt5 w) else none
theorem Zkx {w : Str} (h1 : 1 ≤ w.length) (h2 : w.length ≤ 30) (h3 : ∀ c ∈ sg w, Zl8 c = true) : intText? w = some (Zt5 w) := by
  refine PySem.intText_digits (fun c hc => by have := h3 c hc; unfold Zl8 at this; simpa using this) (fun e => ?_) (by exact Z25 h1 h2)
  have : (sg w).length = 0 := by rw [show sg w = [] from e]; rfl
  rw [Za4] at this; exact Z24 h1 h2 this
noncomputable def Xb : Str := Str.ofString "come"
noncomputable def Ze4 : Str := Str.ofString "go"
noncomputable def sizeOf? (w : Str) : Option Nat := if w = Xb then some 3 else if w = Ze4 then some 2 else none
noncomputable def Zck : List Str → Option (List Int)
  | [] => some []
  | w :: ws => match num? w, Zck ws with
    | some n, some ns => some (n :: ns)
    | _, _ => none
noncomputable def due? (t : Str) : Option (Str × List Int) := match Wm t with
  | [] => none
  | w :: ws => if sizeOf? w = some (ws.length + 1) then (Zck ws).map fun ns => (w, ns) else none
noncomputable def Zbi (n : Int) : Str := Str.ofString (toString n)
theorem Zie (m : Nat) : sg (Zbi (m : Int)) = (Nat.toDigits 10 m).map Char.toNat := W.KIN.signs_num m
theorem Zez : ∀ (k m : Nat), m < 10 ^ k → 0 < k → (Nat.toDigits 10 m).length ≤ k
  | 0, m, _, h => absurd h (by exact Z23 h)
  | k + 1, m, h, _ => by
    by_cases h10 : m < 10
    · rw [Nat.toDigits_of_lt_base h10]; simp
    · have hm : m % 10 < 10 := Nat.mod_lt m (by decide)
      have t : Nat.toDigits 10 (m / 10) ++ Nat.toDigits 10 (m % 10) = Nat.toDigits 10 (10 * (m / 10) + m % 10) := Nat.toDigits_append_toDigits (by decide) (by exact Z19 h10 hm) hm
      rw [Nat.div_add_mod] at t
      rw [← t, List.length_append, Nat.toDigits_of_lt_base hm]
      have hk : 0 < k := by
        rcases Nat.eq_zero_or_pos k with z | z
        · subst z; simp at h; exact Z22 h10 h
        · exact z
      have := Zez k (m / 10) (by rw [Nat.pow_succ] at h; exact Z21 h hm) hk
      simp; exact Z2j this
theorem Zbo {n : Int} (h0 : 0 ≤ n) (h1 : n < 10 ^ 30) : 1 ≤ (Zbi n).length ∧ (Zbi n).length ≤ 30 := by
  obtain ⟨m, rfl⟩ := Int.eq_ofNat_of_zero_le h0
  rw [← Za4, Zie, List.length_map]
  refine ⟨toDigits_len_ge 10 m, Zez 30 m ?_ (by decide)⟩
  have : ((m : Nat) : Int) < ((10 ^ 30 : Nat) : Int) := h1
  exact Z20 h0 h1
theorem Zfd {n : Int} (h0 : 0 ≤ n) : ∀ c ∈ sg (Zbi n), Zl8 c = true := by
  obtain ⟨m, rfl⟩ := Int.eq_ofNat_of_zero_le h0
  intro c hc
  rw [Zie] at hc
  obtain ⟨ch, hch, e⟩ := List.mem_map.mp hc
  have r := PyProof.Rows.digit_range (Nat.isDigit_of_mem_toDigits (by decide) (by decide) hch)
  rw [← e]
  exact decide_eq_true r
theorem Zra {n : Int} (h0 : 0 ≤ n) : Zt5 (Zbi n) = n := by
  obtain ⟨m, rfl⟩ := Int.eq_ofNat_of_zero_le h0
  unfold Zt5
  rw [Zie, W.KIN.val_back]
theorem Zij : ∀ m : Nat, ((Nat.toDigits 10 m).map Char.toNat).head? = some 48 → m = 0 := by
  intro m
  induction m using Nat.strongRecOn with
  | _ m ih =>
    intro h
    by_cases h10 : m < 10
    · rw [Nat.toDigits_of_lt_base h10] at h
      have e := W.KIN.digit_back m h10
      simp at h
      exact Z1v h10 e h
    · have hm : m % 10 < 10 := Nat.mod_lt m (by decide)
      have t : Nat.toDigits 10 (m / 10) ++ Nat.toDigits 10 (m % 10) = Nat.toDigits 10 (10 * (m / 10) + m % 10) := Nat.toDigits_append_toDigits (by decide) (by exact Z19 h10 hm) hm
      rw [Nat.div_add_mod] at t
      rw [← t, List.map_append] at h
      have hl := toDigits_len_ge 10 (m / 10)
      have : ((Nat.toDigits 10 (m / 10)).map Char.toNat).head? = some 48 := by
        cases q : (Nat.toDigits 10 (m / 10)).map Char.toNat with
        | nil => have := congrArg List.length q; simp at this
        | cons a b => rw [q] at h; simpa using h
      have := ih (m / 10) (by exact Z1u h10 hm) this
      exact Z1t h10 hm this
theorem Ztf {n : Int} (h0 : 0 ≤ n) (h1 : n < 10 ^ 30) : num? (Zbi n) = some n := by
  obtain ⟨k1, k2⟩ := Zbo h0 h1
  have h : okW (Zbi n) = true := by
    unfold okW
    rw [decide_eq_true k1, decide_eq_true k2, List.all_eq_true.mpr (Zfd h0)]
    simp only [Bool.true_and, Bool.not_eq_true', Bool.and_eq_false_iff]
    by_cases z : (sg (Zbi n)).head? = some 48
    · right
      obtain ⟨m, rfl⟩ := Int.eq_ofNat_of_zero_le h0
      rw [Zie] at z
      have := Zij m z
      subst this
      decide +kernel
    · left; simpa using z
  unfold num?
  rw [if_pos h, Zra h0]
noncomputable def Xg (k : Str) : List Int → Str
  | ns => ns.foldl (fun t n => t ++ spS ++ Zbi n) k
theorem Zfj : ∀ (ns : List Int) (ps : List Str), ps ≠ [] → ∀ k, sg k = Zbj (ps.map sg) → sg (Xg k ns) = Zbj ((ps ++ ns.map Zbi).map sg)
  | [], ps, _, k, h => by simpa [Xg] using h
  | n :: ns, ps, hp, k, h => by
    show sg (Xg (k ++ spS ++ Zbi n) ns) = _
    rw [Zfj ns (ps ++ [Zbi n]) (by simp) (k ++ spS ++ Zbi n) ?_]
    · simp
    · rw [Zbx, Zbx, h]
      clear h
      induction ps with
      | nil => exact absurd rfl hp
      | cons p ps ih =>
        cases ps with
        | nil => show (sg p ++ [32]) ++ _ = sg p ++ 32 :: _; simp [Zbj]
        | cons q ps =>
          have := ih (by simp)
          simp only [List.map_cons, List.cons_append] at this ⊢
          simp only [Zbj]
          rw [← this]
          simp only [List.append_assoc, List.cons_append]
theorem Ziy (k : Str) (ns : List Int) : Txt.join spS (k :: ns.map Zbi) = Xg k ns := by
  refine Zoa ?_
  rw [Zfj ns [k] (by simp) k rfl]
  show sg (glued spS _) = _
  rw [StrLaws.glued_eq_join, Zkt]; rfl
theorem Zgh : ∀ {ns : List Int}, (∀ n ∈ ns, 0 ≤ n ∧ n < 10 ^ 30) → Zck (ns.map Zbi) = some ns
  | [], _ => rfl
  | n :: ns, h => by
    have h1 := Ztf (h n (.head _)).1 (h n (.head _)).2
    have h2 := Zgh fun m hm => h m (.tail _ hm)
    simp only [List.map_cons, Zck, h1, h2]
theorem Zo5 {n : Int} (h0 : 0 ≤ n) : 32 ∉ sg (Zbi n) := fun h => by
  have := Zfd h0 32 h; exact absurd this (by decide)
theorem Zrv {k : Str} {ns : List Int} (hk : (k = Xb ∧ ns.length = 2) ∨ (k = Ze4 ∧ ns.length = 1)) (hn : ∀ n ∈ ns, 0 ≤ n ∧ n < 10 ^ 30) : due? (Xg k ns) = some (k, ns) := by
  have hf : 32 ∉ sg k := by rcases hk with ⟨rfl, _⟩ | ⟨rfl, _⟩ <;> decide +kernel
  have hw : Wm (Xg k ns) = k :: ns.map Zbi := by
    refine Zql (by simp) (fun p hp => ?_) (Zfj ns [k] (by simp) k rfl).symm
    cases hp with
    | head => exact hf
    | tail _ hp => obtain ⟨n, hn', rfl⟩ := List.mem_map.mp hp; exact Zo5 (hn n hn').1
  unfold due?
  rw [hw]
  have hs : sizeOf? k = some ((ns.map Zbi).length + 1) := by
    rw [List.length_map]
    rcases hk with ⟨rfl, e⟩ | ⟨rfl, e⟩ <;> rw [e] <;> decide +kernel
  simp only [hs, if_true, Zgh hn, Option.map_some]
theorem Zgw {k : Str} {ns : List Int} (hk : Zei k) (hn : ∀ n ∈ ns, 0 ≤ n) : Zei (Xg k ns) := by
  induction ns generalizing k with
  | nil => exact hk
  | cons n ns ih =>
    refine ih (k := k ++ spS ++ Zbi n) ?_ fun m hm => hn m (.tail _ hm)
    rw [Zab] at hk ⊢
    intro c hc
    rw [Zbx, Zbx, List.mem_append, List.mem_append] at hc
    rcases hc with (hc | hc) | hc
    · exact hk c hc
    · have : c = 32 := by simpa [spS, sg] using hc
      exact Z1s this
    · have := Zfd (hn n (.head _)) c hc
      unfold Zl8 at this
      simp at this; exact Zvi this
theorem Zgv {k : Str} {ns : List Int} (hn : ∀ n ∈ ns, 0 ≤ n ∧ n < 10 ^ 30) : (Xg k ns).length ≤ k.length + ns.length * 31 := by
  induction ns generalizing k with
  | nil => simp [Xg]
  | cons n ns ih =>
    have := ih (k := k ++ spS ++ Zbi n) fun m hm => hn m (.tail _ hm)
    have h2 := (Zbo (hn n (.head _)).1 (hn n (.head _)).2).2
    have h3 : (k ++ spS ++ Zbi n).length = k.length + 1 + (Zbi n).length := by
      rw [Str.length_append, Str.length_append]; rfl
    show (Xg (k ++ spS ++ Zbi n) ns).length ≤ _
    simp only [List.length_cons]; exact Z1r this h2 h3
end
section
open PySem PySem.W PyProof.Rows Builtin Builtin.Str
variable {g : Gr} {sc : Scope} {r : Nat} {c : Bool}
noncomputable def Zwv (op : CmpOp) (a b : V) (σ : AH) (Q : Bool → Prop) : Prop := match b with
  | .str y => (match op with
    | .In => (match a with | .str x => Q (Txt.contains y x) | _ => False)
    | .NotIn => (match a with | .str x => Q (!Txt.contains y x) | _ => False)
    | op => Zax op a (.str y) σ Q)
  | b => Zax op a b σ Q
section
variable {A : Around} {env : Env} {E : Value → Shared → Prop} {s : Shared} {σ : AH} {ℓ : Loc}
theorem Ztv {op : CmpOp} {a b : V} {u v : Value} {Q : Bool → Prop} (X : Cx g sc r c A env s.heap σ ℓ) (ha : VR g s.heap a u) (hb : VR g s.heap b v) (h : Zwv op a b σ Q) : wpAny (model g.prog g.w) A (compareOp op u v) (Zr6 s Q) E s := by
  unfold Zwv at h
  split at h
  · rename_i y
    split at h
    · split at h
      · rw [Z8] at ha hb; obtain ⟨_, t, rfl⟩ := ha; obtain ⟨_, t', rfl⟩ := hb
        exact P.in_str ⟨_, s.toks, rfl, rfl, h⟩
      · exact h.elim
    · split at h
      · rw [Z8] at ha hb; obtain ⟨_, t, rfl⟩ := ha; obtain ⟨_, t', rfl⟩ := hb
        exact P.notIn_str ⟨_, s.toks, rfl, rfl, h⟩
      · exact h.elim
    · exact Zhk X ha hb h
  · exact Zhk X ha hb h
end
noncomputable def Zuq (op : CmpOp) (t₁ t₂ : TE) : TE := fun ℓ σ Q E => t₁ ℓ σ (fun a σ₁ => t₂ ℓ σ₁ (fun b σ₂ => Zwv op a b σ₂ fun r => Q (.bool r) σ₂) E) E
theorem Zol {op : CmpOp} {e₁ e₂ : Expr} {t₁ t₂ : TE} {pos : Pos} (h1 : Y1 g sc r c e₁ t₁) (h2 : Y1 g sc r c e₂ t₂) (hm : behindInMarks op e₂ = false) : Y1 g sc r c (.Compare e₁ [op] [e₂] pos) (Zuq op t₁ t₂) := .mk fun A env s ℓ σ Q E X h => by
  refine wpAny_Compare1 (wpAny_mono (h1.run A env s ℓ σ _ E X h) (fun u s₁ p => ?_) fun _ _ p => p) hm
  refine Wr.elim p fun a σ₁ hu hR hx hs hq => ?_
  have X₁ := X.step hR hx
  refine wpAny_mono (h2.run A env s₁ ℓ σ₁ _ E X₁ hq) (fun v s₂ p => ?_) fun _ _ p => p.back hx hs
  refine Wr.elim p fun b σ₂ hv hR2 hx2 hs2 hq2 => ?_
  refine wpAny_mono (Ztv (E := fun _ _ => False) (X₁.step hR2 hx2) (hx2.vr hR Yw hu) hv hq2) (fun w s₃ p => ?_) fun _ _ p => p.elim
  obtain ⟨bb, tk, rfl, rfl, hq3⟩ := p
  exact ⟨.bool bb, σ₂, Y9.mpr rfl, hR2, hx.trans hx2, hs.trans (hs2.trans ⟨rfl, rfl, rfl⟩), hq3⟩
noncomputable def Ztl (o i : V) (σ : AH) (Q : V → Prop) : Prop := match o with
  | .str x => (match i with | .int k => (∃ ch, (seqIndex? k x.length).bind (x.cps[·]?) = some ch ∧ Q (.str ⟨#[ch]⟩)) | _ => False)
  | o => Za8 o i σ Q
noncomputable def Zsi (t₁ t₂ : TE) : TE := fun ℓ σ Q E => t₁ ℓ σ (fun a σ₁ => t₂ ℓ σ₁ (fun b σ₂ => Ztl a b σ₂ fun x => Q x σ₂) E) E
theorem Zm0 {e₁ e₂ : Expr} {t₁ t₂ : TE} {pos : Pos} (h1 : Y1 g sc r c e₁ t₁) (h2 : Y1 g sc r c e₂ t₂) (hs : ∀ a b, subscripted e₂ false a b = operate [a, b] (getItem a b)) : Y1 g sc r c (.Subscript e₁ e₂ pos) (Zsi t₁ t₂) := .mk fun A env s ℓ σ Q E X h => by
  refine Subscript_ (wpAny_mono (h1.run A env s ℓ σ _ E X h) (fun u s₁ p => ?_) fun _ _ p => p)
  refine Wr.elim p fun a σ₁ hu hR hx hs1 hq => ?_
  have X₁ := X.step hR hx
  refine wpAny_mono (h2.run A env s₁ ℓ σ₁ _ E X₁ hq) (fun v s₂ p => ?_) fun _ _ p => p.back hx hs1
  refine Wr.elim p fun b σ₂ hv hR2 hx2 hs2 hq2 => ?_
  refine X7 (hx.trans hx2) (hs1.trans hs2) ?_
  have hu2 := hx2.vr hR Yw hu
  unfold Ztl at hq2
  split at hq2
  · rename_i x
    split at hq2
    · rename_i k
      obtain ⟨ch, e, hq2⟩ := hq2
      rw [Z8] at hu2; obtain ⟨hf, t, rfl⟩ := hu2
      rw [Zx] at hv; obtain ⟨t', rfl⟩ := hv
      have e' := e
      rw [Option.bind_eq_some_iff] at e'
      obtain ⟨j, ej, _⟩ := e'
      obtain ⟨hj, hk⟩ := Zcb ej
      have hf' := hf
      unfold Y3 at hf'
      refine tail_any (typeIs_str _ _ _) F.slot_str_getitem.lookup (P.getItem_str ?_ e (Xj hR2 (Z8.mpr ⟨by show (1 : Nat) ≤ 1000000; decide, _, rfl⟩) hq2)) (hs _ _)
      rw [Bool.or_eq_false_iff]
      exact ⟨decide_eq_false (by exact Z1q hk hf'), decide_eq_false (by exact Z1p hj hk hf')⟩
    · exact hq2.elim
  · exact Zpe (X₁.step hR2 hx2) hu2 hv hq2 hs fun x w tk hx hw => Xj hR2 hw hx
noncomputable def Zhl (x : Str) : List V := x.cps.toList.map fun ch => .str ⟨#[ch]⟩
theorem Zpd (I : Addr) (x : Str) (t : Tok) : Zgs g (Zhl x) (fun _ => True) I (· = I) (fun k h => h.IsStrIter I "str_ascii_iterator" x t k) false where
  stab := fun k h h' st _ kp => let ⟨o, ho, hc, hd⟩ := st; ⟨o, kp I o rfl ho, hc, hd⟩
  flds := fun k h b st e => by subst e; obtain ⟨o, ho, _, hd⟩ := st; exact ⟨o, ho, .inr ⟨_, hd⟩⟩
  self := fun k A E s Q st h => wpAny_pyIter_striter_ascii st h
  item := fun k y A E s σ target Q hx st R iv off _ h => by
    unfold Zhl at hx
    rw [List.getElem?_map, Option.map_eq_some_iff] at hx
    obtain ⟨ch, e, rfl⟩ := hx
    obtain ⟨oI, hoI, hcI, hdI⟩ := id st
    refine wpAny_pyNext_ascii_item st (by simpa using e) fun h' st' sb => ?_
    obtain ⟨o', ho', hc', hd'⟩ := id st'
    exact Za7 ho' hc' hd' (by decide) (h _ _ (fun b o nb e => sb.extBut b o nb e) ⟨rfl, rfl, rfl⟩ st' (Z8.mpr ⟨by show (1 : Nat) ≤ 1000000; decide, _, rfl⟩))
  last := fun k A E s σ Q hk hh st R iv off h => by
    have hn : x.cps[k]? = none := by
      rw [Array.getElem?_eq_none_iff]; simpa [Zhl] using hk
    exact wpAny_pyNext_ascii_end hh st hn fun h' eb => h { s with heap := h' } (fun b o nb e => eb b o nb e) ⟨rfl, rfl, rfl⟩
noncomputable def Zsh (t : TE) : TI := fun ℓ σ Q E => t ℓ σ (fun x σ₁ => match x with | .str x => Zei x ∧ Q (Zhl x) (fun _ => True) false σ₁ | _ => False) E
theorem Zoe {e : Expr} {t : TE} (h1 : Y1 g sc r c e t) : Zr7 g sc r c e (Zsh t) := .mk fun A env s ℓ σ Q E X h => by
  refine wpAny_mono (h1.run A env s ℓ σ _ E X h) (fun v s₁ p => ?_) fun _ _ p => p
  refine Wr.elim p fun x σ₁ hv hR hx hs hq => ?_
  cases x with
  | str x =>
    obtain ⟨hf, t, rfl⟩ := Z8.mp hv
    exact wpAny_pyIter_ascii hq.1 (Zcr hR hx hs (Zpd _ x t) ⟨_, Heap.get?_push_size _ rfl, rfl, rfl⟩ (by show Y3 (Zhl x).length; unfold Zhl; rw [List.length_map]; show Y3 x.cps.toList.length; rw [Array.length_toList]; exact hf) hq.2)
  | _ => exact hq.elim
noncomputable def Zqp : TF := fun xs σ Q E => match xs with | [.str x] => Q (.int x.length) σ | xs => Zhz xs σ Q E
theorem Zi4 : Zdb g r (.builtin "len") Zqp := .mk fun A s σ xs vs Q E G F Rm R hv h => by
  unfold Zqp at h
  split at h
  · rename_i x
    obtain ⟨v, _, rfl, hx, hr⟩ := Zi hv
    rw [Zr hr]
    obtain ⟨hf, t, rfl⟩ := Z8.mp hx
    have := hf.fit
    exact P.len_str (by exact om9 this) (Xl R rfl ⟨rfl, rfl, rfl⟩ (Zx.mpr ⟨_, rfl⟩) h)
  · exact Xi.run A s σ xs vs Q E G F Rm R hv h
theorem Znk {n : Int} (h0 : 0 ≤ n) (h1 : n < 10 ^ 30) : n.natAbs.log2 < 1920 := by
  have hlt : n.natAbs < 2 ^ 1920 := by
    have h2 : (10 : Nat) ^ 30 < 2 ^ 1920 := by decide +kernel
    have h3 : n.natAbs < 10 ^ 30 := by
      have : (n.natAbs : Int) = n := Int.natAbs_of_nonneg h0
      have h4 : (n.natAbs : Int) < ((10 ^ 30 : Nat) : Int) := by rw [this]; exact h1
      exact Int.ofNat_lt.mp h4
    exact Nat.lt_of_lt_of_le h3 (by decide)
  by_cases z : n.natAbs = 0
  · rw [z]; decide +kernel
  · exact (Nat.log2_lt z).mpr hlt
noncomputable def Zun : TF := fun xs σ Q _ => ∃ (x : Str) (n : Int), xs = [.str x] ∧ PySem.intText? x = some n ∧ x.length ≤ 640 ∧ Q (.int n) σ
theorem Zoj : Zdb g r (.type "int") Zun := .mk fun A s σ xs vs Q E G F Rm R hv h => by
  obtain ⟨x, n, rfl, h0, h1, h⟩ := h
  obtain ⟨v, _, rfl, hx, hr⟩ := Zi hv
  rw [Zr hr]
  obtain ⟨_, t, rfl⟩ := Z8.mp hx
  exact KIN.call_text h0 h1 (Xl R rfl ⟨rfl, rfl, rfl⟩ (Zx.mpr ⟨_, rfl⟩) h)
noncomputable def Zqn : TF := fun xs σ Q _ => ∃ (a : Addr) (ys : List V), xs = [.ref a] ∧ σ a = some (.list ys) ∧ Q (.tup ys) σ
theorem Zi2 : Zdb g r (.type "tuple") Zqn := .mk fun A s σ xs vs Q E G F Rm R hv h => by
  obtain ⟨a, ys, rfl, e, h⟩ := h
  obtain ⟨v, _, rfl, hx, hr⟩ := Zi hv
  rw [Zr hr, Z9.mp hx]
  obtain ⟨hf, us, n, ho, hvs⟩ := (R.own a _ e).2
  have hl := Zu hvs
  simp only [Array.length_toList] at hl
  refine call_tuple_list ⟨_, ho, rfl, n, rfl⟩ (fun h' kp => ?_) (by rw [← hl]; exact hf.line)
  have kp2 : ∀ b o, s.heap.get? b = some o → (h'.push { cls := .type "tuple", data := .seq us }).get? b = some o := fun b o e => Heap.get?_push_of_some _ (kp b o e)
  have fr : s.heap.get? h'.objs.size = none := by
    cases q : s.heap.get? h'.objs.size with
    | none => rfl
    | some o => exact absurd (Heap.lt_size (kp _ o q)) (Nat.lt_irrefl _)
  refine ⟨.tup ys, σ, Xn.mpr ⟨hf, h'.objs.size, _, us, 0, rfl, fun w => ?_, Heap.get?_push_size _ rfl, rfl, rfl, VRs.mono (fun a o _ _ _ e _ _ => .of (kp2 a o e)) hvs⟩, R.keeps kp2, .keeps kp2, ⟨rfl, rfl, rfl⟩, h⟩
  obtain ⟨o, e⟩ := R.hid _ w; rw [fr] at e; cases e
noncomputable def Zse : TF := fun xs σ Q _ => ∃ (x y : Str), xs = [.str x, .str y] ∧ y = spS ∧ x.length ≤ 1000 ∧ ∀ a, σ a = none → Q (.ref a) (σ.set a (.list ((Txt.split x y).map V.str)))
theorem Zmx : Zdb g r (.builtin "str.split") Zse := .mk fun A s σ xs vs Q E G F Rm R hv h => by
  obtain ⟨x, y, rfl, ey, hz, h⟩ := h
  have hy : y.length ≠ 0 := by rw [ey]; decide
  obtain ⟨v, _, rfl, hx, hr⟩ := Zi hv
  obtain ⟨v2, _, rfl, hx2, hr2⟩ := Zi hr
  rw [Zr hr2]
  obtain ⟨hf, t, rfl⟩ := Z8.mp hx
  obtain ⟨_, u, rfl⟩ := Z8.mp hx2
  have hcnt : (Txt.split x y).length ≤ 1001 ∧ ∀ p ∈ Txt.split x y, p.length ≤ 1000 := by
    subst ey
    exact ⟨Nat.le_trans (Zfh x) (by exact Z1o hz), fun p hp => Nat.le_trans (Ziw hp) hz⟩
  have fin : ∀ (l : List (Str × Tok)) (tk : Nat), l.map (·.1) = Txt.split x y → Wq g s σ Q (.ref s.heap.objs.size) { s with heap := s.heap.push { cls := .type "list", data := .seq (strValues l).toArray }, toks := tk } := fun l tk e => by
    have hl : (Txt.split x y).length = l.length := by rw [← e]; simp
    refine ⟨.ref _, σ.set s.heap.objs.size (.list ((Txt.split x y).map V.str)), Z9.mpr rfl, R.alloc (Yo _ _) (Z1 _) ⟨?_, (strValues l).toArray, 0, Heap.get?_push_size _ rfl, ?_⟩, .alloc (Yo _ _) (Z1 _), ⟨rfl, rfl, rfl⟩, h _ (R.fresh (Z1 _))⟩
    · show ((Txt.split x y).map V.str).length ≤ 1000000
      rw [List.length_map]; omega
    · rw [← e]
      have hp : ∀ p ∈ l, p.1.length ≤ 1000 := fun p hp => hcnt.2 _ (by rw [← e]; exact List.mem_map_of_mem hp)
      clear e hl
      show VRs g (s.heap.push { cls := .type "list", data := .seq (strValues l).toArray }) _ (strValues l)
      generalize s.heap.push { cls := .type "list", data := .seq (strValues l).toArray } = hh
      induction l with
      | nil => exact Yx
      | cons p l ih => exact Yg (Z8.mpr ⟨Nat.le_trans (hp p (.head _)) (by decide), _, rfl⟩) (ih fun q hq => hp q (.tail _ hq))
  have hsz := hf.line
  have hy' : (y.length == 0) = false := by simpa using hy
  cases h1 : (decide (x.length < y.length) || decide (strKind x < strKind y))
  · cases hf : (occurrences x y 0 x.length (x.length + 1)).isEmpty
    · have e2 : Txt.split x y = partsBetween x (occurrences x y 0 x.length (x.length + 1)) y.length := (if_neg (ne_true_of_eq_false h1)).trans (if_neg (ne_true_of_eq_false hf))
      refine call_meets PySem.F.slot_str_split (typeIs_str _ _ _) PySem.F.entry_str_split (PySem.F.args_str_split_2 _ _) (meets_str_split_sep x y t u h1 hy' hf hsz (by rw [← e2]; exact Nat.le_trans hcnt.1 (by decide))) ?_
      show wants _ _ _ { s with toks := _, heap := s.heap.push { cls := .type "list", data := .seq (strsFrom s.toks (partsBetween x (occurrences x y 0 x.length (x.length + 1)) y.length)).toArray } }
      rw [strsFrom_eq]
      exact fin (numbered s.toks _) _ ((numbered_texts _ _).trans e2.symm)
    · exact call_meets PySem.F.slot_str_split (typeIs_str _ _ _) PySem.F.entry_str_split (PySem.F.args_str_split_2 _ _) (meets_str_split_not_found x y t u h1 hy' hf)
        (fin [(x, t)] _ ((if_neg (ne_true_of_eq_false h1)).trans (if_pos hf)).symm)
  · exact call_meets PySem.F.slot_str_split (typeIs_str _ _ _) PySem.F.entry_str_split (PySem.F.args_str_split_2 _ _) (meets_str_split_cannot_occur x y t u h1)
      (fin [(x, t)] _ (if_pos h1).symm)
noncomputable def Zum : TF := fun xs σ Q _ => ∃ (x : Str) (a : Addr) (ys : List Str), xs = [.str x, .ref a] ∧ σ a = some (.list (ys.map V.str)) ∧ (ys.map (·.length)).sum + ys.length * x.length ≤ 100000 ∧ Q (.str (Txt.join x ys)) σ
theorem Zn9 {h : Heap} : ∀ {ys : List Str} {vs : List Value}, VRs g h (ys.map V.str) vs → ∃ l : List (Str × Tok), vs = strValues l ∧ l.map (·.1) = ys
  | [], vs, a => by rw [Zr a]; exact ⟨[], rfl, rfl⟩
  | y :: ys, vs, a => by
    obtain ⟨v, r, rfl, hv, b⟩ := Zi a
    obtain ⟨_, t, rfl⟩ := Z8.mp hv
    obtain ⟨l, rfl, e⟩ := Zn9 b
    exact ⟨(y, t) :: l, rfl, by simp [e]⟩
theorem Zoi : Zdb g r (.builtin "str.join") Zum := .mk fun A s σ xs vs Q E G F Rm R hv h => by
  obtain ⟨x, a, ys, rfl, e, hz, h⟩ := h
  obtain ⟨v, _, rfl, hx, hr⟩ := Zi hv
  obtain ⟨v2, _, rfl, hx2, hr2⟩ := Zi hr
  rw [Zr hr2, Z9.mp hx2]
  obtain ⟨hfx, t, rfl⟩ := Z8.mp hx
  obtain ⟨hf, us, n, ho, hvs⟩ := (R.own a _ e).2
  obtain ⟨l, el, et⟩ := Zn9 hvs
  have eu : us = (strValues l).toArray := by rw [← el]
  subst eu
  refine SC.join ⟨_, ho, rfl, n, rfl⟩ et (joinOk_of (by exact Z1n hz)) fun t' k => Xl R rfl ⟨rfl, rfl, rfl⟩ (Z8.mpr ⟨?_, _, rfl⟩) h
  have := StrLaws.join_length_le x ys
  show (glued x ys).length ≤ 1000000
  rw [StrLaws.glued_eq_join]
  exact Z1m hz this
end
section
open PySem PySem.W PyProof.Rows
section
variable {prog : Program} {w : World} {A : Around} {E : Value → Shared → Prop} {s : Shared}
theorem Zjd : typeLookup (.type "list") "keys" = pure none := by rw [typeLookup_type, builtinLookup_eq_fast]; kernel_rfl
theorem Zgp {a : Addr} {xs : Array Value} {k : Nat} {Q : Option Value → Shared → Prop} (hx : s.heap.get? a = some { cls := .type "list", data := .seq xs k }) (hA : A.handled = none)
    (h : ∀ h' tk, (∀ b o, s.heap.get? b = some o → h'.get? b = some o) → Q none { s with heap := h', toks := tk }) : wpAny (model prog w) A (getAttr? (.ref a) "keys") Q E s := by
  obtain ⟨hp, g, d, tk, os⟩ := s
  have hT : ∀ tk', (⟨hp, g, d, tk', os⟩ : Shared).TypeIs (.ref a) "list" := fun _ => ⟨_, hx, rfl⟩
  have f1 := sub_AttributeError
  have f3 := F.slot_list_getattribute.lookup
  have f4 := F.slot_list_getattribute.bind (.ref a)
  have f5 := am_list_getattr_none
  have hname : (["__module__", "__name__", "__qualname__", "__doc__", "__annotations__"] : List Str).contains (Str.ofString "keys") = false := by decide +kernel
  unfold getAttr?
  refine wpAny_bind (wpAny_mkText ?_)
  unfold getAttrBy?
  refine wpAny_bind (wpAny_attempt ?_)
  unfold getAttrBy
  refine wpAny_holding ?_
  refine wpAny_bind (wpAny_typeOf (T := "list") (hT _) ?_)
  refine wpAny_bind (wpAny_of_eq f3 ?_)
  show wpAny _ _ (getAttrByItsOwn (.ref a) (.str "keys" tk) (.type "list") (.builtin "list.__getattribute__") false false) _ _ _
  unfold getAttrByItsOwn
  refine wpAny_bind ?_
  show wpAny _ _ (pure none) _ _ _
  refine wpAny_pure ?_
  refine wpAny_bind (wpAny_attempt (wpAny_holding ?_))
  show wpAny _ _ (bindSpecial (.builtin "list.__getattribute__") (.ref a) >>= _) _ _ _
  refine wpAny_bind (wpAny_of_eq f4 ?_)
  show wpAny _ _ (call (.builtin "list.__getattribute__") [.ref a, .str "keys" tk]) _ _ _
  refine call_meets F.slot_list_getattribute (hT _) am_entry_list_getattribute (F.args_list_getattribute_2 _ _) (meets_getattribute_miss_list a xs k #[] "keys" _ Zjd hname (by decide +kernel)) ⟨hx, hA, fun h' tk' e hx' => ?_⟩
  obtain ⟨t', u', he⟩ := hx'.there
  show wpAny _ _ (getattributeRaised _ _ _ _ _ _ _) _ _ _
  unfold getattributeRaised
  refine wpAny_bind (wpAny_isInstance (T := "AttributeError") ⟨_, he, rfl⟩ f1 ?_)
  rw [if_pos rfl]
  refine wpAny_bind ?_
  show wpAny _ _ (typeLookup (.type "list") "__getattr__") _ _ _
  refine wpAny_of_eq f5 ?_
  show wpAny _ _ (throw (Value.ref e) >>= _) _ _ _
  refine wpAny_bind (wpAny_throw ?_)
  refine wpAny_bind (wpAny_isInstance (T := "AttributeError") ⟨_, he, rfl⟩ f1 ?_)
  rw [if_pos rfl]
  exact wpAny_pure (h _ _ hx'.keeps)
end
noncomputable def Zq3 (p : Int × V) : V := .tup [.int p.1, p.2]
section
variable {g : Gr} {r : Nat} {A : Around}
theorem Zb1 : entryFor table "dict.update.loop" = some Builtin.«dict.update.loop» := entryFor_of_tree (by kernel_rfl)
theorem Wg : plainId "dict.update.loop" = true := by decide +kernel
noncomputable def Zdi (kvs more : List (Int × V)) : List (Int × V) := more.foldl (fun acc kv => Zfb acc kv.1 kv.2) kvs
theorem Zkf {h0 : Heap} {l I d : Addr} {us : Array Value} {ps : List (Int × V)} {R : Result → Shared → Prop} (hh : A.handled = none) (hlI : l ≠ I) (hdl : d ≠ l) (hdI : d ≠ I) (hI0 : h0.get? I = none) (hd0 : h0.get? d = none) (hl0 : h0.IsList l us) (hlen : ps.length = us.size) (hvs : VRs g h0 (ps.map Zq3) us.toList) (hsm : us.size ≤ 1000000) :
    ∀ (k i : Nat) (s : Shared) (acc : List (Int × V)) (ws : List (Int × Value)), us.size - i = k → i ≤ us.size → s.heap.IsListIter I l i → (∀ b o, h0.get? b = some o → s.heap.get? b = some o) → s.heap.DictOf (intKind g.prog g.w) d ws → ws.map (·.1) = acc.map (·.1) → VRs g h0 (acc.map (·.2)) (ws.map (·.2)) → ws.length ≤ i →
    (∀ h' tk ws', (∀ b o, h0.get? b = some o → h'.get? b = some o) → h'.DictOf (intKind g.prog g.w) d ws' → ws'.map (·.1) = (Zdi acc (ps.drop i)).map (·.1) → VRs g h0 ((Zdi acc (ps.drop i)).map (·.2)) (ws'.map (·.2)) → R (.ok (.ret .none)) { s with heap := h', toks := tk }) →
    codeAny (model g.prog g.w) A (.builtin "dict.update.loop" ⟨[.ref d, .ref I, rawInt i, .none], []⟩) R s := by
  intro k
  induction k with
  | zero =>
    intro i s acc ws hk hi hit kp hd hks hvv hwl hR
    have hie : i = us.size := by exact Z2g hk hi
    refine codeAny_builtin Zb1 ?_
    rw [Around.under_plainId Wg _]
    show wpAny _ A.in1 (pyNext (.ref I) >>= _) _ _ s
    refine wpAny_bind (wpAny_pyNext_list_end hh hit (hl0.at fun o e => kp _ _ e) (by simp [hie]) fun h' eb => ?_)
    show wpAny _ A.in1 (Builtin.Dict.addKeywords d [] >>= _) _ _ _
    refine wpAny_bind (wpAny_pure (wpAny_pure ?_))
    refine hR h' s.toks ws (fun b o e => eb b o (fun z => by rw [z, hI0] at e; cases e) (kp b o e)) (hd.extBut eb hdI) ?_ ?_
    · rw [hie, ← hlen, List.drop_length]; exact hks
    · rw [hie, ← hlen, List.drop_length]; exact hvv
  | succ k ih =>
    intro i s acc ws hk hi hit kp hd hks hvv hwl hR
    have hlt : i < us.size := by exact Z2f hk hi
    have hlp : i < ps.length := by exact Zvh hlen hlt
    refine codeAny_builtin Zb1 ?_
    rw [Around.under_plainId Wg _]
    show wpAny _ A.in1 (pyNext (.ref I) >>= _) _ _ s
    obtain ⟨v, ev, hv⟩ := Zcy hvs (i := i) (x := Zq3 ps[i]) (by simp [hlp])
    have ev' : us[i]? = some v := by rw [← Array.getElem?_toList]; exact ev
    refine wpAny_bind (wpAny_pyNext_list_item hit (hl0.at fun o e => kp _ _ e) ev' fun h' hit' sb => ?_)
    have kp' : ∀ b o, h0.get? b = some o → h'.get? b = some o := fun b o e => sb.extBut b o (fun z => by rw [z, hI0] at e; cases e) (kp b o e)
    obtain ⟨_, ta, to, tus, tn, rfl, _, hto, htc, htd, htv⟩ := Xn.mp hv
    obtain ⟨u1, r1, q1, hu1, htv⟩ := Zi htv
    obtain ⟨u2, r2, rfl, hu2, htv⟩ := Zi htv; clear htv
    rw [Zr htv] at q1
    obtain ⟨t1, rfl⟩ := Zx.mp hu1
    show wpAny _ A.in1 (holding [.ref ta] _ >>= _) _ _ _
    refine wpAny_bind (wpAny_holding (wpAny_bind (wpAny_tryCatch ?_)))
    unfold Builtin.Dict.pairItems
    refine wpAny_bind (wpAny_typeOf (T := "tuple") ⟨_, kp' _ _ hto, htc⟩ ?_)
    rw [if_pos (by decide)]
    refine wpAny_bind (wpAny_seqItems (kp' _ _ hto) htd (wpAny_pure ?_))
    rw [show (some tus).getD #[] = tus from rfl, q1]
    show wpAny _ A.in1 (holding [.int ps[i].1 t1, u2] (dictSet d (.int ps[i].1 t1) u2)) _ _ _
    refine wpAny_holding (wpAny_dictSet_pairs (intKind_is _ _ ps[i].1 t1) (hd.extBut sb.extBut hdI) (fun h'' hd'' sb'' => ?_) (by have : sizeLine = 16777216 := rfl; exact Z1l hlen hsm hwl hlt this))
    have hwv := Zgy (k := ps[i].1) (x := ps[i].2) hu2 hks hvv
    refine wpAny_pure ⟨plainId_quiet Wg _, ?_⟩
    have hdrop : ps.drop i = ps[i] :: ps.drop (i + 1) := List.drop_eq_getElem_cons hlp
    refine ih (i + 1) _ (Zfb acc ps[i].1 ps[i].2) (stored ws ps[i].1 u2) (by exact Z2e hk hlt) hlt (hit'.at fun o e => sb''.extBut _ _ (Ne.symm hdI) e) (fun b o e => sb''.extBut b o (fun z => by rw [z, hd0] at e; cases e) (kp' b o e)) hd'' hwv.1 hwv.2 ?_ fun h3 tk ws' k1 k2 k3 k4 => ?_
    · have : (stored ws ps[i].1 u2).length ≤ ws.length + 1 := by unfold stored; split <;> simp
      exact Z1k hwl hlp this
    · refine hR h3 tk ws' k1 k2 ?_ ?_
      · rw [hdrop]; exact k3
      · rw [hdrop]; exact k4
end
end
section
open PySem PySem.W PyProof.Rows
variable {g : Gr} {r : Nat} {sc : Scope} {c : Bool}
noncomputable def Zup : TF := fun xs σ Q _ => ∃ a ps, xs = [.ref a] ∧ σ a = some (.list (ps.map Zq3)) ∧ ∀ d ep, σ d = none → Q (.ref d) (σ.set d (.dictI (Zdi [] ps) ep))
theorem Zd8 : ∀ (more kvs : List (Int × V)), (Zdi kvs more).length ≤ kvs.length + more.length
  | [], kvs => Nat.le_refl _
  | p :: more, kvs => by
    have := Zd8 more (Zfb kvs p.1 p.2)
    have := Zdr kvs p.1 p.2
    show (Zdi (Zfb kvs p.1 p.2) more).length ≤ _
    simp only [List.length_cons]; omega
theorem Zmy : Zdb g r (.type "dict") Zup := .mk fun A s σ xs vs Q E G Fr Rm R hv h => by
  obtain ⟨a, ps, rfl, ea, h⟩ := h
  obtain ⟨v, _, rfl, hx, hr⟩ := Zi hv
  rw [Zr hr, Z9.mp hx]
  obtain ⟨hf, us, n, ho, hvs⟩ := (R.own a _ ea).2
  have hlen : ps.length = us.size := by have := Zu hvs; simpa using this
  have hsm : us.size ≤ 1000000 := by rw [← hlen]; simpa [Y3] using hf
  refine callType_codes (Q₁ := fun obj s₁ => obj = .ref s.heap.objs.size ∧ s₁ = { s with heap := s.heap.push { cls := .type "dict", data := .dict #[] } }) PySem.F.kt_called_dict (PySem.F.kt_typeCall_dict_1 _) PySem.F.entry_dict_init (kt_code_dict_new _ ⟨rfl, rfl⟩) ?_
  rintro obj s₁ ⟨rfl, rfl⟩
  have kp1 := Yo s.heap { cls := .type "dict", data := .dict #[] }
  have hnew : (s.heap.push { cls := .type "dict", data := .dict #[] }).DictOf (intKind g.prog g.w) s.heap.objs.size [] := Heap.DictOf.new s.heap
  have hal : a < s.heap.objs.size := Heap.lt_size ho
  refine ⟨hnew.typeIs, PySem.F.args_dict_init_2 _ _, ?_⟩
  unfold Builtin.«dict.__init__»
  refine wpAny_bind ?_
  unfold Builtin.Dict.selfAndRest
  refine wpAny_bind (wpAny_notOrdered_dict hnew.typeIs ?_)
  show wpAny _ _ (pure (s.heap.objs.size, [Value.ref a])) _ _ _
  refine wpAny_pure ?_
  show wpAny _ _ (Builtin.Dict.updateFrom "dict.__init__" s.heap.objs.size (.ref a) [] .none) _ _ _
  unfold Builtin.Dict.updateFrom
  refine wpAny_bind (wpAny_typeOf (T := "list") ⟨_, kp1 _ _ ho, rfl⟩ ?_)
  rw [if_pos (by decide)]
  refine wpAny_bind (Zgp (A := A.in1.in1) (kp1 _ _ ho) (Rm.calm rfl) fun h2 tk2 kp2 => ?_)
  simp only [Option.isNone_none, if_true]
  refine wpAny_bind (wpAny_rule ?_)
  refine wpAny_bind (wpAny_pyIter_list ⟨_, kp2 _ _ (kp1 _ _ ho), rfl, n, rfl⟩ ?_)
  have kp3 := Yo h2 { cls := .type "list_iterator", data := .fields #[.ref a, .int 0 0] }
  have hlt2 : s.heap.objs.size < h2.objs.size := by
    obtain ⟨o, q⟩ : ∃ o, h2.get? s.heap.objs.size = some o := ⟨_, kp2 _ _ (Heap.get?_push_size _ rfl)⟩
    exact Heap.lt_size q
  refine wpAny_pure ⟨plainId_quiet Wg _, ?_⟩
  have kpA : ∀ b o, s.heap.get? b = some o → (h2.push { cls := .type "list_iterator", data := .fields #[.ref a, .int 0 0] }).get? b = some o := fun b o e => kp3 _ _ (kp2 _ _ (kp1 _ _ e))
  refine Zkf (A := A.in1) (h0 := s.heap) (l := a) (I := h2.objs.size) (us := us) (ps := ps) (Rm.calm rfl) ?_ (Nat.ne_of_gt hal) (Nat.ne_of_lt hlt2) (Heap.get?_none_of_le (Nat.le_of_lt hlt2)) (Z1 _) ⟨_, ho, rfl, n, rfl⟩ hlen hvs hsm _ 0 { s with heap := h2.push { cls := .type "list_iterator", data := .fields #[.ref a, .int 0 0] }, toks := tk2 } [] [] rfl (Nat.zero_le _) ⟨_, Heap.get?_push_size _ rfl, rfl, rfl⟩ kpA ?_ rfl Yx (Nat.le_refl _) fun h' tk ws' k1 k2 k3 k4 => ?_
  · exact Nat.ne_of_lt (Nat.lt_trans hal hlt2)
  · obtain ⟨o, es, ep, q, rest⟩ := hnew
    exact ⟨o, es, ep, kp3 _ _ (kp2 _ _ q), rest⟩
  · obtain ⟨ep, k2⟩ := Zb5 k2
    refine ⟨rfl, .ref _, σ.set s.heap.objs.size (.dictI (Zdi [] ps) ep), Z9.mpr rfl, R.alloc k1 (Z1 _) ⟨?_, ws', k2, ?_, ?_⟩, .alloc k1 (Z1 _), ⟨rfl, rfl, rfl⟩, h _ _ (R.fresh (Z1 _))⟩
    · have := Zd8 ps []
      simp at this
      unfold Y3; exact Z1j hlen hsm this
    · simpa using k3
    · exact VRs.mono (fun a o _ _ _ e _ _ => .of (k1 a o e)) (by simpa using k4)
noncomputable def Zlk (t : TE) : TB := fun ℓ σ Q E => t ℓ σ (fun x σ₁ => ∃ a kvs ep, x = .ref a ∧ σ₁ a = some (.dictI kvs ep) ∧ ∀ d ep', σ₁ d = none → Q (!kvs.isEmpty) (σ₁.set d (.dictI [] ep'))) E
theorem Zi6 {e : Expr} {t : TE} {p pos : Pos} (h1 : Y1 g sc r c e t) : Znq g sc r c (.Compare e [.NotEq] [.Dict [] [] p] pos) (Zlk t) := .mk fun A env s ℓ σ Q E X h => by
  refine wpAny_isTrue_Compare1 (wpAny_mono (h1.run A env s ℓ σ _ E X h) (fun u s₁ p => ?_) fun _ _ p => p) rfl
  obtain ⟨x, σ₁, hu, hR, hx, hs, a, kvs, ep, rfl, e, hq⟩ := p
  have X₁ := X.step hR hx
  refine wpAny_mono (Zem.run A env s₁ ℓ σ₁ (fun v σ₂ => ∃ d ep', v = .ref d ∧ σ₁ d = none ∧ σ₂ = σ₁.set d (.dictI [] ep')) E X₁ fun d ep' q => ⟨d, ep', rfl, q, rfl⟩) (fun v s₂ p => ?_) fun _ _ p => p.back hx hs
  obtain ⟨b, σ₂, hv, hR2, hx2, hs2, d, ep', rfl, off, rfl⟩ := p
  have X₂ := X₁.step hR2 hx2
  have hne : a ≠ d := fun z => by rw [z, off] at e; cases e
  have e2 : (σ₁.set d (.dictI [] ep')) a = some (.dictI kvs ep) := by rw [Ze hne]; exact e
  obtain ⟨hf, us, hd, hk, _⟩ := (hR2.own a _ e2).2
  obtain ⟨_, us', hd', hk', _⟩ := (hR2.own d _ Zd).2
  have hus' : us' = [] := by cases us' with | nil => rfl | cons _ _ => simp at hk'
  subst hus'
  have hlen : kvs.length = us.length := by have := congrArg List.length hk; simpa using this.symm
  rw [Z9.mp hu, Z9.mp hv]
  refine keq_ne (knd := intKind g.prog g.w) (r := true) (X8 X.gok hR2 e2) (X8 X.gok hR2 Zd) hd.dictOf hd'.dictOf (by have := X.room.cline; exact Z1i this) (fun q => ?_) ?_
  · have : us = [] := List.length_eq_zero_iff.mp (by simpa using q)
    rw [this]; exact .nil
  · refine wpAny_truthy_bool ⟨!kvs.isEmpty, _, ?_, hR2, hx.trans hx2, hs.trans hs2, hq d ep' off⟩
    cases kvs with
    | nil => simp at hlen; simp [← hlen]
    | cons _ _ => simp at hlen; simp [← hlen]
end
section
structure Rw where
  n : Int
  l : Int
  r : Int
  h : Option Int
noncomputable def Rw.e (x : Rw) (s : Bool) : Int := if s then x.r else x.l
noncomputable def Inc (S : List Rw) : Prop := S.Pairwise fun x y => x.n < y.n
noncomputable def Yq (S : List Rw) : Prop := ∀ x ∈ S, ∀ y ∈ S, ∀ s, x.e s = y.e s → x.h = y.h → x.h ≠ none → x.n = y.n
noncomputable def Zbu (S : List Rw) (s : Bool) (e h : Int) : Prop := ∀ x ∈ S, x.e s = e → x.h ≠ some h
noncomputable def deg (S : List Rw) (s : Bool) (e : Int) : Nat := (S.filter fun x => x.e s == e).length
noncomputable def Zgm (S : List Rw) (s : Bool) (e h : Int) : Option Rw := S.find? fun x => x.e s == e && x.h == some h
theorem Inc.inj {S : List Rw} (hi : Inc S) : ∀ {x y : Rw}, x ∈ S → y ∈ S → x.n = y.n → x = y := by
  induction S with
  | nil => intro x y h; cases h
  | cons z S ih =>
    intro x y hx hy e
    rcases List.pairwise_cons.1 hi with ⟨h1, h2⟩
    rcases List.mem_cons.1 hx with p | p <;> rcases List.mem_cons.1 hy with q | q
    · rw [p, q]
    · have := h1 _ q; rw [← p] at this; omega
    · have := h1 _ p; rw [← q] at this; omega
    · exact ih h2 p q e
theorem Zif : ∀ (a b : List Int), a.Nodup → (∀ x ∈ a, x ∈ b) → a.length ≤ b.length
  | [], b, _, _ => Nat.zero_le _
  | x :: a, b, hn, hs => by
    have hx : x ∈ b := hs x (.head _)
    rcases List.nodup_cons.1 hn with ⟨h1, h2⟩
    have := Zif a (b.erase x) h2 fun y hy => (List.mem_erase_of_ne (by rintro rfl; exact h1 hy)).2 (hs y (.tail _ hy))
    rw [List.length_erase_of_mem hx] at this
    have : 0 < b.length := List.length_pos_of_mem hx
    simp only [List.length_cons]; omega
noncomputable def Xy (s : Bool) (i : Nat) : Bool := if i % 2 = 0 then s else !s
noncomputable def Xk (one other : Int) (i : Nat) : Int := if i % 2 = 0 then other else one
theorem Zdo {s : Bool} {i : Nat} : Xy s (i + 1) = !(Xy s i) := by
  unfold Xy
  rcases Nat.mod_two_eq_zero_or_one i with h | h
  · rw [if_neg (by exact Zvg h), if_pos h]
  · rw [if_pos (by exact Zvf h), if_neg (by exact Zq9 h)]; simp
theorem Zdk {one other : Int} {i : Nat} : Xk one other (i + 1) = one + other - Xk one other i := by
  unfold Xk
  rcases Nat.mod_two_eq_zero_or_one i with h | h
  · rw [if_neg (by exact Zvg h), if_pos h]; exact Z1h
  · rw [if_pos (by exact Zvf h), if_neg (by exact Zq9 h)]; exact Z1g
theorem Zm2 {s : Bool} {i j : Nat} (h : i % 2 = j % 2) : Xy s i = Xy s j := by unfold Xy; rw [h]
theorem Zej {one other : Int} {i j : Nat} (h : i % 2 = j % 2) : Xk one other i = Xk one other j := by unfold Xk; rw [h]
theorem Zbv {one other : Int} (hne : one ≠ other) {i j : Nat} (h : Xk one other i = Xk one other j) : i % 2 = j % 2 := by
  unfold Xk at h
  rcases Nat.mod_two_eq_zero_or_one i with a | a <;> rcases Nat.mod_two_eq_zero_or_one j with b | b
  · exact Z1f a b
  · rw [if_pos a, if_neg (by exact Zq9 b)] at h; exact absurd h.symm hne
  · rw [if_neg (by exact Zq9 a), if_pos b] at h; exact absurd h hne
  · exact Z1e a b
structure Zb3 (S : List Rw) (s : Bool) (e one other : Int) (l : List Rw) : Prop where
  mem : ∀ x ∈ l, x ∈ S
  hue : ∀ i x, l[i]? = some x → x.h = some (Xk one other i)
  fst : ∀ x, l[0]? = some x → x.e s = e
  nxt : ∀ i x y, l[i]? = some x → l[i + 1]? = some y → y.e (Xy s (i + 1)) = x.e (Xy s (i + 1))
noncomputable def Zqi (s : Bool) (e : Int) (l : List Rw) : Int := match l.getLast? with | none => e | some x => x.e (Xy s l.length)
noncomputable def Zef (S : List Rw) (s : Bool) (e one other : Int) (l : List Rw) : Prop := Zbu S (Xy s l.length) (Zqi s e l) (Xk one other l.length)
section
variable {S : List Rw} {s : Bool} {e one other : Int} {l : List Rw}
theorem Zb3.nil : Zb3 S s e one other [] := ⟨fun _ h => absurd h (by simp), fun _ _ h => absurd h (by simp), fun _ h => absurd h (by simp), fun _ _ _ h => absurd h (by simp)⟩
theorem Zn3 {x : Rw} : Zqi s e (l ++ [x]) = x.e (Xy s (l.length + 1)) := by unfold Zqi; simp
theorem Zd4 {i : Nat} {x y : Rw} (h : (l ++ [x])[i]? = some y) : (i < l.length ∧ l[i]? = some y) ∨ (i = l.length ∧ y = x) := by
  rcases Nat.lt_trichotomy i l.length with q | q | q
  · left; exact ⟨q, by rwa [List.getElem?_append_left q] at h⟩
  · right; subst q; simp at h; exact ⟨rfl, h.symm⟩
  · rw [List.getElem?_append_right (by exact Zve q), List.getElem?_eq_none (by simp; exact Zvd q)] at h; cases h
theorem Zb3.snoc (P : Zb3 S s e one other l) {x : Rw} (hx : x ∈ S) (hh : x.h = some (Xk one other l.length)) (he : x.e (Xy s l.length) = Zqi s e l) : Zb3 S s e one other (l ++ [x]) := by
  refine ⟨fun y hy => ?_, fun i y hy => ?_, fun y hy => ?_, fun i y z hy hz => ?_⟩
  · rcases List.mem_append.1 hy with h | h
    · exact P.mem y h
    · rw [List.mem_singleton.1 h]; exact hx
  · rcases Zd4 hy with ⟨_, h⟩ | ⟨rfl, rfl⟩
    · exact P.hue i y h
    · exact hh
  · rcases Zd4 hy with ⟨_, h⟩ | ⟨q, rfl⟩
    · exact P.fst y h
    · have hl : l = [] := List.length_eq_zero_iff.1 q.symm
      subst hl; exact he
  · rcases Zd4 hz with ⟨q, h⟩ | ⟨q, rfl⟩
    · rcases Zd4 hy with ⟨_, h'⟩ | ⟨q', _⟩
      · exact P.nxt i y z h' h
      · exact Z1d q q'
    · rcases Zd4 hy with ⟨q', h'⟩ | ⟨q', _⟩
      · rw [q, he]
        unfold Zqi
        have : l.getLast? = some y := by
          rw [List.getLast?_eq_getElem?, ← q]; simpa using h'
        rw [this]
      · exact Z1c q q'
theorem Zb3.inj (P : Zb3 S s e one other l) (hp : Yq S) (hi : Inc S) (hne : one ≠ other) (hf : Zbu S s e one) : ∀ (i j : Nat) (x y : Rw), i < j → l[i]? = some x → l[j]? = some y → x.n ≠ y.n := by
  intro i
  induction i with
  | zero =>
    intro j x y hij hx hy hn
    have hxy := hi.inj (P.mem x (List.mem_of_getElem? hx)) (P.mem y (List.mem_of_getElem? hy)) hn
    subst hxy
    have hpar := Zbv hne (Option.some.inj ((P.hue _ _ hx).symm.trans (P.hue _ _ hy)))
    cases j with
    | zero => exact Z1b hij
    | succ j =>
      obtain ⟨z, hz⟩ : ∃ z, l[j]? = some z := by
        rcases Nat.lt_or_ge j l.length with q | q
        · exact ⟨_, List.getElem?_eq_getElem q⟩
        · rw [List.getElem?_eq_none (by exact Z1a hpar q)] at hy; cases hy
      have h1 := P.nxt j z x hz hy
      have hs : Xy s (j + 1) = s := by unfold Xy; rw [if_pos (by exact Z09 hpar)]
      rw [hs, P.fst x hx] at h1
      refine hf z (P.mem z (List.mem_of_getElem? hz)) h1.symm ?_
      rw [P.hue j z hz]; unfold Xk; rw [if_neg (by exact Z08 hpar)]
  | succ i ih =>
    intro j x y hij hx hy hn
    have hxy := hi.inj (P.mem x (List.mem_of_getElem? hx)) (P.mem y (List.mem_of_getElem? hy)) hn
    subst hxy
    have hpar := Zbv hne (Option.some.inj ((P.hue _ _ hx).symm.trans (P.hue _ _ hy)))
    cases j with
    | zero => exact Z07 hij
    | succ j =>
      have pred : ∀ k, l[k + 1]? = some x → ∃ z, l[k]? = some z := fun k hk => by
        rcases Nat.lt_or_ge k l.length with q | q
        · exact ⟨_, List.getElem?_eq_getElem q⟩
        · rw [List.getElem?_eq_none (by exact Zvb q)] at hk; cases hk
      obtain ⟨z, hz⟩ := pred i hx
      obtain ⟨z', hz'⟩ := pred j hy
      have h1 := P.nxt i z x hz hx
      have h2 := P.nxt j z' x hz' hy
      rw [← Zm2 hpar] at h2
      refine ih j z z' (by exact Z06 hij hpar) hz hz' (hp z (P.mem z (List.mem_of_getElem? hz)) z' (P.mem z' (List.mem_of_getElem? hz')) _ (h1.symm.trans h2) ?_ ?_)
      · rw [P.hue i z hz, P.hue j z' hz', Zej (by exact Zva hpar : i % 2 = j % 2)]
      · rw [P.hue i z hz]; simp
theorem Zi9 (as : List Int) (h : ∀ (i j : Nat) (x y : Int), i < j → as[i]? = some x → as[j]? = some y → x ≠ y) : as.Nodup := by
  rw [List.Nodup, List.pairwise_iff_getElem]
  intro i j hi hj hij
  exact h i j _ _ hij (List.getElem?_eq_getElem hi) (List.getElem?_eq_getElem hj)
theorem Zb3.nodup (P : Zb3 S s e one other l) (hp : Yq S) (hi : Inc S) (hne : one ≠ other) (hf : Zbu S s e one) : (l.map Rw.n).Nodup := by
  refine Zi9 _ fun i j x y hij hx hy => ?_
  rw [List.getElem?_map] at hx hy
  cases ex : l[i]? with
  | none => rw [ex] at hx; cases hx
  | some a =>
    cases ey : l[j]? with
    | none => rw [ey] at hy; cases hy
    | some b =>
      rw [ex] at hx; rw [ey] at hy; cases hx; cases hy
      exact P.inj hp hi hne hf i j a b hij ex ey
theorem Zb3.len (P : Zb3 S s e one other l) (hp : Yq S) (hi : Inc S) (hne : one ≠ other) (hf : Zbu S s e one) : l.length ≤ S.length := by
  have := Zif (l.map Rw.n) (S.map Rw.n) (P.nodup hp hi hne hf) fun x hx => by
    obtain ⟨a, ha, rfl⟩ := List.mem_map.1 hx
    exact List.mem_map.2 ⟨a, P.mem a ha, rfl⟩
  simpa using this
noncomputable def Zal (nums : List Int) (one other : Int) (x : Rw) : Rw := if x.n ∈ nums then { x with h := x.h.map fun h => one + other - h } else x
theorem Zba {nums : List Int} {x : Rw} : (Zal nums one other x).n = x.n := by unfold Zal; split <;> rfl
theorem Zf5 {nums : List Int} {x : Rw} {t : Bool} : (Zal nums one other x).e t = x.e t := by unfold Zal; split <;> rfl
theorem Xm {nums : List Int} {x : Rw} (h : x.n ∉ nums) : Zal nums one other x = x := if_neg h
theorem Zb3.at (P : Zb3 S s e one other l) (hi : Inc S) {x : Rw} (hx : x ∈ S) (hn : x.n ∈ l.map Rw.n) : ∃ i : Nat, l[i]? = some x := by
  obtain ⟨a, ha, q⟩ := List.mem_map.1 hn
  have := hi.inj (P.mem a ha) hx q
  subst this
  obtain ⟨i, hi, e⟩ := List.getElem_of_mem ha
  exact ⟨i, by rw [List.getElem?_eq_getElem hi, e]⟩
theorem Zb3.flip_hue (P : Zb3 S s e one other l) {i : Nat} {x : Rw} (hx : l[i]? = some x) : (Zal (l.map Rw.n) one other x).h = some (Xk one other (i + 1)) := by
  unfold Zal
  rw [if_pos (List.mem_map.2 ⟨x, List.mem_of_getElem? hx, rfl⟩)]
  show x.h.map _ = _
  rw [P.hue i x hx, Zdk]; rfl
theorem Zkz {i : Nat} {x : Rw} (h : l[i + 1]? = some x) : ∃ z, l[i]? = some z := by
  rcases Nat.lt_or_ge i l.length with q | q
  · exact ⟨_, List.getElem?_eq_getElem q⟩
  · rw [List.getElem?_eq_none (by exact Zvb q)] at h; cases h
theorem Zb3.near (P : Zb3 S s e one other l) (D : Zef S s e one other l) (hp : Yq S) (hf : Zbu S s e one) {i : Nat} {x y : Rw} (hx : l[i]? = some x) (hy : y ∈ S) {t : Bool} (ht : y.e t = x.e t) (hh : y.h = some (Xk one other (i + 1))) : y.n ∈ l.map Rw.n := by
  have hcase : t = Xy s i ∨ t = Xy s (i + 1) := by rw [Zdo]; cases t <;> cases Xy s i <;> simp
  have fin : ∀ {k : Nat} {z : Rw}, l[k]? = some z → z.e t = y.e t → z.h = y.h → y.n ∈ l.map Rw.n := fun {k z} hk q1 q2 => by
    have hz := List.mem_of_getElem? hk
    have := hp z (P.mem z hz) y hy t q1 q2 (by rw [q2, hh]; simp)
    exact this ▸ List.mem_map.2 ⟨z, hz, rfl⟩
  rcases hcase with rfl | rfl
  · cases i with
    | zero =>
      refine absurd ?_ (hf y hy (by rw [← P.fst x hx]; exact ht))
      rw [hh]; rfl
    | succ k =>
      obtain ⟨z, hz⟩ := Zkz hx
      refine fin hz ((P.nxt k z x hz hx).symm.trans ht.symm) ?_
      rw [P.hue k z hz, hh, Zej (by exact Z05 : k % 2 = (k + 1 + 1) % 2)]
  · cases q : l[i + 1]? with
    | some z => exact fin q ((P.nxt i x z hx q).trans ht.symm) (by rw [P.hue _ z q, hh])
    | none =>
      have hl : l.length = i + 1 := by
        have h1 : i < l.length := by
          rcases Nat.lt_or_ge i l.length with w | w
          · exact w
          · rw [List.getElem?_eq_none (by exact Z04 w)] at hx; cases hx
        have h2 := List.getElem?_eq_none_iff.1 q
        exact Z03 h1 h2
      refine absurd ?_ (D y hy ?_)
      · rw [hl]; exact hh
      · unfold Zqi
        have : l.getLast? = some x := by rw [List.getLast?_eq_getElem?, hl]; simpa using hx
        rw [this, hl]; exact ht
theorem Zc8 {nums : List Int} {x' : Rw} (h : x' ∈ S.map (Zal nums one other)) : ∃ x ∈ S, x' = Zal nums one other x := by
  obtain ⟨x, a, b⟩ := List.mem_map.1 h; exact ⟨x, a, b.symm⟩
theorem Zb3.flip_proper (P : Zb3 S s e one other l) (D : Zef S s e one other l) (hp : Yq S) (hi : Inc S) (hne : one ≠ other) (hf : Zbu S s e one) : Yq (S.map (Zal (l.map Rw.n) one other)) := by
  intro x' hx' y' hy' t ht hh hs
  obtain ⟨x, hx, rfl⟩ := Zc8 hx'
  obtain ⟨y, hy, rfl⟩ := Zc8 hy'
  rw [Zf5, Zf5] at ht
  rw [Zba, Zba]
  by_cases a : x.n ∈ l.map Rw.n <;> by_cases b : y.n ∈ l.map Rw.n
  · obtain ⟨i, hxi⟩ := P.at hi hx a
    obtain ⟨j, hyj⟩ := P.at hi hy b
    rw [P.flip_hue hxi, P.flip_hue hyj] at hh
    have := Zbv hne (Option.some.inj hh)
    refine hp x hx y hy t ht ?_ ?_
    · rw [P.hue i x hxi, P.hue j y hyj, Zej (by exact Zva this : i % 2 = j % 2)]
    · rw [P.hue i x hxi]; simp
  · obtain ⟨i, hxi⟩ := P.at hi hx a
    rw [P.flip_hue hxi, Xm b] at hh
    exact absurd (P.near D hp hf hxi hy ht.symm hh.symm) b
  · obtain ⟨j, hyj⟩ := P.at hi hy b
    rw [P.flip_hue hyj, Xm a] at hh
    exact absurd (P.near D hp hf hyj hx ht hh) a
  · rw [Xm a, Xm b] at hh
    rw [Xm a] at hs
    exact hp x hx y hy t ht hh hs
theorem Zb3.flip_free (P : Zb3 S s e one other l) (D : Zef S s e one other l) (hp : Yq S) (hi : Inc S) (hne : one ≠ other) (hf : Zbu S s e one) : Zbu (S.map (Zal (l.map Rw.n) one other)) s e other := by
  intro x' hx' he hh
  obtain ⟨x, hx, rfl⟩ := Zc8 hx'
  rw [Zf5] at he
  by_cases a : x.n ∈ l.map Rw.n
  · obtain ⟨i, hxi⟩ := P.at hi hx a
    rw [P.flip_hue hxi] at hh
    have h1 : Xk one other (i + 1) = Xk one other 0 := Option.some.inj hh
    have := Zbv hne h1
    refine hf x hx he ?_
    rw [P.hue i x hxi]; unfold Xk; rw [if_neg (by exact Z02 this)]
  · rw [Xm a] at hh
    cases q : l with
    | nil =>
      subst q
      exact D x hx he hh
    | cons z r =>
      have hz0 : l[0]? = some z := by rw [q]; rfl
      have hz := List.mem_of_getElem? hz0
      have := hp z (P.mem z hz) x hx s ((P.fst z hz0).trans he.symm) (by rw [P.hue 0 z hz0, hh]; rfl) (by rw [P.hue 0 z hz0]; simp)
      exact a (this ▸ List.mem_map.2 ⟨z, hz, rfl⟩)
theorem Zb3.flip_far (P : Zb3 S s e one other l) (hi : Inc S) (hne : one ≠ other) {e2 : Int} (hf : Zbu S (!s) e2 other) : Zbu (S.map (Zal (l.map Rw.n) one other)) (!s) e2 other := by
  intro x' hx' he hh
  obtain ⟨x, hx, rfl⟩ := Zc8 hx'
  rw [Zf5] at he
  by_cases a : x.n ∈ l.map Rw.n
  · obtain ⟨i, hxi⟩ := P.at hi hx a
    rw [P.flip_hue hxi] at hh
    have h1 : Xk one other (i + 1) = Xk one other 0 := Option.some.inj hh
    have := Zbv hne h1
    cases i with
    | zero => exact Z01 this
    | succ k =>
      obtain ⟨z, hz⟩ := Zkz hxi
      have h2 := P.nxt k z x hz hxi
      have hs : Xy s (k + 1) = !s := by unfold Xy; rw [if_neg (by exact Z00 this)]
      rw [hs, he] at h2
      refine hf z (P.mem z (List.mem_of_getElem? hz)) h2.symm ?_
      rw [P.hue k z hz]; unfold Xk; rw [if_pos (by exact Z0z this)]
  · rw [Xm a] at hh
    exact hf x hx he hh
end
noncomputable def Wk (k : Int) (h : Option Int) (x : Rw) : Rw := if x.n = k then { x with h := h } else x
theorem Xv {k : Int} {h : Option Int} {x : Rw} : (Wk k h x).n = x.n := by unfold Wk; split <;> rfl
theorem Zg8 {k : Int} {h : Option Int} {x : Rw} {t : Bool} : (Wk k h x).e t = x.e t := by unfold Wk; split <;> rfl
theorem Wb {k : Int} {h : Option Int} {x : Rw} (q : x.n = k) : (Wk k h x).h = h := by unfold Wk; rw [if_pos q]
theorem Yv {k : Int} {h : Option Int} {x : Rw} (q : x.n ≠ k) : Wk k h x = x := if_neg q
theorem Za9 {S : List Rw} {f : Rw → Rw} (hf : ∀ x, (f x).n = x.n) (hi : Inc S) : Inc (S.map f) := by
  unfold Inc at *
  rw [List.pairwise_map]
  exact hi.imp fun h => by rw [hf, hf]; exact h
theorem Zg7 {S : List Rw} {k h : Int} (hp : Yq S) (hs : ∀ x ∈ S, x.n = k → ∀ t, Zbu S t (x.e t) h) : Yq (S.map (Wk k (some h))) := by
  intro x' hx' y' hy' t ht hh hne
  obtain ⟨x, hx, rfl⟩ := List.mem_map.1 hx'
  obtain ⟨y, hy, rfl⟩ := List.mem_map.1 hy'
  rw [Zg8, Zg8] at ht
  rw [Xv, Xv]
  by_cases a : x.n = k <;> by_cases b : y.n = k
  · rw [a, b]
  · rw [Wb a, Yv b] at hh
    exact absurd hh.symm (hs x hx a t y hy ht.symm)
  · rw [Wb b, Yv a] at hh
    exact absurd hh (hs y hy b t x hx ht)
  · rw [Yv a, Yv b] at hh
    rw [Yv a] at hne
    exact hp x hx y hy t ht hh hne
theorem Y7 {S : List Rw} {k : Int} (hp : Yq S) : Yq (S.map (Wk k none)) := by
  intro x' hx' y' hy' t ht hh hne
  obtain ⟨x, hx, rfl⟩ := List.mem_map.1 hx'
  obtain ⟨y, hy, rfl⟩ := List.mem_map.1 hy'
  rw [Zg8, Zg8] at ht
  rw [Xv, Xv]
  by_cases a : x.n = k <;> by_cases b : y.n = k
  · rw [a, b]
  · rw [Wb a] at hne; exact absurd rfl hne
  · rw [Wb b] at hh; rw [hh] at hne; exact absurd rfl hne
  · rw [Yv a, Yv b] at hh
    rw [Yv a] at hne
    exact hp x hx y hy t ht hh hne
noncomputable def Zd7 (m : Nat) : List Int := (List.range m).map Int.ofNat
theorem Zc6 {m : Nat} {h : Int} : h ∈ Zd7 m ↔ 0 ≤ h ∧ h < m := by
  unfold Zd7
  simp only [List.mem_map, List.mem_range]
  constructor
  · rintro ⟨a, b, rfl⟩; exact ⟨Int.natCast_nonneg _, by simpa using b⟩
  · rintro ⟨a, b⟩; exact ⟨h.toNat, by exact Zu9 a b, by simp; exact Z0y a⟩
theorem Za5 {m : Nat} : (Zd7 m).length = m := by simp [Zd7]
theorem Zm3 {m : Nat} : (Zd7 m).Nodup := by
  unfold Zd7
  refine List.Pairwise.map _ ?_ (List.nodup_range (n := m))
  intro a b h q; exact h (Int.ofNat.inj q)
noncomputable def Zke (S : List Rw) (s : Bool) (e : Int) : List Int := (S.filter fun x => x.e s == e).filterMap Rw.h
theorem Zfw {S : List Rw} {s : Bool} {e h : Int} : h ∈ Zke S s e ↔ ∃ x ∈ S, x.e s = e ∧ x.h = some h := by
  unfold Zke
  simp only [List.mem_filterMap, List.mem_filter, beq_iff_eq, and_assoc]
theorem Zk5 {S : List Rw} {s : Bool} {e : Int} {m : Nat} (hd : deg S s e ≤ m) (hx : ∃ x ∈ S, x.e s = e ∧ x.h = none) : ∃ h : Int, 0 ≤ h ∧ h < m ∧ Zbu S s e h := by
  refine Classical.byContradiction fun hn => ?_
  have hall : ∀ h ∈ Zd7 m, h ∈ Zke S s e := fun h hh => by
    obtain ⟨a, b⟩ := Zc6.1 hh
    refine Classical.byContradiction fun hq => hn ⟨h, a, b, fun x hx he hy => hq (Zfw.2 ⟨x, hx, he, hy⟩)⟩
  have h1 := Zif _ _ Zm3 hall
  rw [Za5] at h1
  have h2 : (Zke S s e).length < deg S s e := by
    obtain ⟨x, h1, h2, h3⟩ := hx
    have hm : x ∈ S.filter fun x => x.e s == e := List.mem_filter.2 ⟨h1, by simpa using h2⟩
    unfold Zke deg
    generalize S.filter (fun x => x.e s == e) = T at hm
    clear h1 hall hn hd
    induction T with
    | nil => cases hm
    | cons y T ih =>
      have hle := List.length_filterMap_le Rw.h T
      cases hm with
      | head => rw [List.filterMap_cons_none h3]; simp only [List.length_cons]; exact Z0x hle
      | tail _ hm =>
        have := ih hm
        cases q : y.h with
        | none => rw [List.filterMap_cons_none q]; simp only [List.length_cons]; exact Z0w this
        | some v => rw [List.filterMap_cons_some q]; simp only [List.length_cons]; exact Z0v this
  exact Z0u hd h1 h2
end
section
noncomputable def Zgn (a b : Int) (s : Bool) : Int := if s then b else a
structure Zao (S : List Rw) (a b : Int) (m : Nat) : Prop where
  le : ∀ s e, 0 ≤ e → e < Zgn a b s → deg S s e ≤ m
  got : m = 0 ∨ ∃ s e, 0 ≤ e ∧ e < Zgn a b s ∧ deg S s e = m
noncomputable def InR (S : List Rw) (a b : Int) : Prop := ∀ x ∈ S, ∀ s, 0 ≤ x.e s ∧ x.e s < Zgn a b s
structure Zex (S : List Rw) (a b : Int) (m : Nat) : Prop where
  inc : Inc S
  proper : Yq S
  inr : InR S a b
  cnt : Zao S a b m
  hues : ∀ x ∈ S, ∃ h : Int, x.h = some h ∧ 0 ≤ h ∧ h < m
theorem Zao.uniq {S : List Rw} {a b : Int} {m m' : Nat} (x : Zao S a b m) (y : Zao S a b m') : m = m' := by
  have key : ∀ {m m' : Nat}, Zao S a b m → Zao S a b m' → m ≤ m' := fun {m m'} x y => by
    rcases x.got with h | ⟨s, e, h1, h2, h3⟩
    · exact Zq8 h
    · have := y.le s e h1 h2; exact Zu8 h3 this
  have := key x y; have := key y x; omega
theorem Zrx {S : List Rw} {s : Bool} {e : Int} (h : ∀ x ∈ S, x.e s ≠ e) : deg S s e = 0 := by
  unfold deg
  rw [List.length_eq_zero_iff, List.filter_eq_nil_iff]
  intro x hx; simpa using h x hx
theorem Zao.all {S : List Rw} {a b : Int} {m : Nat} (x : Zao S a b m) (r : InR S a b) (s : Bool) (e : Int) : deg S s e ≤ m := by
  by_cases h : 0 ≤ e ∧ e < Zgn a b s
  · exact x.le s e h.1 h.2
  · rw [Zrx fun y hy q => h (by rw [← q]; exact r y hy s)]; exact Z2d
theorem Zao.empty {a b : Int} : Zao [] a b 0 := ⟨fun _ _ _ _ => Nat.le_refl _, .inl rfl⟩
theorem Zex.empty {a b : Int} : Zex [] a b 0 := ⟨.nil, fun _ h => absurd h (by simp), fun _ h => absurd h (by simp), .empty, fun _ h => absurd h (by simp)⟩
theorem Ztt {S : List Rw} {f : Rw → Rw} (hf : ∀ x t, (f x).e t = x.e t) (s : Bool) (e : Int) : deg (S.map f) s e = deg S s e := by
  unfold deg
  rw [List.filter_map, List.length_map]
  congr 2
  funext x; simp [hf]
theorem Znl {S T : List Rw} {s : Bool} {e : Int} : deg (S ++ T) s e = deg S s e + deg T s e := by unfold deg; simp
theorem Zio {S : List Rw} {p : Rw → Bool} {s : Bool} {e : Int} : deg (S.filter p) s e ≤ deg S s e := by
  unfold deg; rw [List.filter_filter]
  have : (S.filter fun a => a.e s == e && p a) = (S.filter fun x => x.e s == e).filter p := by rw [List.filter_filter]; congr 1; funext x; rw [Bool.and_comm]
  rw [this]; exact List.length_filter_le _ _
theorem Zao.congr {S T : List Rw} {a b : Int} {m : Nat} (x : Zao S a b m) (h : ∀ s e, deg T s e = deg S s e) : Zao T a b m :=
  ⟨fun s e h1 h2 => by rw [h]; exact x.le s e h1 h2, by
    rcases x.got with q | ⟨s, e, h1, h2, h3⟩
    · exact .inl q
    · exact .inr ⟨s, e, h1, h2, by rw [h]; exact h3⟩⟩
structure Way (S : List Rw) (k : Int) (m : Nat) (hue other : Int) (l : List Rw) : Prop where
  ex : ∃ (s : Bool) (x : Rw), x ∈ S ∧ x.n = k ∧ x.h = none ∧ Zb3 S s (x.e s) other hue l ∧ Zef S s (x.e s) other hue l ∧ Zbu S s (x.e s) other ∧ Zbu S (!s) (x.e (!s)) hue
  ne : other ≠ hue
  hue : 0 ≤ hue ∧ hue < m
  other : 0 ≤ other ∧ other < m
noncomputable def Zcg (S : List Rw) (k hue other : Int) (nums : List Int) : List Rw := (S.map (Zal nums hue other)).map (Wk k (some hue))
theorem Zhe {nums : List Int} {a b : Int} : Zal nums a b = Zal nums b a := by
  funext x; unfold Zal; rw [Int.add_comm a b]
theorem Way.proper {S : List Rw} {k hue other : Int} {m : Nat} {l : List Rw} (w : Way S k m hue other l) (hp : Yq S) (hi : Inc S) : Yq (Zcg S k hue other (l.map Rw.n)) := by
  obtain ⟨s, x, hx, hk, hn, P, D, hf, hg⟩ := w.ex
  unfold Zcg
  rw [Zhe]
  refine Zg7 (P.flip_proper D hp hi w.ne hf) fun y hy q t => ?_
  obtain ⟨z, hz, rfl⟩ := Zc8 hy
  rw [Zba] at q
  have : z = x := hi.inj hz hx (q.trans hk.symm)
  subst this
  rw [Zf5]
  by_cases ht : t = s
  · subst ht; exact P.flip_free D hp hi w.ne hf
  · have : t = !s := by cases t <;> cases s <;> simp_all
    subst this
    exact P.flip_far hi w.ne hg
theorem Way.nodup {S : List Rw} {k hue other : Int} {m : Nat} {l : List Rw} (w : Way S k m hue other l) (hp : Yq S) (hi : Inc S) : (l.map Rw.n).Nodup ∧ (∀ x ∈ l, x ∈ S) ∧ k ∉ l.map Rw.n := by
  obtain ⟨s, x, hx, hk, hn, P, D, hf, hg⟩ := w.ex
  refine ⟨P.nodup hp hi w.ne hf, P.mem, fun q => ?_⟩
  obtain ⟨i, q⟩ := P.at hi hx (hk ▸ q)
  rw [P.hue i x q] at hn; cases hn
theorem Way.chainHue {S : List Rw} {k hue other : Int} {m : Nat} {l : List Rw} (w : Way S k m hue other l) {x : Rw} (hx : x ∈ l) : x.h = some hue ∨ x.h = some other := by
  obtain ⟨s, y, _, _, _, P, _⟩ := w.ex
  obtain ⟨i, hi, e⟩ := List.getElem_of_mem hx
  rw [P.hue i x (by rw [List.getElem?_eq_getElem hi, e])]
  unfold Xk; split
  · exact .inl rfl
  · exact .inr rfl
theorem Way.hues {S : List Rw} {k hue other : Int} {m : Nat} {l : List Rw} (w : Way S k m hue other l) (hi : Inc S) : ∀ y ∈ Zcg S k hue other (l.map Rw.n), (∃ h : Int, y.h = some h ∧ 0 ≤ h ∧ h < m) ∨ (y ∈ S ∧ y.n ≠ k) := by
  intro y hy
  obtain ⟨s, x, hx, hk, hn, P, D, hf, hg⟩ := w.ex
  unfold Zcg at hy
  obtain ⟨y', hy', rfl⟩ := List.mem_map.1 hy
  obtain ⟨z, hz, rfl⟩ := Zc8 hy'
  by_cases q : z.n = k
  · exact .inl ⟨hue, Wb (by rw [Zba]; exact q), w.hue⟩
  · rw [Yv (by rw [Zba]; exact q)]
    by_cases c : z.n ∈ l.map Rw.n
    · obtain ⟨i, e⟩ := P.at hi hz c
      refine .inl ⟨Xk other hue (i + 1), by rw [Zhe]; exact P.flip_hue e, ?_⟩
      unfold Xk; split
      · exact w.hue
      · exact w.other
    · rw [Xm c]; exact .inr ⟨hz, q⟩
noncomputable def Zgi (S : List Rw) (k hue : Int) : List Rw := S.map (Wk k (some hue))
theorem Zk8 {S : List Rw} {k hue : Int} (hp : Yq S) (hi : Inc S) {x : Rw} (hx : x ∈ S) (hk : x.n = k) (hf : ∀ t, Zbu S t (x.e t) hue) : Yq (Zgi S k hue) :=
  Zg7 hp fun y hy q t => by
    have : y = x := hi.inj hy hx (q.trans hk.symm)
    subst this; exact hf t
noncomputable def sk (x : Rw) : Int × Int × Int := (x.n, x.l, x.r)
structure Zwk (S S' : List Rw) (k : Int) (m : Nat) : Prop where
  sk : S'.map sk = S.map sk
  inc : Inc S'
  proper : Yq S'
  hues : ∀ y ∈ S', (∃ h : Int, y.h = some h ∧ 0 ≤ h ∧ h < m) ∨ (y ∈ S ∧ y.n ≠ k)
theorem Zg2 {S : List Rw} {f : Rw → Rw} (hf : ∀ x, sk (f x) = sk x) : (S.map f).map sk = S.map sk := by
  rw [List.map_map]; exact List.map_congr_left fun x _ => hf x
theorem Zqx {nums : List Int} {a b : Int} {x : Rw} : sk (Zal nums a b x) = sk x := by unfold Zal; split <;> rfl
theorem Zfp {k : Int} {h : Option Int} {x : Rw} : sk (Wk k h x) = sk x := by unfold Wk; split <;> rfl
theorem Way.hued {S : List Rw} {k hue other : Int} {m : Nat} {l : List Rw} (w : Way S k m hue other l) (hp : Yq S) (hi : Inc S) : Zwk S (Zcg S k hue other (l.map Rw.n)) k m :=
  ⟨by unfold Zcg; rw [Zg2 fun _ => Zfp, Zg2 fun _ => Zqx], Za9 (fun _ => Xv) (Za9 (fun _ => Zba) hi), w.proper hp hi, w.hues hi⟩
theorem Zpy {S : List Rw} {k hue : Int} {m : Nat} (hp : Yq S) (hi : Inc S) {x : Rw} (hx : x ∈ S) (hk : x.n = k) (hf : ∀ t, Zbu S t (x.e t) hue) (hh : 0 ≤ hue ∧ hue < m) : Zwk S (Zgi S k hue) k m :=
  ⟨Zg2 fun _ => Zfp, Za9 (fun _ => Xv) hi, Zk8 hp hi hx hk hf, fun y hy => by
    obtain ⟨z, hz, rfl⟩ := List.mem_map.1 hy
    by_cases q : z.n = k
    · exact .inl ⟨hue, Wb q, hh⟩
    · rw [Yv q]; exact .inr ⟨hz, q⟩⟩
theorem Zpu {S T : List Rw} (h : T.map sk = S.map sk) (s : Bool) (e : Int) : deg T s e = deg S s e := by
  have key : ∀ U : List Rw, deg U s e = ((U.map sk).filter fun p => (if s then p.2.2 else p.2.1) == e).length := fun U => by
    unfold deg; rw [List.filter_map, List.length_map]; rfl
  rw [key, key, h]
theorem Zsq {S T : List Rw} {a b : Int} (h : T.map sk = S.map sk) (r : InR S a b) : InR T a b := fun x hx s => by
  have : sk x ∈ S.map sk := h ▸ List.mem_map.2 ⟨x, hx, rfl⟩
  obtain ⟨y, hy, q⟩ := List.mem_map.1 this
  have e : x.e s = y.e s := by unfold sk at q; simp only [Prod.mk.injEq] at q; unfold Rw.e; rw [q.2.1, q.2.2]
  rw [e]; exact r y hy s
theorem Zex.come {S : List Rw} {a b : Int} {m m' : Nat} (G : Zex S a b m) {x : Rw} (hx : ∀ y ∈ S, y.n < x.n) (hr : ∀ s, 0 ≤ x.e s ∧ x.e s < Zgn a b s) (hn : x.h = none) (hc : Zao (S ++ [x]) a b m') {S' : List Rw} (H : Zwk (S ++ [x]) S' x.n m') : Zex S' a b m' := by
  have hm : m ≤ m' := by
    rcases G.cnt.got with q | ⟨s, e, h1, h2, h3⟩
    · exact Zq8 q
    · have := hc.le s e h1 h2; rw [Znl] at this; exact Z0t h3 this
  refine ⟨H.inc, H.proper, Zsq H.sk fun y hy s => ?_, hc.congr (Zpu H.sk), fun y hy => ?_⟩
  · rcases List.mem_append.1 hy with h | h
    · exact G.inr y h s
    · rw [List.mem_singleton.1 h]; exact hr s
  · rcases H.hues y hy with h | ⟨h, q⟩
    · exact h
    · rcases List.mem_append.1 h with h | h
      · obtain ⟨v, e, h1, h2⟩ := G.hues y h; exact ⟨v, e, h1, by exact Z0s hm h2⟩
      · rw [List.mem_singleton.1 h] at q; exact absurd rfl q
theorem Zex.comeInc {S : List Rw} {a b : Int} {m : Nat} (G : Zex S a b m) {x : Rw} (hx : ∀ y ∈ S, y.n < x.n) (hn : x.h = none) : Inc (S ++ [x]) ∧ Yq (S ++ [x]) := by
  refine ⟨?_, fun y hy z hz t h1 h2 h3 => ?_⟩
  · unfold Inc; rw [List.pairwise_append]
    exact ⟨G.inc, List.pairwise_singleton _ _, fun y hy z hz => by rw [List.mem_singleton.1 hz]; exact hx y hy⟩
  · rcases List.mem_append.1 hy with p | p <;> rcases List.mem_append.1 hz with q | q
    · exact G.proper y p z q t h1 h2 h3
    · rw [List.mem_singleton.1 q, hn] at h2; exact absurd h2 h3
    · rw [List.mem_singleton.1 p, hn] at h3; exact absurd rfl h3
    · rw [List.mem_singleton.1 p, List.mem_singleton.1 q]
end
section
theorem Zry {S : List Rw} {p : Rw → Bool} {s : Bool} {e : Int} (hi : Inc S) (h : ∀ x ∈ S, ∀ y ∈ S, x.e s = e → y.e s = e → p x = false → p y = false → x.n = y.n) : deg S s e ≤ deg (S.filter p) s e + 1 := by
  have h1 : deg S s e = ((S.filter fun x => x.e s == e).filter p).length + ((S.filter fun x => x.e s == e).filter fun x => !p x).length := by
    unfold deg
    generalize (S.filter fun x => x.e s == e) = T
    induction T with
    | nil => rfl
    | cons y T ih => cases q : p y <;> simp [List.filter_cons, q, ih] <;> omega
  have h2 : ((S.filter fun x => x.e s == e).filter p).length = deg (S.filter p) s e := by
    unfold deg; rw [List.filter_filter, List.filter_filter]; congr 2; funext x; rw [Bool.and_comm]
  have h3 : ((S.filter fun x => x.e s == e).filter fun x => !p x).length ≤ 1 := by
    have hT : ((S.filter fun x => x.e s == e).filter fun x => !p x).Pairwise fun x y => x.n < y.n := (List.Pairwise.filter _ hi).filter _
    have hm : ∀ x ∈ (S.filter fun x => x.e s == e).filter fun x => !p x, x ∈ S ∧ x.e s = e ∧ p x = false := fun x hx => by
      obtain ⟨a, b⟩ := List.mem_filter.1 hx
      obtain ⟨a, c⟩ := List.mem_filter.1 a
      exact ⟨a, by simpa using c, by simpa using b⟩
    generalize (S.filter fun x => x.e s == e).filter (fun x => !p x) = T at hT hm
    match T, hT, hm with
    | [], _, _ => simp
    | [_], _, _ => simp
    | x :: y :: T, hT, hm =>
      have h1 := (List.pairwise_cons.1 hT).1 y (.head _)
      have a := hm x (.head _)
      have b := hm y (.tail _ (.head _))
      have := h x a.1 y b.1 a.2.1 b.2.1 a.2.2 b.2.2
      exact Z0r h1 this
  exact Z0q h1 h2 h3
theorem Inc.filter {S : List Rw} (hi : Inc S) (p : Rw → Bool) : Inc (S.filter p) := List.Pairwise.filter _ hi
theorem Yq.filter {S : List Rw} (hp : Yq S) (p : Rw → Bool) : Yq (S.filter p) := fun x hx y hy => hp x (List.mem_filter.1 hx).1 y (List.mem_filter.1 hy).1
theorem InR.filter {S : List Rw} {a b : Int} (r : InR S a b) (p : Rw → Bool) : InR (S.filter p) a b := fun x hx => r x (List.mem_filter.1 hx).1
structure Zqj (S : List Rw) (a b : Int) (m : Nat) (rest : List Int) : Prop where
  inc : Inc S
  proper : Yq S
  inr : InR S a b
  cnt : Zao S a b m
  hues : ∀ x ∈ S, ∃ h : Int, x.h = some h ∧ 0 ≤ h ∧ h ≤ m ∧ (x.n ∉ rest → h < m)
noncomputable def drp (k : Int) (S : List Rw) : List Rw := S.filter fun x => x.n != k
theorem Zex.go {S : List Rw} {a b : Int} {m m' : Nat} (G : Zex S a b m) {k : Int} (hc : Zao (drp k S) a b m') : m' ≤ m ∧ (m' = m → Zex (drp k S) a b m') ∧ (m' < m → Zqj (drp k S) a b m' ((drp k S).map Rw.n)) := by
  have h1 : m' ≤ m := by
    rcases hc.got with h | ⟨s, e, h1, h2, h3⟩
    · exact Zq8 h
    · have := Zio (S := S) (p := fun x => x.n != k) (s := s) (e := e); have := G.cnt.le s e h1 h2; unfold drp at h3; omega
  have h2 : m ≤ m' + 1 := by
    rcases G.cnt.got with h | ⟨s, e, h1, h2, h3⟩
    · exact Z0p h1 h
    · have := Zry (S := S) (p := fun x => x.n != k) (s := s) (e := e) G.inc fun x _ y _ _ _ p q => by
        have p : x.n = k := by simpa using p
        have q : y.n = k := by simpa using q
        rw [p, q]
      have := hc.le s e h1 h2; unfold drp at this; omega
  refine ⟨h1, fun e => ⟨G.inc.filter _, G.proper.filter _, G.inr.filter _, hc, fun x hx => ?_⟩, fun e => ⟨G.inc.filter _, G.proper.filter _, G.inr.filter _, hc, fun x hx => ?_⟩⟩
  · obtain ⟨h, q, p1, p2⟩ := G.hues x (List.mem_filter.1 hx).1
    exact ⟨h, q, p1, by exact Z0o e p2⟩
  · obtain ⟨h, q, p1, p2⟩ := G.hues x (List.mem_filter.1 hx).1
    exact ⟨h, q, p1, by exact Z0n h1 h2 e p2, fun n => absurd (List.mem_map.2 ⟨x, hx, rfl⟩) n⟩
theorem Zqj.done {S : List Rw} {a b : Int} {m : Nat} (P : Zqj S a b m []) : Zex S a b m :=
  ⟨P.inc, P.proper, P.inr, P.cnt, fun x hx => let ⟨h, q, p1, _, p3⟩ := P.hues x hx; ⟨h, q, p1, p3 (by simp)⟩⟩
theorem Zqj.skip {S : List Rw} {a b : Int} {m : Nat} {k : Int} {rest : List Int} (P : Zqj S a b m (k :: rest)) {x : Rw} (hx : x ∈ S) (hk : x.n = k) (hh : x.h ≠ some (m : Int)) : Zqj S a b m rest :=
  ⟨P.inc, P.proper, P.inr, P.cnt, fun y hy => by
    obtain ⟨h, q, p1, p2, p3⟩ := P.hues y hy
    refine ⟨h, q, p1, p2, fun n => ?_⟩
    by_cases z : y.n = k
    · have : y = x := P.inc.inj hy hx (z.trans hk.symm)
      subst this
      rw [q] at hh
      have : h ≠ m := fun w => hh (by rw [w])
      exact Z0m p2 this
    · exact p3 (by simp only [List.mem_cons, not_or]; exact ⟨z, n⟩)⟩
theorem Zqj.step {S S' : List Rw} {a b : Int} {m : Nat} {k : Int} {rest : List Int} (P : Zqj S a b m (k :: rest)) (H : Zwk (S.map (Wk k none)) S' k m) : Zqj S' a b m rest := by
  have hsk : S'.map sk = S.map sk := H.sk.trans (Zg2 fun _ => Zfp)
  refine ⟨H.inc, H.proper, Zsq hsk P.inr, P.cnt.congr (Zpu hsk), fun y hy => ?_⟩
  rcases H.hues y hy with ⟨h, q, p1, p2⟩ | ⟨hm, hn⟩
  · exact ⟨h, q, p1, by exact Z0l p2, fun _ => p2⟩
  · obtain ⟨z, hz, rfl⟩ := List.mem_map.1 hm
    rw [Xv] at hn
    rw [Yv hn]
    obtain ⟨h, q, p1, p2, p3⟩ := P.hues z hz
    exact ⟨h, q, p1, p2, fun n => p3 (by simp only [List.mem_cons, not_or]; exact ⟨hn, n⟩)⟩
theorem Zv7 {S T : List Rw} {a b : Int} {m : Nat} (h : T.map sk = S.map sk) (x : Zao S a b m) : Zao T a b m := x.congr (Zpu h)
end
section
open PySem PySem.W PyProof.Rows
variable {g : Gr} {sc csc : Scope} {r : Nat} {c : Bool} {K : Frag}
theorem Zg1 {n : String} {f : Value} {p pos : Pos} {args : List Expr} {ts : TL} {t : TF} (hK : K.In g.b0) (hm : (Str.ofString n, NameKind.globalImplicit) ∈ sc.names) (hk : Yr g n f) (hkp : keepIn K f = true) (hF : Zdb g r f t) (hL : Zkb g sc r true args ts) (hp : Zc0 args) :
    Y1 g sc r true (.Call (.Name (Str.ofString n) p) args [] pos) (Yk ts t) := .mk fun A env s ℓ σ Q E X h => by
  show wpAny _ A (do callWith pos (← eval (.Name (Str.ofString n) p) env) [] (backTo pos (starEach args env)) (backToKw pos (keywordEach [] env))) _ _ s
  refine wpAny_bind (Yc X hm hk ?_)
  refine Zge hK hkp (Xc hp pos env) (wpAny_mono (hL.run A env pos s ℓ σ _ E X h) (fun vs s₁ p => ?_) fun _ _ p => p)
  refine Wr.elim p fun xs σ₁ hv hR hx hs hq => ?_
  have X1 := X.step hR hx
  exact ⟨fun a o e => hR.base a o e, X7 hx hs (hF.run A s₁ σ₁ xs vs Q E X.gok X1.fr.frl X1.room hR hv hq)⟩
section
variable {o : Expr} {apos pos : Pos} {args : List Expr} {to : TE} {ts : TL}
theorem Z41 (ho : Y1 g sc r true o to) (hL : Zkb g sc r true args ts) (hp : Zc0 args) (hbase : Zdj o = false) (hfew : decide (args.length < 30) = true)
    (hline : (apos.endLine == pos.line) = true) : Y1 g sc r true (.Call (.Attribute o (Str.ofString "pop") apos) args [] pos) (Xd .dict Zwm to ts) :=
  Za3 (T := .dict) F.plainAttrs_dict F.slot_dict_pop F.type_dict_pop Zqs ho hL hp hbase hfew hline
end
theorem Zey {i : String} : Zev (Zn i) := fun ℓ σ Q E h => by
  unfold Zn at h
  split at h
  · rename_i v e; exact ⟨v, h, fun _ _ _ q => by unfold Zn; rw [e]; exact q⟩
  · exact h.elim
theorem Zkr {x : Str} (h : PyData.strOk x = true) : Lay (.str x) := ⟨by simpa [PyData.canLay0] using h, by simp [PyData.depth]⟩
theorem Zaa {σ : AH} {a b : Str} {Q : Bool → Prop} (ha : PyData.strOk a = true) (hb : PyData.strOk b = true) (h : Q (a == b)) : eqD (.str a) (.str b) σ Q := by
  unfold eqD
  exact ⟨.str a, .str b, by simp [Y0], by simp [Y0], Zkr ha, Zkr hb, by simpa only [PyData.eqv] using h⟩
noncomputable def Zjr : Option Int → V
  | none => .none
  | some h => .int h
noncomputable def Zpg : Option Int → PyData
  | none => .none
  | some h => .int h
theorem Zr0 {σ : AH} (h : Option Int) : Y0 σ (Zpg h) (Zjr h) := by cases h <;> simp [Zpg, Zjr, Y0]
theorem Zpr {σ : AH} {a : Option Int} {b : Int} {Q : Bool → Prop} (h : Q (a == some b)) : eqD (Zjr a) (.int b) σ Q := by
  cases a with
  | none => unfold eqD Zjr; exact ⟨.none, .int b, by simp [Y0], by simp [Y0], Zri, Zks b, by simpa [PyData.eqv] using h⟩
  | some x => simp only [Zjr, eqD]; simpa using h
theorem Zjx {σ : AH} : ∀ (hs : List (Option Int)), Xf σ (hs.map Zpg) (hs.map Zjr)
  | [] => by simp [Xf]
  | h :: hs => by simp only [List.map_cons, Xf]; exact ⟨_, _, rfl, Zr0 h, Zjx hs⟩
theorem Zgd : ∀ hs : List (Option Int), PyData.canLayAll0 (hs.map Zpg) = true
  | [] => by simp [PyData.canLayAll0]
  | h :: hs => by cases h <;> simp [PyData.canLayAll0, PyData.canLay0, Zpg, Zgd hs]
theorem Zhh : ∀ hs : List (Option Int), PyData.depthAll (hs.map Zpg) ≤ 1
  | [] => by simp [PyData.depthAll]
  | h :: hs => by
    have := Zhh hs
    cases h <;> (simp only [List.map_cons, Zpg, PyData.depthAll, PyData.depth]; exact Zw2 this)
theorem Zrj (hs : List (Option Int)) : Lay (.list (hs.map Zpg)) := ⟨by simp [PyData.canLay0, Zgd], by have := Zhh hs; simp only [PyData.depth]; exact Zw1 this⟩
theorem Zp0 : ∀ (hs : List (Option Int)) (k : Int), ((hs.map Zpg).any fun y => PyData.eqv y (.int k)) = decide (some k ∈ hs)
  | [], k => by simp
  | h :: hs, k => by
    rw [List.map_cons, List.any_cons, Zp0 hs k]
    cases h with
    | none => simp [Zpg, PyData.eqv]
    | some x =>
      simp only [Zpg, PyData.eqv]
      by_cases q : x = k
      · subst q; simp
      · have q' : ¬ k = x := fun z => q z.symm
        have : (x == k) = false := by simpa using q
        rw [this]; simp [q']
theorem Zrn {σ : AH} {a : Addr} {hs : List (Option Int)} {k : Int} {Q : Bool → Prop} (ha : σ a = some (.list (hs.map Zjr))) (h : Q (decide (some k ∈ hs))) : inD (.int k) (.ref a) σ Q := by
  simp only [inD, ha]
  exact ⟨_, .int k, Zjx hs, by simp [Y0], Zrj hs, Zks k, by rw [Zp0]; exact h⟩
theorem Zru {σ : AH} {a b : Addr} {ns ms : List Int} {Q : Bool → Prop} (ha : σ a = some (.list (ns.map V.int))) (hb : σ b = some (.list (ms.map V.int))) (h : Q (ns == ms)) : eqD (.ref a) (.ref b) σ Q := by
  unfold eqD
  exact ⟨_, _, Zbd ha (Zec ns), Zbd hb (Zec ms), Zii ns, Zii ms, by simpa only [PyData.eqv, Zf9] using h⟩
noncomputable def Zdn (s : Bool) : Str := if s then Str.ofString "right" else Str.ofString "left"
theorem Zg3 (s : Bool) : (Zdn s == Str.ofString "left") = !s := by cases s <;> decide +kernel
theorem Zlr (s : Bool) : PyData.strOk (Zdn s) = true := by cases s <;> decide +kernel
theorem Zo9 : PyData.strOk (Str.ofString "left") = true := by decide +kernel
theorem Zih : Str.ofString "left" ≠ Str.ofString "right" := by decide +kernel
noncomputable def Zg6 (x : Rw) : List V := [.int x.l, .int x.r, Zjr x.h]
structure HD where
  T : List (Rw × Addr)
  a : Int
  b : Int
  nx : Int
  d : Addr
  rd : Addr
  sd : Addr
  kvs : List (Str × V)
noncomputable def HD.S (D : HD) : List Rw := D.T.map (·.1)
noncomputable def HD.foot (D : HD) (y : Addr) : Prop := y = D.d ∨ y = D.rd ∨ y ∈ D.T.map (·.2)
structure Zv (σ : AH) (C x : Addr) (D : HD) : Prop where
  inst : σ x = some (.inst C D.d)
  attrs : σ D.d = some (.attrs D.kvs)
  aRows : D.kvs.lookup (Str.ofString "rows") = some (.ref D.rd)
  aSizes : D.kvs.lookup (Str.ofString "sizes") = some (.ref D.sd)
  aNext : D.kvs.lookup (Str.ofString "next_number") = some (.int D.nx)
  names : ∀ p ∈ D.kvs, p.1 = Str.ofString "rows" ∨ p.1 = Str.ofString "sizes" ∨ p.1 = Str.ofString "next_number"
  few : D.kvs.length ≤ 3 + D.nx.toNat
  rows : ∃ ep, σ D.rd = some (.dictI (D.T.map fun t => (t.1.n, V.ref t.2)) ep)
  row : ∀ t ∈ D.T, σ t.2 = some (.list (Zg6 t.1))
  nodup : (D.T.map (·.2)).Nodup
  sizes : ∃ ep, σ D.sd = some (.dictS [(Str.ofString "left", .int D.a), (Str.ofString "right", .int D.b)] ep)
theorem Zv.sub {σ σ' : AH} {C x : Addr} {D : HD} (H : Zv σ C x D) (s : Sub σ σ') : Zv σ' C x D :=
  ⟨s _ _ H.inst, s _ _ H.attrs, H.aRows, H.aSizes, H.aNext, H.names, H.few, let ⟨ep, e⟩ := H.rows; ⟨ep, s _ _ e⟩, fun t ht => s _ _ (H.row t ht), H.nodup, let ⟨ep, e⟩ := H.sizes; ⟨ep, s _ _ e⟩⟩
theorem Zv.noName {σ : AH} {C x : Addr} {D : HD} (H : Zv σ C x D) {n : Str} (h : (n == Str.ofString "rows" || n == Str.ofString "sizes" || n == Str.ofString "next_number") = false) : D.kvs.lookup n = none := by
  cases e : D.kvs.lookup n with
  | none => rfl
  | some v =>
    have := Zja (x := n) (kvs := D.kvs) (by rw [e]; simp)
    obtain ⟨p, hp, q⟩ := List.mem_map.1 this
    rcases H.names p hp with z | z | z <;> (rw [← q, z] at h; simp at h)
theorem Zv.instOf {σ : AH} {C x : Addr} {D : HD} (H : Zv σ C x D) {n : Str} (h : (n == Str.ofString "rows" || n == Str.ofString "sizes" || n == Str.ofString "next_number") = false) : Mine.instOf C n (.ref x) σ :=
  ⟨x, D.d, D.kvs, rfl, H.inst, H.attrs, H.noName h⟩
theorem Zv.rowsA {σ : AH} {C x : Addr} {D : HD} (H : Zv σ C x D) : Ze6 C (Str.ofString "rows") (.ref x) σ = some (.ref D.rd) := Zgf H.inst H.attrs H.aRows
theorem Zv.sizesA {σ : AH} {C x : Addr} {D : HD} (H : Zv σ C x D) : Ze6 C (Str.ofString "sizes") (.ref x) σ = some (.ref D.sd) := Zgf H.inst H.attrs H.aSizes
theorem Zv.nextA {σ : AH} {C x : Addr} {D : HD} (H : Zv σ C x D) : Ze6 C (Str.ofString "next_number") (.ref x) σ = some (.int D.nx) := Zgf H.inst H.attrs H.aNext
theorem Zlz {T : List (Rw × Addr)} (hi : Inc (T.map (·.1))) {t : Rw × Addr} (ht : t ∈ T) : (T.map fun t => (t.1.n, V.ref t.2)).lookup t.1.n = some (.ref t.2) := by
  induction T with
  | nil => cases ht
  | cons u T ih =>
    rw [List.map_cons, List.lookup_cons]
    rcases List.mem_cons.1 ht with rfl | h
    · simp
    · have : u.1.n < t.1.n := (List.pairwise_cons.1 hi).1 t.1 (List.mem_map.2 ⟨t, h, rfl⟩)
      have q : (t.1.n == u.1.n) = false := by simp; exact Z0k this
      rw [q]; exact ih (List.pairwise_cons.1 hi).2 h
theorem Zv.item {σ : AH} {C x : Addr} {D : HD} (H : Zv σ C x D) (hi : Inc D.S) {t : Rw × Addr} (ht : t ∈ D.T) {Q : V → Prop} (h : Q (.ref t.2)) : Za8 (.ref D.rd) (.int t.1.n) σ Q := by
  obtain ⟨ep, e⟩ := H.rows
  simp only [Za8, e, Zlz hi ht]
  exact h
theorem Ztg {D : HD} {x : Rw} (h : x ∈ D.S) : ∃ t ∈ D.T, t.1 = x := List.mem_map.1 h
theorem Zv.item0 {σ : AH} {C x : Addr} {D : HD} (H : Zv σ C x D) {t : Rw × Addr} (ht : t ∈ D.T) {Q : V → Prop} (h : Q (.int t.1.l)) : Za8 (.ref t.2) (.int 0) σ Q := by
  simp only [Za8, H.row t ht]
  exact h
theorem Zv.item1 {σ : AH} {C x : Addr} {D : HD} (H : Zv σ C x D) {t : Rw × Addr} (ht : t ∈ D.T) {Q : V → Prop} (h : Q (.int t.1.r)) : Za8 (.ref t.2) (.int 1) σ Q := by
  simp only [Za8, H.row t ht]
  exact h
theorem Zv.item2 {σ : AH} {C x : Addr} {D : HD} (H : Zv σ C x D) {t : Rw × Addr} (ht : t ∈ D.T) {Q : V → Prop} (h : Q (Zjr t.1.h)) : Za8 (.ref t.2) (.int 2) σ Q := by
  simp only [Za8, H.row t ht]
  exact h
theorem Zv.size {σ : AH} {C x : Addr} {D : HD} (H : Zv σ C x D) (s : Bool) {Q : V → Prop} (h : Q (.int (Zgn D.a D.b s))) : Za8 (.ref D.sd) (.str (Zdn s)) σ Q := by
  obtain ⟨ep, e⟩ := H.sizes
  cases s with
  | false => simp only [Za8, e, Zdn, List.lookup_cons]; simpa [Zgn] using h
  | true =>
    have : (Str.ofString "right" == Str.ofString "left") = false := by decide +kernel
    simp only [Za8, e, Zdn, List.lookup_cons, if_true, this]; simpa [Zgn] using h
end
section
open PySem PySem.W PyProof.Rows
theorem Zbe {α : Type} {t : Tgt} {inv : AH → Prop} {tifs : TB} {telt : TE} {ℓ : Loc} {σ : AH} {Q : List V → AH → Prop} {E : Addr → AH → Prop} (f : α → V) (p : α → Bool) (F : α → V) (xs : List α) (hinv : ∀ σ', Sub σ σ' → inv σ')
    (hs : ∀ x ∈ xs, ∀ σ', Sub σ σ' → ∃ ℓ₁, (∀ P : Loc → Prop, P ℓ₁ → Xs t (f x) ℓ.bare σ' P) ∧ (∀ Qb : Bool → AH → Prop, (∀ σ'', Sub σ' σ'' → Qb (p x) σ'') → tifs ℓ₁ σ' Qb E) ∧
        (p x = true → ∀ σ'', Sub σ' σ'' → ∀ Qv : V → AH → Prop, (∀ σ₃, Sub σ'' σ₃ → Qv (F x) σ₃) → telt ℓ₁ σ'' Qv E))
    (h : ∀ σ', Sub σ σ' → Q ((xs.filter p).map F) σ') : Zet t inv tifs telt ℓ (xs.map f) [] σ Q E :=
  Zes f p F hinv xs [] σ Sub.refl hs h
theorem Zbf {α : Type} {t : Tgt} {inv : AH → Prop} {telt : TE} {ℓ : Loc} {σ : AH} {Q : List V → AH → Prop} {E : Addr → AH → Prop} (f : α → V) (F : α → V) (xs : List α) (hinv : ∀ σ', Sub σ σ' → inv σ')
    (hs : ∀ x ∈ xs, ∃ ℓ₁, (∀ σ', Sub σ σ' → ∀ P : Loc → Prop, P ℓ₁ → Xs t (f x) ℓ.bare σ' P) ∧ (∀ σ', Sub σ σ' → ∀ Qv : V → AH → Prop, (∀ σ₃, Sub σ' σ₃ → Qv (F x) σ₃) → telt ℓ₁ σ' Qv E))
    (h : ∀ σ', Sub σ σ' → Q (xs.map F) σ') : Zet t inv (Xo true) telt ℓ (xs.map f) [] σ Q E := by
  refine Zes f (fun _ => true) F hinv xs [] σ Sub.refl (fun x hx σ' s' => ?_) (fun σ' s' => by rw [Zhf]; exact h σ' s')
  obtain ⟨ℓ₁, h1, h2⟩ := hs x hx
  exact ⟨ℓ₁, h1 σ' s', fun Qb q => q _ Sub.refl, fun _ σ'' s'' Qv q => h2 σ'' (s'.trans s'') Qv q⟩
theorem Zn8 {σ σ' : AH} {d : Addr} {o : AO} (s : Sub σ σ') : Sub (σ.set d o) (σ'.set d o) := fun y p q => by
  unfold AH.set at q ⊢
  split at q
  · rename_i z; rw [if_pos z]; exact q
  · rename_i z; rw [if_neg z]; exact s _ _ q
theorem Zft : ∀ {ns ms : List Int}, ms.Perm ns → ms.Pairwise (· ≤ ·) → ns.Pairwise (· < ·) → ms = ns
  | [], ms, hp, _, _ => List.Perm.eq_nil hp
  | n :: ns, [], hp, _, _ => absurd hp.length_eq (by simp)
  | n :: ns, m :: ms, hp, h1, h2 => by
    have e : m = n := by
      have a : m ∈ n :: ns := hp.mem_iff.1 (.head _)
      have b : n ∈ m :: ms := hp.mem_iff.2 (.head _)
      rcases List.mem_cons.1 a with q | q
      · exact q
      · have h3 := (List.pairwise_cons.1 h2).1 m q
        rcases List.mem_cons.1 b with w | w
        · exact w.symm
        · have h4 := (List.pairwise_cons.1 h1).1 n w
          exact Z0j h3 h4
    subst e
    rw [Zft (List.Perm.cons_inv hp) (List.pairwise_cons.1 h1).2 (List.pairwise_cons.1 h2).2]
theorem Zco {σ : AH} {C x : Addr} {D : HD} (H : Zv σ C x D) (hi : Inc D.S) (h64 : D.T.length < 64) {Q : V → AH → Prop} {E : Addr → AH → Prop} (h : ∀ b, σ b = none → Q (.ref b) (σ.set b (.list (D.T.map fun t => V.int t.1.n)))) : Zfk [.ref D.rd] σ Q E := by
  obtain ⟨ep, er⟩ := H.rows
  simp only [Zfk, Zfe, er]
  refine ⟨by simpa using h64, fun ns' b hp hs hb => ?_⟩
  have e : ns' = D.T.map fun t => t.1.n := by
    refine Zft (by simpa [List.map_map, Function.comp_def] using hp) hs ?_
    unfold Inc HD.S at hi
    rw [List.pairwise_map] at hi
    rw [List.pairwise_map]
    exact hi
  rw [e, List.map_map]
  exact h b hb
noncomputable def Zly (T : List (Rw × Addr)) (s : Bool) (e : Int) : List (Rw × Addr) := T.filter fun t => t.1.e s == e
theorem Zrd (D : HD) (s : Bool) (e : Int) : (Zly D.T s e).length = deg D.S s e := by
  unfold Zly deg HD.S
  rw [List.filter_map, List.length_map]; rfl
inductive Zwg (C : Addr) (xs : List V) (σ : AH) (Q : V → AH → Prop) : Prop
  | mk (x : Addr) (D : HD) (s : Bool) (e : Int) (h0 : xs = [.ref x, .str (Zdn s), .int e]) (h1 : Zv σ C x D) (h2 : Inc D.S) (h3 : D.T.length < 64) (h4 : ∀ b, σ b = none → Q (.ref b) (σ.set b (.list ((Zly D.T s e).map fun t => V.int t.1.n)))) : Zwg C xs σ Q
noncomputable def Zus (C : Addr) : TF := fun xs σ Q _ => Zwg C xs σ Q
inductive Zp9 (C : Addr) (xs : List V) (σ : AH) (Q : V → AH → Prop) : Prop
  | mk (x : Addr) (D : HD) (h0 : xs = [.ref x]) (h1 : Zv σ C x D) (h2 : Inc D.S) (h3 : D.T.length < 64) (h4 : 0 ≤ D.a) (h5 : D.a ≤ 1000) (h6 : 0 ≤ D.b) (h7 : D.b ≤ 1000) (h8 : ∀ m : Nat, Zao D.S D.a D.b m → Q (.int m) σ) : Zp9 C xs σ Q
noncomputable def Zlu (C : Addr) : TF := fun xs σ Q _ => Zp9 C xs σ Q
noncomputable def Yi (S : List Rw) (s : Bool) (e : Int) (m : Nat) : List Int := (Zd7 m).filter fun h => !(Zke S s e).contains h
theorem Xw {S : List Rw} {s : Bool} {e : Int} {m : Nat} {h : Int} : h ∈ Yi S s e m ↔ (0 ≤ h ∧ h < m) ∧ Zbu S s e h := by
  unfold Yi
  rw [List.mem_filter, Zc6]
  refine and_congr_right fun _ => ?_
  simp only [Bool.not_eq_true', List.contains_eq_mem, decide_eq_false_iff_not]
  rw [Zfw]
  constructor
  · intro q x hx he hh; exact q ⟨x, hx, he, hh⟩
  · rintro q ⟨x, hx, he, hh⟩; exact q x hx he hh
inductive Zsx (C : Addr) (xs : List V) (σ : AH) (Q : V → AH → Prop) : Prop
  | mk (x : Addr) (D : HD) (s : Bool) (e : Int) (m : Nat) (h0 : xs = [.ref x, .str (Zdn s), .int e, .int (m : Nat)]) (h1 : Zv σ C x D) (h2 : Inc D.S) (h3 : D.T.length < 64) (h4 : m ≤ 1000) (h5 : ∀ b, σ b = none → Q (.ref b) (σ.set b (.list ((Yi D.S s e m).map V.int)))) : Zsx C xs σ Q
noncomputable def Zqy (C : Addr) : TF := fun xs σ Q _ => Zsx C xs σ Q
noncomputable def Zvm : Option Rw → V
  | none => .none
  | some x => .int x.n
inductive Zst (C : Addr) (xs : List V) (σ : AH) (Q : V → AH → Prop) : Prop
  | mk (x : Addr) (D : HD) (s : Bool) (e : Int) (h : Int) (h0 : xs = [.ref x, .str (Zdn s), .int e, .int h]) (h1 : Zv σ C x D) (h2 : Inc D.S) (h3 : D.T.length < 64) (h4 : Q (Zvm (Zgm D.S s e h)) σ) : Zst C xs σ Q
noncomputable def Zs8 (C : Addr) : TF := fun xs σ Q _ => Zst C xs σ Q
theorem Zmq {S : List Rw} {s : Bool} {e h : Int} {x : Rw} (q : Zgm S s e h = some x) : x ∈ S ∧ x.e s = e ∧ x.h = some h := by
  unfold Zgm at q
  have := List.find?_some q
  simp only [Bool.and_eq_true, beq_iff_eq] at this
  exact ⟨List.mem_of_find?_eq_some q, this⟩
theorem Zmr {S : List Rw} {s : Bool} {e h : Int} (q : Zgm S s e h = none) : Zbu S s e h := fun x hx he hh => by
  unfold Zgm at q
  have := List.find?_eq_none.1 q x hx
  simp [he, hh] at this
theorem Zc7 {n : Nat} : Xh 0 n = (Zd7 n).map V.int := by
  unfold Xh Zd7
  rw [List.map_map]
  refine List.map_congr_left fun i _ => ?_
  simp
noncomputable def Znw (S : List Rw) (a b : Int) (done : List Bool) : List Int := done.flatMap fun s => (Zd7 (Zgn a b s).toNat).map fun e => (deg S s e : Int)
theorem Zpw {S : List Rw} {a b : Int} {done : List Bool} {s : Bool} : Znw S a b (done ++ [s]) = Znw S a b done ++ (Zd7 (Zgn a b s).toNat).map fun e => (deg S s e : Int) := by
  unfold Znw; rw [List.flatMap_append]; simp
theorem Zrl {S : List Rw} {a b : Int} {m : Int} (h1 : m ∈ (0 : Int) :: Znw S a b [false, true]) (h2 : ∀ n ∈ (0 : Int) :: Znw S a b [false, true], n ≤ m) : ∃ k : Nat, m = k ∧ Zao S a b k := by
  have h0 := h2 0 (.head _)
  refine ⟨m.toNat, by exact Z2c h0, fun s e p q => ?_, ?_⟩
  · have : (deg S s e : Int) ∈ (0 : Int) :: Znw S a b [false, true] := by
      refine .tail _ ?_
      unfold Znw
      exact List.mem_flatMap.2 ⟨s, by cases s <;> simp, List.mem_map.2 ⟨e, Zc6.2 ⟨p, by exact Z0i q⟩, rfl⟩⟩
    have := h2 _ this
    exact Z0h h0 this
  · rcases List.mem_cons.1 h1 with q | q
    · left; exact Z0g q
    · unfold Znw at q
      obtain ⟨s, _, q⟩ := List.mem_flatMap.1 q
      obtain ⟨e, he, q⟩ := List.mem_map.1 q
      have := Zc6.1 he
      exact .inr ⟨s, e, this.1, by exact Z0f this, by exact Z0e h0 q⟩
theorem Zn1 (D : HD) (s : Bool) (e : Int) (m : Nat) : ((Zd7 m).filter fun h => !decide (some h ∈ (Zly D.T s e).map fun t => t.1.h)) = Yi D.S s e m := by
  unfold Yi
  congr 1
  funext h
  congr 1
  rw [List.contains_eq_mem]
  congr 1
  rw [Zfw, eq_iff_iff]
  constructor
  · intro q
    obtain ⟨t, ht, q⟩ := List.mem_map.1 q
    obtain ⟨ht, he⟩ := List.mem_filter.1 ht
    exact ⟨t.1, List.mem_map.2 ⟨t, ht, rfl⟩, by simpa using he, q⟩
  · rintro ⟨x, hx, he, hh⟩
    obtain ⟨t, ht, rfl⟩ := List.mem_map.1 hx
    exact List.mem_map.2 ⟨t, List.mem_filter.2 ⟨ht, by simpa using he⟩, hh⟩
theorem Zms (D : HD) (s : Bool) (e h : Int) : Zgm D.S s e h = ((Zly D.T s e).find? fun t => t.1.h == some h).map (·.1) := by
  unfold Zgm Zly HD.S
  rw [List.find?_filter, List.find?_map]
  congr 2
  funext a
  rw [Bool.eq_iff_iff]
  simp
theorem Ze1 {S : List Rw} {s : Bool} {e : Int} {m : Nat} : (Yi S s e m).length ≤ m := by
  unfold Yi
  have := List.length_filter_le (fun h => !(Zke S s e).contains h) (Zd7 m)
  rw [Za5] at this; exact this
end
section
open PySem PySem.W PyProof.Rows
inductive Zqa (C : Addr) (xs : List V) (σ : AH) (Q : V → AH → Prop) : Prop
  | mk (x : Addr) (D : HD) (s : Bool) (e : Int) (one : Int) (other : Int) (h0 : xs = [.ref x, .str (Zdn s), .int e, .int one, .int other]) (h1 : Zv σ C x D) (h2 : Inc D.S) (h3 : D.T.length < 64) (h4 : Yq D.S) (h5 : Zbu D.S s e one) (h6 : one ≠ other) (h7 : ∀ b l, Zb3 D.S s e one other l → Zef D.S s e one other l → σ b = none → Q (.ref b) (σ.set b (.list (l.map fun x => V.int x.n)))) : Zqa C xs σ Q
noncomputable def Zow (C : Addr) : TF := fun xs σ Q _ => Zqa C xs σ Q
noncomputable def HD.put (D : HD) (k : Int) (h : Option Int) : HD := { D with T := D.T.map fun t => (Wk k h t.1, t.2) }
noncomputable def HD.flip (D : HD) (nums : List Int) (one other : Int) : HD := { D with T := D.T.map fun t => (Zal nums one other t.1, t.2) }
theorem Zmn {D : HD} {k : Int} {h : Option Int} : (D.put k h).S = D.S.map (Wk k h) := by simp [HD.put, HD.S, Function.comp_def]
theorem Zj9 {D : HD} {nums : List Int} {one other : Int} : (D.flip nums one other).S = D.S.map (Zal nums one other) := by simp [HD.flip, HD.S, Function.comp_def]
theorem Zdy {D : HD} {k : Int} {h : Option Int} : (D.put k h).T.map (·.2) = D.T.map (·.2) := by simp [HD.put, Function.comp_def]
theorem HD.flip_addr {D : HD} {nums : List Int} {one other : Int} : (D.flip nums one other).T.map (·.2) = D.T.map (·.2) := by simp [HD.flip, Function.comp_def]
theorem Zs6 {T : List (Rw × Addr)} (hn : (T.map (·.2)).Nodup) {t u : Rw × Addr} (ht : t ∈ T) (hu : u ∈ T) (h : t.2 = u.2) : t = u := by
  induction T with
  | nil => cases ht
  | cons v T ih =>
    rw [List.map_cons, List.nodup_cons] at hn
    rcases List.mem_cons.1 ht with p | p <;> rcases List.mem_cons.1 hu with q | q
    · rw [p, q]
    · exact absurd (List.mem_map.2 ⟨u, q, by rw [← h, p]⟩) hn.1
    · exact absurd (List.mem_map.2 ⟨t, p, by rw [h, q]⟩) hn.1
    · exact ih hn.2 p q
theorem Zk0 {T : List (Rw × Addr)} (hi : Inc (T.map (·.1))) {t u : Rw × Addr} (ht : t ∈ T) (hu : u ∈ T) (h : t.1.n = u.1.n) : t = u := by
  induction T with
  | nil => cases ht
  | cons v T ih =>
    rcases List.pairwise_cons.1 hi with ⟨h1, h2⟩
    rcases List.mem_cons.1 ht with p | p <;> rcases List.mem_cons.1 hu with q | q
    · rw [p, q]
    · have : v.1.n < u.1.n := h1 _ (List.mem_map.2 ⟨u, q, rfl⟩); rw [← p] at this; omega
    · have : v.1.n < t.1.n := h1 _ (List.mem_map.2 ⟨t, p, rfl⟩); rw [← q] at this; omega
    · exact ih h2 p q
theorem Zv.apart {σ : AH} {C x : Addr} {D : HD} (H : Zv σ C x D) {t : Rw × Addr} (ht : t ∈ D.T) : x ≠ t.2 ∧ D.d ≠ t.2 ∧ D.rd ≠ t.2 ∧ D.sd ≠ t.2 := by
  have r := H.row t ht
  obtain ⟨ep, er⟩ := H.rows
  obtain ⟨eq, es⟩ := H.sizes
  refine ⟨fun z => ?_, fun z => ?_, fun z => ?_, fun z => ?_⟩
  · have := H.inst; rw [z, r] at this; cases this
  · have := H.attrs; rw [z, r] at this; cases this
  · rw [z, r] at er; cases er
  · rw [z, r] at es; cases es
theorem Zv.setHue {σ : AH} {C x : Addr} {D : HD} (H : Zv σ C x D) (hi : Inc D.S) {t : Rw × Addr} (ht : t ∈ D.T) (h : Option Int) : Zv (σ.set t.2 (.list (Zg6 { t.1 with h := h }))) C x (D.put t.1.n h) := by
  obtain ⟨a1, a2, a3, a4⟩ := H.apart ht
  obtain ⟨ep, er⟩ := H.rows
  obtain ⟨eq, es⟩ := H.sizes
  refine ⟨(Ze a1).trans H.inst, (Ze a2).trans H.attrs, H.aRows, H.aSizes, H.aNext, H.names, H.few, ⟨ep, ?_⟩, fun u hu => ?_, ?_, ⟨eq, (Ze a4).trans es⟩⟩
  · show (σ.set t.2 _) D.rd = _
    rw [Ze a3, er]
    simp [HD.put, Function.comp_def, Xv]
  · obtain ⟨v, hv, rfl⟩ := List.mem_map.1 hu
    show (σ.set t.2 _) v.2 = _
    by_cases z : v.2 = t.2
    · have := Zs6 H.nodup hv ht z
      subst this
      rw [Zd]
      unfold Wk; rw [if_pos rfl]
    · rw [Ze z, H.row v hv]
      rw [Yv fun w => z (by rw [Zk0 hi hv ht w])]
  · rw [Zdy]; exact H.nodup
theorem Zpk {D : HD} (hi : Inc D.S) {done : List Int} {one other : Int} {t : Rw × Addr} (ht : t ∈ D.T) (hn : t.1.n ∉ done) {h : Int} (hh : t.1.h = some h) : (D.flip done one other).put t.1.n (some (one + other - h)) = D.flip (done ++ [t.1.n]) one other := by
  unfold HD.flip HD.put
  congr 1
  rw [List.map_map]
  refine List.map_congr_left fun u hu => ?_
  simp only [Function.comp_apply]
  congr 1
  by_cases z : u.1.n = t.1.n
  · have := Zk0 hi hu ht z
    subst this
    rw [Xm hn]
    unfold Wk Zal
    rw [if_pos rfl, if_pos (by simp), hh]; rfl
  · have : (Zal done one other u.1).n ≠ t.1.n := by rw [Zba]; exact z
    rw [Yv this]
    unfold Zal
    by_cases w : u.1.n ∈ done
    · rw [if_pos w, if_pos (List.mem_append_left _ w)]
    · rw [if_neg w, if_neg (by simp [w, z])]
theorem Zrq {D : HD} {one other : Int} : D.flip [] one other = D := by
  unfold HD.flip
  have : (D.T.map fun t => (Zal [] one other t.1, t.2)) = D.T := by
    conv => rhs; rw [← List.map_id D.T]
    refine List.map_congr_left fun t _ => ?_
    rw [Xm (by simp)]; rfl
  rw [this]
inductive Zsv (C : Addr) (xs : List V) (σ : AH) (Q : V → AH → Prop) : Prop
  | mk (x : Addr) (D : HD) (c : Addr) (nums : List Int) (one : Int) (other : Int) (h0 : xs = [.ref x, .ref c, .int one, .int other]) (h1 : Zv σ C x D) (h2 : Inc D.S) (h3 : σ c = some (.list (nums.map V.int))) (h4 : c ∉ D.T.map (·.2)) (h5 : nums.Nodup) (h6 : (∀ k ∈ nums, ∃ t ∈ D.T, t.1.n = k ∧ ∃ h, t.1.h = some h)) (h7 : ∀ σ', Zv σ' C x (D.flip nums one other) → (∀ y, y ∉ D.T.map (·.2) → σ' y = σ y) → Q .none σ') : Zsv C xs σ Q
noncomputable def Zta (C : Addr) : TF := fun xs σ Q _ => Zsv C xs σ Q
theorem Zl5 {D : HD} {nums : List Int} {one other : Int} (hi : Inc D.S) : Inc (D.flip nums one other).S := by rw [Zj9]; exact Za9 (fun _ => Zba) hi
end
section
open PySem PySem.W PyProof.Rows
noncomputable def Zdd (l r : Int) (s : Bool) : Int := if s then r else l
noncomputable def Zwc (S : List Rw) (l r : Int) (m : Nat) (σ : AH) (t : Int × Int × Int × Addr) : Prop :=
  ∃ s c, t.1 = (c.length : Int) ∧ σ t.2.2.2 = some (.list (c.map fun x => V.int x.n)) ∧ t.2.1 ∈ Yi S (!s) (Zdd l r (!s)) m ∧ t.2.2.1 ∈ Yi S s (Zdd l r s) m ∧ Zb3 S s (Zdd l r s) t.2.2.1 t.2.1 c ∧ Zef S s (Zdd l r s) t.2.2.1 t.2.1 c
theorem Zwc.sub {S : List Rw} {l r : Int} {m : Nat} {σ σ' : AH} {t : Int × Int × Int × Addr} (w : Zwc S l r m σ t) (h : ∀ o, σ t.2.2.2 = some o → σ' t.2.2.2 = some o) : Zwc S l r m σ' t := by
  obtain ⟨s, c, h1, h2, h3⟩ := w
  exact ⟨s, c, h1, h _ h2, h3⟩
noncomputable def Znx (es : List (Int × Int × Int × Addr)) (hue other : Int) : Prop := ∃ t ∈ es, t.2.1 = hue ∧ t.2.2.1 = other
theorem Znx.more {es fs : List (Int × Int × Int × Addr)} {a b : Int} (h : Znx es a b) : Znx (es ++ fs) a b := let ⟨t, ht, q⟩ := h; ⟨t, List.mem_append_left _ ht, q⟩
inductive Zsu (C : Addr) (xs : List V) (σ : AH) (Q : V → AH → Prop) : Prop
  | mk (x : Addr) (D : HD) (l : Int) (r : Int) (m : Nat) (h0 : xs = [.ref x, .int l, .int r, .int (m : Nat)]) (h1 : Zv σ C x D) (h2 : Inc D.S) (h3 : D.T.length < 64) (h4 : Yq D.S) (h5 : m ≤ 100) (h6 : (∀ h, h ∈ Yi D.S false l m → h ∉ Yi D.S true r m)) (h7 : ∀ σ' b es, Sub σ σ' → σ b = none → σ' b = some (.list (es.map Zka)) → (∀ t ∈ es, Zwc D.S l r m σ' t ∧ σ t.2.2.2 = none) → (∀ one ∈ Yi D.S false l m, ∀ two ∈ Yi D.S true r m, Znx es one two ∧ Znx es two one) → Q (.ref b) σ') : Zsu C xs σ Q
noncomputable def Zs9 (C : Addr) : TF := fun xs σ Q _ => Zsu C xs σ Q
structure Zr5 (S : List Rw) (l r : Int) (m : Nat) (σ : AH) (b : Addr) (σ' : AH) (es : List (Int × Int × Int × Addr)) : Prop where
  fb : σ' b = some (.list (es.map Zka))
  sub : Sub σ σ'
  way : ∀ t ∈ es, Zwc S l r m σ' t ∧ σ t.2.2.2 = none ∧ t.2.2.2 ≠ b
theorem Zr5.keep {S : List Rw} {l r : Int} {m : Nat} {σ σ' : AH} {b c : Addr} {o : AO} {es : List (Int × Int × Int × Addr)} (w : Zr5 S l r m σ b σ' es) (hc : σ' c = none) : Zr5 S l r m σ b (σ'.set c o) es :=
  ⟨Zk w.fb hc, w.sub.new hc, fun t ht => ⟨(w.way t ht).1.sub fun p e => Zk e hc, (w.way t ht).2⟩⟩
theorem Zr5.add {S : List Rw} {l r : Int} {m : Nat} {σ σ' : AH} {b c : Addr} {es : List (Int × Int × Int × Addr)} (hb : σ b = none) (w : Zr5 S l r m σ b σ' es) (hc : σ' c = none) (ch : List Rw) {s : Bool} {hue other : Int}
    (h1 : hue ∈ Yi S (!s) (Zdd l r (!s)) m) (h2 : other ∈ Yi S s (Zdd l r s) m) (hp : Zb3 S s (Zdd l r s) other hue ch) (hd : Zef S s (Zdd l r s) other hue ch) :
    Zr5 S l r m σ b ((σ'.set c (.list (ch.map fun x => V.int x.n))).set b (.list ((es ++ [((ch.length : Int), hue, other, c)]).map Zka))) (es ++ [((ch.length : Int), hue, other, c)]) := by
  have hcb : c ≠ b := fun z => by rw [z, w.fb] at hc; cases hc
  refine ⟨Zd, (w.sub.new hc).upd hb, fun t ht => ?_⟩
  rcases List.mem_append.1 ht with q | q
  · obtain ⟨w1, w2, w3⟩ := w.way t q
    exact ⟨w1.sub fun p e => by rw [Ze w3]; exact Zk e hc, w2, w3⟩
  · rw [List.mem_singleton.1 q]
    exact ⟨⟨s, ch, rfl, by rw [Ze hcb]; exact Zd, h1, h2, hp, hd⟩, w.sub.none hc, hcb⟩
end
section
open PySem PySem.W PyProof.Rows
theorem Zb3.tip {S : List Rw} {s : Bool} {e one other : Int} {l : List Rw} (P : Zb3 S s e one other l) {i : Nat} {x : Rw} (h : l[i]? = some x) : x.e (Xy s i) = Zqi s e (l.take i) := by
  have hi : i < l.length := by
    rcases Nat.lt_or_ge i l.length with q | q
    · exact q
    · rw [List.getElem?_eq_none q] at h; cases h
  have hl : (l.take i).length = i := by rw [List.length_take]; exact Zu7 hi
  unfold Zqi
  cases i with
  | zero => simp only [List.take_zero, List.getLast?_nil]; exact P.fst x h
  | succ k =>
    obtain ⟨z, hz⟩ := Zkz h
    have : (l.take (k + 1)).getLast? = some z := by
      rw [List.getLast?_eq_getElem?, hl, List.getElem?_take, if_pos (by exact Z0d hl)]; exact hz
    rw [this, hl]
    exact P.nxt k z x hz h
theorem Zb3.unique {S : List Rw} {s : Bool} {e one other : Int} {l l' : List Rw} (hp : Yq S) (hi : Inc S) (P : Zb3 S s e one other l) (D : Zef S s e one other l) (P' : Zb3 S s e one other l') (D' : Zef S s e one other l') : l = l' := by
  have key : ∀ {l l' : List Rw}, Zb3 S s e one other l → Zb3 S s e one other l' → Zef S s e one other l' → ∀ i, l.take i = l'.take i → ∀ x, l[i]? = some x → l'[i]? = some x := by
    intro l l' P P' D' i ht x hx
    have h1 := P.tip hx
    have h2 := P.hue i x hx
    have hxS := P.mem x (List.mem_of_getElem? hx)
    cases hy : l'[i]? with
    | some y =>
      have h3 := P'.tip hy
      have h4 := P'.hue i y hy
      have := hp x hxS y (P'.mem y (List.mem_of_getElem? hy)) (Xy s i) (by rw [h1, h3, ht]) (by rw [h2, h4]) (by rw [h2]; simp)
      rw [hi.inj hxS (P'.mem y (List.mem_of_getElem? hy)) this]
    | none =>
      have hlen : l'.length ≤ i := List.getElem?_eq_none_iff.1 hy
      have hil : i < l.length := by
        rcases Nat.lt_or_ge i l.length with q | q
        · exact q
        · rw [List.getElem?_eq_none q] at hx; cases hx
      have hl2 : (l.take i).length = i := by rw [List.length_take]; exact Zu7 hil
      have htk : l'.take i = l' := List.take_of_length_le hlen
      have hle : l'.length = i := by rw [← htk, ← ht, hl2]
      refine absurd ?_ (D' x hxS ?_)
      · rw [hle]; exact h2
      · rw [hle]; rw [ht, htk] at h1; exact h1
  have main : ∀ i, l.take i = l'.take i := by
    intro i
    induction i with
    | zero => rfl
    | succ i ih =>
      rw [List.take_add_one, List.take_add_one, ih]
      congr 2
      cases hx : l[i]? with
      | some x => exact (key P P' D' i ih x hx).symm
      | none =>
        cases hy : l'[i]? with
        | none => rfl
        | some y => rw [key P' P D i ih.symm y hy] at hx; cases hx
  have := main (l.length + l'.length)
  rwa [List.take_of_length_le (by exact Z0c), List.take_of_length_le (by exact Z0b)] at this
noncomputable def HD.renew (D : HD) (k : Int) (p : Addr) : HD := { D with T := D.T.map fun u => if u.1.n = k then (Wk k none u.1, p) else u }
theorem HD.renew_S {D : HD} {k : Int} {p : Addr} : (D.renew k p).S = D.S.map (Wk k none) := by
  unfold HD.renew HD.S
  simp only [List.map_map]
  refine List.map_congr_left fun u _ => ?_
  simp only [Function.comp_apply]
  split
  · rfl
  · rename_i q; rw [Yv q]
theorem Zox {D : HD} {k : Int} {p : Addr} {t : Rw × Addr} (ht : t ∈ D.T) (hk : t.1.n = k) : (Wk k none t.1, p) ∈ (D.renew k p).T := List.mem_map.2 ⟨t, ht, by rw [if_pos hk]⟩
theorem Zm4 {D : HD} {k : Int} {p y : Addr} (h : y ∈ (D.renew k p).T.map (·.2)) : y = p ∨ y ∈ D.T.map (·.2) := by
  obtain ⟨u, hu, rfl⟩ := List.mem_map.1 h
  obtain ⟨v, hv, rfl⟩ := List.mem_map.1 hu
  split
  · exact .inl rfl
  · exact .inr (List.mem_map.2 ⟨v, hv, rfl⟩)
theorem Zv.renew {σ : AH} {C x : Addr} {D : HD} (H : Zv σ C x D) (hi : Inc D.S) {t : Rw × Addr} (ht : t ∈ D.T) {p : Addr} (hp : σ p = none) (ep : Nat) :
    Zv ((σ.set p (.list [.int t.1.l, .int t.1.r, .none])).set D.rd (.dictI (Zfb (D.T.map fun t => (t.1.n, V.ref t.2)) t.1.n (.ref p)) ep)) C x (D.renew t.1.n p) := by
  have H1 := H.sub (Sub.refl.new (o := .list [.int t.1.l, .int t.1.r, .none]) hp)
  obtain ⟨e1, er⟩ := H1.rows
  obtain ⟨e2, es⟩ := H1.sizes
  have er0 : σ D.rd ≠ none := by obtain ⟨_, q⟩ := H.rows; rw [q]; simp
  have ne : ∀ {y o}, (σ.set p (.list [.int t.1.l, .int t.1.r, .none])) y = some o → (∀ kvs ep, o ≠ .dictI kvs ep) → y ≠ D.rd := fun {y o} h1 h2 z => by rw [z, er] at h1; cases h1; exact h2 _ _ rfl
  have prd : p ≠ D.rd := fun z => er0 (by rw [← z]; exact hp)
  refine ⟨(Ze (ne H1.inst (by simp))).trans H1.inst, (Ze (ne H1.attrs (by simp))).trans H1.attrs, H.aRows, H.aSizes, H.aNext, H.names, H.few, ⟨ep, ?_⟩, fun u hu => ?_, ?_, ⟨e2, (Ze (ne es (by simp))).trans es⟩⟩
  · show (AH.set _ D.rd _) D.rd = _
    rw [Zd]
    congr 2
    unfold Zfb
    rw [if_pos (by rw [List.any_eq_true]; exact ⟨(t.1.n, .ref t.2), List.mem_map.2 ⟨t, ht, rfl⟩, by simp⟩)]
    unfold HD.renew
    simp only [List.map_map]
    refine List.map_congr_left fun u _ => ?_
    simp only [Function.comp_apply]
    by_cases q : u.1.n = t.1.n
    · rw [if_pos q, if_pos q]; simp [Xv]
    · rw [if_neg q, if_neg q]
  · obtain ⟨v, hv, rfl⟩ := List.mem_map.1 hu
    by_cases q : v.1.n = t.1.n
    · have := Zk0 hi hv ht q
      subst this
      rw [if_pos rfl]
      show (AH.set _ D.rd _) p = _
      rw [Ze prd, Zd]
      unfold Wk; rw [if_pos rfl]; rfl
    · rw [if_neg q]
      show (AH.set _ D.rd _) v.2 = _
      rw [Ze (ne (H1.row v hv) (by simp))]
      exact H1.row v hv
  · unfold HD.renew
    simp only [List.map_map]
    have hnd := H.nodup
    have hin : ∀ v ∈ D.T, v.2 ≠ p := fun v hv z => by have := H.row v hv; rw [z, hp] at this; cases this
    rw [List.Nodup, List.pairwise_map] at hnd ⊢
    have hi2 : D.T.Pairwise fun a b => a.1.n < b.1.n := by unfold Inc HD.S at hi; rw [List.pairwise_map] at hi; exact hi
    refine (hnd.and hi2).imp_of_mem fun {a b} ha hb h => ?_
    simp only [Function.comp_apply]
    by_cases qa : a.1.n = t.1.n <;> by_cases qb : b.1.n = t.1.n
    · have := h.2; exact Z0a h qa qb
    · rw [if_pos qa, if_neg qb]; exact fun z => hin b hb z.symm
    · rw [if_neg qa, if_pos qb]; exact hin a ha
    · rw [if_neg qa, if_neg qb]; exact h.1
structure Frm (σ σ' : AH) (D D' : HD) : Prop where
  keep : ∀ y o, σ y = some o → ¬ D.foot y → σ' y = some o
  new : ∀ y, D'.foot y → D.foot y ∨ σ y = none
  sz : D'.a = D.a ∧ D'.b = D.b ∧ D'.nx = D.nx
  dom : ∀ y, σ' y = none → σ y = none
theorem Frm.trans {σ σ' σ'' : AH} {D D' D'' : HD} (x : Frm σ σ' D D') (y : Frm σ' σ'' D' D'') : Frm σ σ'' D D'' := by
  refine ⟨fun z o h1 h2 => y.keep z o (x.keep z o h1 h2) fun q => ?_, fun z q => ?_, ⟨y.sz.1.trans x.sz.1, y.sz.2.1.trans x.sz.2.1, y.sz.2.2.trans x.sz.2.2⟩, fun z q => x.dom z (y.dom z q)⟩
  · rcases x.new z q with w | w
    · exact h2 w
    · rw [w] at h1; cases h1
  · rcases y.new z q with w | w
    · exact x.new z w
    · exact .inr (x.dom z w)
theorem Frm.setNew {σ σ' : AH} {D D' : HD} (x : Frm σ σ' D D') {b : Addr} {o : AO} (hb : σ b = none) : Frm σ (σ'.set b o) D D' :=
  ⟨fun y p h1 h2 => by rw [Ze fun z => by rw [z, hb] at h1; cases h1]; exact x.keep y p h1 h2, x.new, x.sz, fun y q => by
    by_cases z : y = b
    · rw [z]; exact hb
    · rw [Ze z] at q; exact x.dom y q⟩
theorem Zur {σ σ' : AH} {b : Addr} {o : AO} (s : Sub σ σ') (h : σ' b = some o) : Sub (σ.set b o) σ' := fun y p q => by
  unfold AH.set at q
  split at q
  · rename_i z; rw [z, h]; exact q
  · exact s y p q
theorem Zv.setList {σ : AH} {C x : Addr} {D : HD} (H : Zv σ C x D) {b : Addr} {l l' : List V} (hb : σ b = some (.list l)) (hn : b ∉ D.T.map (·.2)) : Zv (σ.set b (.list l')) C x D := by
  obtain ⟨ep, er⟩ := H.rows
  obtain ⟨eq, es⟩ := H.sizes
  have ne : ∀ {y o}, σ y = some o → (∀ l, o ≠ .list l) → y ≠ b := fun {y o} h1 h2 z => by rw [z, hb] at h1; cases h1; exact h2 _ rfl
  exact ⟨(Ze (ne H.inst (by simp))).trans H.inst, (Ze (ne H.attrs (by simp))).trans H.attrs, H.aRows, H.aSizes, H.aNext, H.names, H.few, ⟨ep, (Ze (ne er (by simp))).trans er⟩,
    fun t ht => (Ze fun z => hn (List.mem_map.2 ⟨t, ht, z⟩)).trans (H.row t ht), H.nodup, ⟨eq, (Ze (ne es (by simp))).trans es⟩⟩
inductive Zas (S0 : List Rw) (k l r : Int) (m : Nat) (hue : Int) (other : Option Int) (nums : List Int) (S' : List Rw) : Prop
  | inl (h1 : other = none) (h2 : nums = []) (h3 : hue ∈ Yi S0 false l m) (h4 : hue ∈ Yi S0 true r m) (h5 : S' = Zgi S0 k hue) (h6 : ((Yi S0 false l m).filter fun h => decide (h ∈ Yi S0 true r m)).head? = some hue) : Zas S0 k l r m hue other nums S'
  | inr (h0 : ∀ h ∈ Yi S0 false l m, h ∉ Yi S0 true r m) (o : Int) (s : Bool) (ch : List Rw) (h1 : other = some o) (h2 : nums = ch.map Rw.n) (h3 : hue ∈ Yi S0 (!s) (Zdd l r (!s)) m) (h4 : o ∈ Yi S0 s (Zdd l r s) m) (h5 : Zb3 S0 s (Zdd l r s) o hue ch) (h6 : Zef S0 s (Zdd l r s) o hue ch) (h7 : S' = Zcg S0 k hue o nums)
    (h8 : ∀ s' hue' o' ch', hue' ∈ Yi S0 (!s') (Zdd l r (!s')) m → o' ∈ Yi S0 s' (Zdd l r s') m → Zb3 S0 s' (Zdd l r s') o' hue' ch' → Zef S0 s' (Zdd l r s') o' hue' ch' → Zjg ((ch'.length : Int), hue', o') ((ch.length : Int), hue, o) = false) : Zas S0 k l r m hue other nums S'
theorem Zic {S0 : List Rw} {l r : Int} {m : Nat} (hd : ∀ h ∈ Yi S0 false l m, h ∉ Yi S0 true r m) {s : Bool} {hue o : Int} (h1 : hue ∈ Yi S0 (!s) (Zdd l r (!s)) m) (h2 : o ∈ Yi S0 s (Zdd l r s) m) : o ≠ hue := fun z => by
  subst z
  cases s with
  | false => exact hd _ h2 h1
  | true => exact hd _ h1 h2
theorem Zas.hued {S0 S' : List Rw} {k l r : Int} {m : Nat} {hue : Int} {other : Option Int} {nums : List Int} (h : Zas S0 k l r m hue other nums S') (hp : Yq S0) (hi : Inc S0) {x : Rw} (hx : x ∈ S0) (hk : x.n = k) (hn : x.h = none) (hl : x.l = l) (hr : x.r = r) : Zwk S0 S' k m := by
  rcases h with ⟨_, _, h1, h2, rfl, _⟩ | ⟨hd, o, s, ch, _, rfl, h1, h2, hP, hD, rfl, _⟩
  · have m1 := Xw.1 h1
    have m2 := Xw.1 h2
    refine Zpy hp hi hx hk (fun t => ?_) m1.1
    cases t with
    | false => show Zbu S0 false x.l hue; rw [hl]; exact m1.2
    | true => show Zbu S0 true x.r hue; rw [hr]; exact m2.2
  · have m1 := Xw.1 h1
    have m2 := Xw.1 h2
    have he : ∀ t, x.e t = Zdd l r t := fun t => by cases t <;> simp [Rw.e, Zdd, hl, hr]
    refine Way.hued (m := m) ⟨⟨s, x, hx, hk, hn, by rw [he]; exact hP, by rw [he]; exact hD, by rw [he]; exact m2.2, by rw [he]; exact m1.2⟩, Zic hd h1 h2, m1.1, m2.1⟩ hp hi
noncomputable def Z2z : Option Int → V
  | none => .none
  | some o => .int o
noncomputable def Zmt (k hue : Int) (other : Option Int) (c : Addr) : V := .tup [.int k, .int hue, Z2z other, .ref c]
inductive Zsz (C : Addr) (xs : List V) (σ : AH) (Q : V → AH → Prop) : Prop
  | mk (x : Addr) (D : HD) (t : Rw × Addr) (m : Nat) (h0 : xs = [.ref x, .int t.1.n, .int t.1.l, .int t.1.r, .int (m : Nat)]) (h1 : t ∈ D.T) (h2 : Zv σ C x D) (h3 : Inc D.S) (h4 : D.T.length < 64) (h5 : m ≤ 100) (h6 : Yq (D.S.map (Wk t.1.n none))) (h7 : deg D.S false t.1.l ≤ m) (h8 : deg D.S true t.1.r ≤ m) (h9 : ∀ σ' D' hue other nums c, Zv σ' C x D' → Frm σ σ' D D' → Zas (D.S.map (Wk t.1.n none)) t.1.n t.1.l t.1.r m hue other nums D'.S → σ c = none → ¬ D'.foot c → σ' c = some (.list (nums.map V.int)) → Q (Zmt t.1.n hue other c) σ') : Zsz C xs σ Q
noncomputable def Zqz (C : Addr) : TF := fun xs σ Q _ => Zsz C xs σ Q
theorem Zdt {σ : AH} {a : Addr} {xs : List V} {k : Int} {x : V} {Q : V → Prop} (h : σ a = some (.list xs)) (e : atV xs k = some x) (q : Q x) : Za8 (.ref a) (.int k) σ Q := by
  simp only [Za8, h, e]; exact q
theorem Wp {σ : AH} {xs : List V} {k : Int} {x : V} {Q : V → Prop} (e : atV xs k = some x) (q : Q x) : Za8 (.tup xs) (.int k) σ Q := by
  simp only [Za8, e]; exact q
end
section
open PySem PySem.W PyProof.Rows
section
variable {g : Gr} {sc csc : Scope} {r : Nat} {c : Bool} {K : Frag}
end
theorem Zv.dNe {σ : AH} {C x : Addr} {D : HD} (H : Zv σ C x D) : x ≠ D.d ∧ D.rd ≠ D.d ∧ D.sd ≠ D.d ∧ ∀ t ∈ D.T, t.2 ≠ D.d := by
  obtain ⟨ep, er⟩ := H.rows
  obtain ⟨eq, es⟩ := H.sizes
  have ha := H.attrs
  refine ⟨fun z => ?_, fun z => ?_, fun z => ?_, fun t ht z => ?_⟩
  · have := H.inst; rw [z, ha] at this; cases this
  · rw [z, ha] at er; cases er
  · rw [z, ha] at es; cases es
  · have := H.row t ht; rw [z, ha] at this; cases this
theorem Zv.rdNe {σ : AH} {C x : Addr} {D : HD} (H : Zv σ C x D) : x ≠ D.rd ∧ D.d ≠ D.rd ∧ D.sd ≠ D.rd ∧ ∀ t ∈ D.T, t.2 ≠ D.rd := by
  obtain ⟨ep, er⟩ := H.rows
  obtain ⟨eq, es⟩ := H.sizes
  refine ⟨fun z => ?_, fun z => ?_, fun z => ?_, fun t ht z => ?_⟩
  · have := H.inst; rw [z, er] at this; cases this
  · have := H.attrs; rw [z, er] at this; cases this
  · rw [z, er] at es; cases es
  · have := H.row t ht; rw [z, er] at this; cases this
theorem Zfy {kvs : List (Str × V)} {a b : Str} {v : V} (h : (b == a) = false) : ((a, v) :: kvs).lookup b = kvs.lookup b := by
  rw [List.lookup_cons, h]
theorem Zv.setNext {σ : AH} {C x : Addr} {D : HD} (H : Zv σ C x D) (h0 : 0 ≤ D.nx) :
    Zv (σ.set D.d (.attrs ((Str.ofString "next_number", .int (D.nx + 1)) :: D.kvs))) C x { D with nx := D.nx + 1, kvs := (Str.ofString "next_number", .int (D.nx + 1)) :: D.kvs } := by
  obtain ⟨n1, n2, n3, n4⟩ := H.dNe
  obtain ⟨ep, er⟩ := H.rows
  obtain ⟨eq, es⟩ := H.sizes
  refine ⟨(Ze n1).trans H.inst, Zd, ?_, ?_, ?_, fun p hp => ?_, ?_, ⟨ep, (Ze n2).trans er⟩, fun t ht => (Ze (n4 t ht)).trans (H.row t ht), H.nodup, ⟨eq, (Ze n3).trans es⟩⟩
  · show List.lookup _ (_ :: _) = _
    rw [Zfy (by decide +kernel)]; exact H.aRows
  · show List.lookup _ (_ :: _) = _
    rw [Zfy (by decide +kernel)]; exact H.aSizes
  · show List.lookup _ (_ :: _) = _
    rw [List.lookup_cons]; simp
  · rcases List.mem_cons.1 hp with rfl | q
    · exact .inr (.inr rfl)
    · exact H.names p q
  · have := H.few
    show ((Str.ofString "next_number", V.int (D.nx + 1)) :: D.kvs).length ≤ 3 + (D.nx + 1).toNat
    rw [List.length_cons]; exact Zz9 h0 this
noncomputable def HD.add (D : HD) (w : Rw) (p : Addr) : HD := { D with T := D.T ++ [(w, p)] }
theorem HD.add_S {D : HD} {w : Rw} {p : Addr} : (D.add w p).S = D.S ++ [w] := by simp [HD.add, HD.S]
theorem Zv.addRow {σ : AH} {C x : Addr} {D : HD} (H : Zv σ C x D) {w : Rw} (hw : ∀ t ∈ D.T, t.1.n ≠ w.n) {p : Addr} (hp : σ p = none) (ep : Nat) :
    Zv ((σ.set p (.list (Zg6 w))).set D.rd (.dictI (Zfb (D.T.map fun t => (t.1.n, V.ref t.2)) w.n (.ref p)) ep)) C x (D.add w p) := by
  have H1 := H.sub (Sub.refl.new (o := .list (Zg6 w)) hp)
  obtain ⟨n1, n2, n3, n4⟩ := H1.rdNe
  obtain ⟨e2, es⟩ := H1.sizes
  have prd : p ≠ D.rd := fun z => by obtain ⟨_, q⟩ := H.rows; rw [← z, hp] at q; cases q
  refine ⟨(Ze n1).trans H1.inst, (Ze n2).trans H1.attrs, H.aRows, H.aSizes, H.aNext, H.names, H.few, ⟨ep, ?_⟩, fun u hu => ?_, ?_, ⟨e2, (Ze n3).trans es⟩⟩
  · show (AH.set _ D.rd _) D.rd = _
    rw [Zd]
    unfold Zfb
    rw [if_neg ?_]
    · simp [HD.add]
    · rw [List.any_eq_true]
      rintro ⟨q, hq, z⟩
      obtain ⟨t, ht, rfl⟩ := List.mem_map.1 hq
      exact hw t ht (by simpa using z)
  · show (AH.set _ D.rd _) u.2 = _
    rcases List.mem_append.1 hu with q | q
    · rw [Ze (n4 u q)]; exact H1.row u q
    · rw [List.mem_singleton.1 q, Ze prd, Zd]
  · show ((D.T ++ [(w, p)]).map (·.2)).Nodup
    rw [List.map_append, List.nodup_append]
    refine ⟨H.nodup, by simp, fun a ha b hb z => ?_⟩
    simp at hb; subst hb
    obtain ⟨t, ht, rfl⟩ := List.mem_map.1 ha
    have := H.row t ht; rw [z, hp] at this; cases this
noncomputable def HD.drop (D : HD) (k : Int) : HD := { D with T := D.T.filter fun t => t.1.n != k }
theorem HD.drop_S {D : HD} {k : Int} : (D.drop k).S = drp k D.S := by
  unfold HD.drop HD.S drp
  rw [List.filter_map]; rfl
theorem Zv.dropRow {σ : AH} {C x : Addr} {D : HD} (H : Zv σ C x D) (k : Int) (ep : Nat) :
    Zv (σ.set D.rd (.dictI ((D.T.map fun t => (t.1.n, V.ref t.2)).filter fun kv => decide (kv.1 ≠ k)) ep)) C x (D.drop k) := by
  obtain ⟨n1, n2, n3, n4⟩ := H.rdNe
  obtain ⟨e2, es⟩ := H.sizes
  refine ⟨(Ze n1).trans H.inst, (Ze n2).trans H.attrs, H.aRows, H.aSizes, H.aNext, H.names, H.few, ⟨ep, ?_⟩, fun u hu => ?_, ?_, ⟨e2, (Ze n3).trans es⟩⟩
  · show (AH.set _ D.rd _) D.rd = _
    rw [Zd]
    unfold HD.drop
    rw [List.filter_map]
    congr 4
    funext t
    simp only [Function.comp_apply]
    rw [Bool.eq_iff_iff]; simp
  · have hu' := (List.mem_filter.1 hu).1
    show (AH.set _ D.rd _) u.2 = _
    rw [Ze (n4 u hu')]; exact H.row u hu'
  · exact H.nodup.sublist (List.Sublist.map _ List.filter_sublist)
theorem Zin {S : List Rw} {s : Bool} {e : Int} : deg S s e ≤ S.length := List.length_filter_le _ _
theorem Zaw {S : List Rw} {a b : Int} {m : Nat} (h : Zao S a b m) : m ≤ S.length := by
  rcases h.got with q | ⟨s, e, _, _, q⟩
  · exact Zq8 q
  · have := Zin (S := S) (s := s) (e := e); exact Zu8 q this
structure Zmh (D : HD) (m : Nat) : Prop where
  good : Zex D.S D.a D.b m
  a8 : 1 ≤ D.a ∧ D.a ≤ 8
  b8 : 1 ≤ D.b ∧ D.b ≤ 8
  nx : 0 ≤ D.nx ∧ D.nx ≤ 1000
  below : ∀ x ∈ D.S, x.n < D.nx
structure Zb6 where
  k : Int
  hue : Int
  other : Option Int
  nums : List Int
  c : Addr
noncomputable def Zb6.v (e : Zb6) : V := Zmt e.k e.hue e.other e.c
inductive Zeg (m : Nat) : List Rw → List Zb6 → List Rw → Prop
  | nil {S : List Rw} : Zeg m S [] S
  | snoc {S S1 S2 : List Rw} {log : List Zb6} {e : Zb6} {t : Rw} : Zeg m S log S1 → t ∈ S1 → t.n = e.k → t.h = some (m : Int) → Zas (S1.map (Wk e.k none)) e.k t.l t.r m e.hue e.other e.nums S2 → Zeg m S (log ++ [e]) S2
noncomputable def Zep (t : Rw × Addr) : V := .tup [.int t.1.n, .int t.1.l, .int t.1.r, Zjr t.1.h]
inductive Zp4 (C : Addr) (xs : List V) (σ : AH) (Q : V → AH → Prop) : Prop
  | mk (x : Addr) (D : HD) (h0 : xs = [.ref x]) (h1 : Zv σ C x D) (h2 : Inc D.S) (h3 : D.T.length < 64) (h4 : ∀ b, σ b = none → Q (.ref b) (σ.set b (.list (D.T.map Zep)))) : Zp4 C xs σ Q
noncomputable def Zop (C : Addr) : TF := fun xs σ Q _ => Zp4 C xs σ Q
theorem Zon {S T : List Rw} (h : S.map sk = T.map sk) : S.map Rw.n = T.map Rw.n := by
  have : ∀ U : List Rw, U.map Rw.n = (U.map sk).map (·.1) := fun U => by rw [List.map_map]; rfl
  rw [this, this, h]
theorem Zmh.of_sk {D D' : HD} {m m' : Nat} (W : Zmh D m) (hg : Zex D'.S D.a D.b m') (hs : D'.a = D.a ∧ D'.b = D.b ∧ D'.nx = D.nx) (hsk : ∀ n ∈ D'.S.map Rw.n, n ∈ D.S.map Rw.n) : Zmh D' m' :=
  ⟨by rw [hs.1, hs.2.1]; exact hg, by rw [hs.1]; exact W.a8, by rw [hs.2.1]; exact W.b8, by rw [hs.2.2]; exact W.nx, fun x hx => by
    obtain ⟨y, hy, e⟩ := List.mem_map.1 (hsk x.n (List.mem_map.2 ⟨x, hx, rfl⟩))
    rw [hs.2.2, ← e]; exact W.below y hy⟩
end
section
open PySem PySem.W PyProof.Rows
theorem Zg9 : ∀ (ps acc : List (Int × V)), (acc ++ ps).Pairwise (fun a b => a.1 ≠ b.1) → Zdi acc ps = acc ++ ps
  | [], acc, _ => by simp [Zdi]
  | p :: ps, acc, h => by
    show Zdi (Zfb acc p.1 p.2) ps = _
    have hn : (acc.any fun kv => decide (kv.1 = p.1)) = false := by
      rw [List.any_eq_false]
      intro q hq
      have := (List.pairwise_append.1 h).2.2 q hq p (.head _)
      simpa using this
    have e : Zfb acc p.1 p.2 = acc ++ [p] := by unfold Zfb; rw [if_neg (by rw [hn]; simp)]
    rw [e, Zg9 ps (acc ++ [p]) (by simpa using h)]
    simp
noncomputable def Zv6 (p : Int × Int × Int) : Int × V := (p.1, .tup [.int p.2.1, .int p.2.2])
noncomputable def Zam (S : List Rw) : List (Int × V) := (S.map sk).map Zv6
theorem Zk7 {S : List Rw} : (Zam S).map (·.1) = S.map Rw.n := by unfold Zam; rw [List.map_map, List.map_map]; rfl
inductive Zmk (xs : List V) (σ : AH) (Q : V → AH → Prop) : Prop
  | mk (ns : List Int) (k : Nat) (h0 : xs = [.frz (ns.map V.int), .int k]) (h1 : ∀ c, Q (.int c) σ) : Zmk xs σ Q
noncomputable def Zkl : TF := fun xs σ Q _ => Zmk xs σ Q
inductive Zp5 (xs : List V) (σ : AH) (Q : V → AH → Prop) : Prop
  | mk (c : Int) (k : Int) (h0 : xs = [.int c, .int k]) (h1 : 0 ≤ k) (h2 : k ≤ 1000000) (h3 : ∀ n : Int, 0 ≤ n → Q (.int n) σ) : Zp5 xs σ Q
noncomputable def Zor : TF := fun xs σ Q _ => Zp5 xs σ Q
inductive Zj6 (xs : List V) (σ : AH) (Q : V → AH → Prop) : Prop
  | mk (c : Int) (h0 : xs = [.int c]) (h1 : ∀ a b k : Int, 1 ≤ a → a ≤ 8 → 1 ≤ b → b ≤ 8 → Q (.tup [.int a, .int b, .int k]) σ) : Zj6 xs σ Q
noncomputable def Zh7 : TF := fun xs σ Q _ => Zj6 xs σ Q
noncomputable def goS : Str := Str.ofString "go"
noncomputable def Znn : Str := Str.ofString "come"
theorem Zdv {xs : List V} {k : Int} (h0 : 0 ≤ k) (h1 : k < xs.length) : ∃ x, atV xs k = some x ∧ x ∈ xs := by
  have hk : k.toNat < xs.length := by exact Zu9 h0 h1
  exact ⟨xs[k.toNat], Wj h0 (by simp [hk]), List.getElem_mem hk⟩
theorem Zap {t : TB} {a b : TS} {ℓ : Loc} {σ : AH} {Q : Fl → Loc → AH → Prop} {E : Addr → Loc → AH → Prop} (h : ∀ K : Bool → AH → Prop, (∀ σ', a ℓ σ' Q E → K true σ') → (∀ σ', b ℓ σ' Q E → K false σ') → t ℓ σ K fun C σ' => E C ℓ σ') : Zi1 t a b ℓ σ Q E :=
  h _ (fun _ h => h) (fun _ h => h)
theorem Ztu : (Znn == goS) = false := by decide +kernel
theorem Ztn : (goS == Znn) = false := by decide +kernel
theorem Zip : PyData.strOk Znn = true := by decide +kernel
theorem Zro : PyData.strOk goS = true := by decide +kernel
end
section
open PySem PySem.W PyProof.Rows
theorem Zim {S : List Rw} (hi : Inc S) : (Zam S).Pairwise fun a b => a.1 ≠ b.1 := by
  unfold Zam
  rw [List.map_map, List.pairwise_map]
  exact hi.imp fun h => by simp [Zv6, sk]; exact Zz8 h
theorem Zga {σ : AH} {i j : Int} {Q : Bool → Prop} (h : Q (i == j)) : eqD (.int i) (.int j) σ Q := by
  simp only [eqD]; exact h
end
section
open PySem PySem.W PyProof.Rows
theorem Zct {σ : AH} {C x : Addr} {D : HD} {b : Addr} (H : Zv σ C x D) (hb : σ b = none) : ¬ D.foot b := fun q => by
  rcases q with q | q | q
  · have := H.attrs; rw [← q, hb] at this; cases this
  · obtain ⟨_, this⟩ := H.rows; rw [← q, hb] at this; cases this
  · obtain ⟨u, hu, rfl⟩ := List.mem_map.1 q
    have := H.row u hu; rw [hb] at this; cases this
noncomputable def Zut : TF := fun xs σ Q _ => ∃ ns : List Int, xs = [.frz (ns.map V.int)] ∧ ns.length ≤ 63 ∧ ∀ σ', Q (.bool true) σ'
end
section
open PySem PySem.W PyProof.Rows
section
variable {prog : Program} {w : World} {A : Around} {E : Value → Shared → Prop} {s : Shared} {d : Addr} {vs : List Value} {ep : Nat}
end
end
section
open PySem PySem.W PyProof.Rows
variable {g : Gr} {sc csc : Scope} {r : Nat} {c : Bool} {K : Frag}
noncomputable def Zuo : TF := fun xs σ Q _ => ∃ b, xs = [.bool b] ∧ Q (.int (if b then 1 else 0)) σ
theorem Zok : Zdb g r (.type "int") Zuo := .mk fun A s σ xs vs Q E G Fr Rm R hv h => by
  obtain ⟨b, rfl, h⟩ := h
  obtain ⟨v, _, rfl, ha, hr⟩ := Zi hv
  rw [Zr hr, Y9.mp ha]
  exact call_int_bool (Xl R rfl ⟨rfl, rfl, rfl⟩ (Zx.mpr ⟨_, rfl⟩) h)
noncomputable def Z2y : TF := fun xs σ Q _ => ∃ (a : Addr) (bs : List Bool), xs = [.ref a] ∧ σ a = some (.list (bs.map V.bool)) ∧ Q (.bool (bs.all id)) σ
theorem Zh2 : Zdb g r (.builtin "all") Z2y := .mk fun A s σ xs vs Q E G Fr Rm R hv h => by
  obtain ⟨a, bs, rfl, e, h⟩ := h
  obtain ⟨v, _, rfl, ha, hr⟩ := Zi hv
  rw [Zr hr, Z9.mp ha]
  obtain ⟨hf, us, n, ho, hvs⟩ := (R.own a _ e).2
  have hlt : a < s.heap.objs.size := Heap.lt_size ho
  have hl : s.heap.IsList a us := ⟨_, ho, rfl, n, rfl⟩
  have hlen : bs.length = us.size := by have := Zu hvs; simpa using this
  refine call_all_walk (wpAny_pyIter_list hl ?_)
  refine ⟨s.heap.objs.size, [s.heap.objs.size, a], [s.heap.objs.size], us.size, _, _, fun i => (bs[i]?).getD true, rfl, Walks.list (A := A.in1) (Rm.calm rfl) _ a (Nat.ne_of_lt hlt) us, ⟨⟨_, Heap.get?_push_size _ rfl, rfl, rfl⟩, hl.push _⟩, fun i v s' Q' E' hP hQ => ?_, fun h' tk hk => ?_⟩
  · replace hP : us[i]? = some v := hP
    replace hQ : Q' ((bs[i]?).getD true) s' := hQ
    have hi : i < bs.length := by
      rcases Nat.lt_or_ge i bs.length with q | q
      · exact q
      · rw [Array.getElem?_eq_none (by exact Zz7 hlen q)] at hP; cases hP
    obtain ⟨u, hu, hb⟩ := Zir hvs (i := i) (x := .bool bs[i]) (by simp [hi])
    rw [hP] at hu; cases hu
    rw [Y9.mp hb]
    simp only [List.getElem?_eq_getElem hi, Option.getD_some] at hQ
    exact wpAny_truthy_bool hQ
  · have e2 : ((List.range us.size).all fun i => (bs[i]?).getD true) = bs.all id := by
      rw [Bool.eq_iff_iff, List.all_eq_true, List.all_eq_true]
      constructor
      · intro q b hb
        obtain ⟨i, hi, rfl⟩ := List.getElem_of_mem hb
        have := q i (List.mem_range.2 (by exact Zz6 hlen hi))
        simpa [List.getElem?_eq_getElem hi] using this
      · intro q i hi
        have hi' : i < bs.length := by have := List.mem_range.1 hi; exact Zvh hlen this
        simp only [List.getElem?_eq_getElem hi', Option.getD_some]
        exact q _ (List.getElem_mem hi')
    rw [e2]
    refine .keeps (fun b o q => hk b o (fun hm => ?_) (Heap.get?_push_of_some _ q)) ⟨rfl, rfl, rfl⟩ (Y9.mpr rfl) R h
    rw [List.mem_singleton.1 hm, Z1] at q; cases q
end
section
open PySem PySem.W PyProof.Rows
end
section
open PySem PySem.W PyProof.Rows
variable {g : Gr} {sc : Scope} {r : Nat} {c : Bool}
section
variable {o : Expr} {apos pos : Pos} {args : List Expr} {to : TE} {ts : TL}
theorem Zvo (ho : Y1 g sc r true o to) (hL : Zkb g sc r true args ts) (hp : Zc0 args) (hbase : Zdj o = false) (hfew : decide (args.length < 30) = true)
    (hline : (apos.endLine == pos.line) = true) : Y1 g sc r true (.Call (.Attribute o (Str.ofString "join") apos) args [] pos) (Xd .str Zum to ts) :=
  Za3 (T := .str) F.plainAttrs_str F.slot_str_join F.type_str_join Zoi ho hL hp hbase hfew hline
theorem Zvn (ho : Y1 g sc r true o to) (hL : Zkb g sc r true args ts) (hp : Zc0 args) (hbase : Zdj o = false) (hfew : decide (args.length < 30) = true)
    (hline : (apos.endLine == pos.line) = true) : Y1 g sc r true (.Call (.Attribute o (Str.ofString "split") apos) args [] pos) (Xd .str Zse to ts) :=
  Za3 (T := .str) F.plainAttrs_str F.slot_str_split F.type_str_split Zmx ho hL hp hbase hfew hline
end
noncomputable def Zub (v : V) (σ : AH) : Option Bool := match v with
  | .none => some false
  | .bool _ => some false
  | .int _ => some false
  | .str _ => some true
  | .tup _ => some false
  | .ref a => (match σ a with
    | some (.list _) => some false
    | some (.dictI _ _) => some false
    | _ => none)
  | _ => none
noncomputable def Zwo (t : TE) : TE := fun ℓ σ Q E => t ℓ σ (fun v σ₁ => match Zub v σ₁ with | some b => Q (.bool b) σ₁ | none => False) E
theorem Zvt {A : Around} {E : Value → Shared → Prop} {s : Shared} {σ : AH} {x : V} {v : Value} {b : Bool} {Q : V → AH → Prop} (R : Rel g s.heap σ) (hx : VR g s.heap x v) (e : Zub x σ = some b) (h : Q (.bool b) σ) :
    wpAny (model g.prog g.w) A (call (.builtin "isinstance") [v, .type "str"]) (Wq g s σ Q) E s := by
  have key : ∀ tk, Wq g s σ Q (.bool b) { s with toks := tk } := fun tk => Xl R rfl ⟨rfl, rfl, rfl⟩ (Y9.mpr rfl) h
  cases x with
  | none => cases e; rw [Xu.mp hx]; exact IsiPair.NoneType_str (key _)
  | bool y => cases e; rw [Y9.mp hx]; exact IsiPair.bool_str (key _)
  | int i => cases e; obtain ⟨t, rfl⟩ := Zx.mp hx; exact IsiPair.int_str (key _)
  | str y => cases e; obtain ⟨_, t, rfl⟩ := Z8.mp hx; exact IsiPair.str_str (key s.toks)
  | tup ys =>
    cases e
    obtain ⟨_, a, o, us, m, rfl, _, ho, hc, hd, _⟩ := Xn.mp hx
    exact IsiPair.tuple_str ho hc (key _)
  | ref a =>
    rw [Z9.mp hx]
    simp only [Zub] at e
    split at e
    · rename_i ys q
      cases e
      obtain ⟨_, us, n, ho, _⟩ := (R.own a _ q).2
      exact IsiPair.list_str ho rfl (key _)
    · rename_i kvs ep q
      cases e
      obtain ⟨_, us, hd, _⟩ := (R.own a _ q).2
      obtain ⟨o, es, ho, hc, _⟩ := hd
      exact IsiPair.dict_str ho hc.1 (key _)
    · cases e
  | _ => cases e
theorem Zh3 {e : Expr} {p p' pos : Pos} {t : TE} (hm : (Str.ofString "isinstance", NameKind.globalImplicit) ∈ sc.names) (hb : Yr g "isinstance" (.builtin "isinstance")) (hm' : (Str.ofString "str", NameKind.globalImplicit) ∈ sc.names) (hb' : Yr g "str" (.type "str"))
    (h1 : Y1 g sc r c e t) (hs : Ze2 e = false) : Y1 g sc r c (.Call (.Name (Str.ofString "isinstance") p) [e, .Name (Str.ofString "str") p'] [] pos) (Zwo t) := .mk fun A env s ℓ σ Q E X h => by
  show wpAny _ A (do callWith pos (← eval (.Name (Str.ofString "isinstance") p) env) [] (backTo pos (starEach [e, .Name (Str.ofString "str") p'] env)) (backToKw pos (keywordEach [] env))) _ _ s
  refine wpAny_bind (Yc X hm hb ?_)
  rw [Ym env hs, Ym (es := []) env rfl]
  refine Xe (.inr (.inl ⟨_, rfl⟩)) rfl ?_
  show wpAny _ A (spliced [(false, eval e env), (false, eval (.Name (Str.ofString "str") p') env)]) _ _ s
  refine Calls.spliced_cons (wpAny_mono (h1.run A env s ℓ σ _ E X h) (fun v s₁ p => ?_) fun _ _ p => p)
  refine Wr.elim p fun x σ₁ hv hR hx hs1 hq => ?_
  refine Calls.spliced_cons (Yc (X.step hR hx) hm' hb' (Calls.spliced_nil ⟨fun a o e => hR.base a o e, ?_⟩))
  split at hq
  · rename_i b e
    exact X7 hx hs1 (Zvt hR hv e hq)
  · exact hq.elim
inductive Zew (g : Gr) (a : Addr) : Prop
  | mk (t1 t2 : Tok) (hm : g.b0.MapOf (strKind g.prog g.w) a fun x => if x = Xb then some (.int 3 t1) else if x = Ze4 then some (.int 2 t2) else none) (hd : (a == sysModules) = false) : Zew g a
theorem Zfx {h h' : Heap} {K : Type} [DecidableEq K] {prog : Program} {w : World} {knd : KeyKind prog w K} {a : Addr} {f : K → Option Value} (m : h.MapOf knd a f) (k : ∀ b o, h.get? b = some o → h'.get? b = some o) : h'.MapOf knd a f :=
  let ⟨o, es, ep, e, r⟩ := m; ⟨o, es, ep, k _ _ e, r⟩
noncomputable def Zn6 (t : TE) : TB := fun ℓ σ Q E => t ℓ σ (fun v σ₁ => ∃ x, v = .str x ∧ Q (!(sizeOf? x).isSome) σ₁) E
theorem Zkj {n : String} {a : Addr} {e : Expr} {t : TE} {p pos : Pos} (hm : (Str.ofString n, NameKind.globalImplicit) ∈ sc.names) (hb : Yr g n (.ref a)) (Z : Zew g a) (h1 : Y1 g sc r c e t) :
    Znq g sc r c (.Compare e [.NotIn] [.Name (Str.ofString n) p] pos) (Zn6 t) := .mk fun A env s ℓ σ Q E X h => by
  refine wpAny_isTrue_Compare1 (wpAny_mono (h1.run A env s ℓ σ _ E X h) (fun u s₁ p => ?_) fun _ _ p => p) rfl
  refine Wr.elim p fun v σ₁ hu hR hx hs hq => ?_
  refine Yc (X.step hR hx) hm hb ?_
  obtain ⟨x, rfl, hq⟩ := hq
  obtain ⟨_, t', rfl⟩ := Z8.mp hu
  obtain ⟨t1, t2, hmp, hd⟩ := Z
  refine wpAny_notIn_of (strKind_is _ _ x t') hd (Zfx hmp fun b o e => hR.base b o e) ?_
  refine wpAny_truthy_bool ⟨_, σ₁, rfl, hR, hx, hs.trans ⟨rfl, rfl, rfl⟩, ?_⟩
  have : (if x = Xb then some (Value.int 3 t1) else if x = Ze4 then some (Value.int 2 t2) else none).isSome = (sizeOf? x).isSome := by
    unfold sizeOf?; split
    · rfl
    · split <;> rfl
  rw [this]; exact hq
noncomputable def Zll (t : TE) : TE := fun ℓ σ Q E => t ℓ σ (fun v σ₁ => ∃ (x : Str) (n : Nat), v = .str x ∧ sizeOf? x = some n ∧ Q (.int n) σ₁) E
theorem Zi5 {n : String} {a : Addr} {e : Expr} {t : TE} {p pos : Pos} (hm : (Str.ofString n, NameKind.globalImplicit) ∈ sc.names) (hb : Yr g n (.ref a)) (Z : Zew g a) (h1 : Y1 g sc r c e t) (hs : ∀ a b, subscripted e false a b = operate [a, b] (getItem a b)) :
    Y1 g sc r c (.Subscript (.Name (Str.ofString n) p) e pos) (Zll t) := .mk fun A env s ℓ σ Q E X h => by
  refine Subscript_ (Yc X hm hb ?_)
  refine wpAny_mono (h1.run A env s ℓ σ _ E X h) (fun v s₂ p => ?_) fun _ _ p => p
  refine Wr.elim p fun y σ₂ hv hR hx hs2 hq => ?_
  obtain ⟨x, k, rfl, ek, hq⟩ := hq
  obtain ⟨_, t', rfl⟩ := Z8.mp hv
  obtain ⟨t1, t2, hmp, hd⟩ := Z
  have hmp' := Zfx (h' := s₂.heap) hmp fun b o e => hR.base b o e
  have fin : ∀ tok tk, Wq g s σ Q (.int k tok) { s₂ with toks := tk } := fun tok tk => ⟨.int k, σ₂, Zx.mpr ⟨_, rfl⟩, hR, hx, hs2.trans ⟨rfl, rfl, rfl⟩, hq⟩
  have hT : s₂.TypeIs (.ref a) "dict" := let ⟨o, _, _, e, ex, _⟩ := hmp'; ⟨o, e, ex.1⟩
  unfold sizeOf? at ek
  by_cases h1 : x = Xb
  · rw [if_pos h1] at ek; cases ek
    exact tail_any hT slot_dict_getitem.lookup (wpAny_getItem_of (strKind_is _ _ x t') hmp' (if_pos h1) (fin t1 _)) (hs _ _)
  · rw [if_neg h1] at ek
    by_cases h2 : x = Ze4
    · rw [if_pos h2] at ek; cases ek
      exact tail_any hT slot_dict_getitem.lookup (wpAny_getItem_of (strKind_is _ _ x t') hmp' ((if_neg h1).trans (if_pos h2)) (fin t2 _)) (hs _ _)
    · rw [if_neg h2] at ek; cases ek
noncomputable def Ze0 {α : Type} (F : α → Option V) : List α → Option (List V)
  | [] => some []
  | x :: xs => match F x, Ze0 F xs with
    | some v, some vs => some (v :: vs)
    | _, _ => none
theorem Zj1 {α : Type} {t : Tgt} {inv : AH → Prop} {telt : TE} {ℓ : Loc} {σ : AH} {Q : List V → AH → Prop} {E : Addr → AH → Prop} (C : Addr) (f : α → V) (F : α → Option V) (hinv : inv σ) :
    ∀ (xs : List α) (acc : List V), (∀ x ∈ xs, ∃ ℓ₁, (∀ P : Loc → Prop, P ℓ₁ → Xs t (f x) ℓ.bare σ P) ∧ ∀ Qv, (∀ v, F x = some v → Qv v σ) → (F x = none → E C σ) → telt ℓ₁ σ Qv E) →
      (∀ vs, Ze0 F xs = some vs → Q (acc ++ vs) σ) → (Ze0 F xs = none → E C σ) → Zet t inv (Xo true) telt ℓ (xs.map f) acc σ Q E
  | [], acc, _, h, _ => ⟨hinv, by simpa using h [] rfl⟩
  | x :: xs, acc, hs, h, he => by
    obtain ⟨ℓ₁, h1, h2⟩ := hs x (.head _)
    refine ⟨hinv, h1 _ (h2 _ (fun v ev => ?_) fun ev => he (by simp only [Ze0, ev]))⟩
    refine Zj1 C f F hinv xs (acc ++ [v]) (fun y hy => hs y (.tail _ hy)) (fun vs evs => ?_) fun evs => he (by simp only [Ze0, ev, evs])
    have := h (v :: vs) (by simp only [Ze0, ev, evs])
    simpa using this
theorem Zeq : ∀ ws : List Str, Ze0 (fun w => (num? w).map V.int) ws = (Zck ws).map (List.map V.int)
  | [] => rfl
  | w :: ws => by
    simp only [Ze0, Zck, Zeq ws]
    cases num? w with
    | none => simp
    | some n =>
      cases Zck ws with
      | none => simp
      | some ns => simp
end
section
open PySem PySem.W PyProof.Rows
variable {g : Gr} {sc : Scope} {r : Nat} {c : Bool}
noncomputable def Zrz (k : Str) (ns : List Int) : V := .tup (.str k :: ns.map V.int)
inductive Zj8 (CB : Addr) (xs : List V) (σ : AH) (Q : V → AH → Prop) (E : Addr → AH → Prop) : Prop
  | mk (w : Str) (e : xs = [.str w]) (ha : Zei w) (hl : w.length ≤ 1000) (h1 : ∀ n, num? w = some n → Q (.int n) σ) (h2 : num? w = none → E CB σ) : Zj8 CB xs σ Q E
noncomputable def Zfq (CB : Addr) : TF := Zj8 CB
noncomputable def Zwi (v : V) (σ : AH) : Prop := Zub v σ = some false
inductive Zlf (CB : Addr) (xs : List V) (σ : AH) (Q : V → AH → Prop) (E : Addr → AH → Prop) : Prop
  | text (t : Str) (e : xs = [.str t]) (ha : Zei t) (hl : t.length ≤ 1000) (h1 : ∀ k ns, due? t = some (k, ns) → Q (Zrz k ns) σ) (h2 : due? t = none → E CB σ) : Zlf CB xs σ Q E
  | none (v : V) (e : xs = [v]) (hn : Zwi v σ) (h2 : E CB σ) : Zlf CB xs σ Q E
noncomputable def Zkk (CB : Addr) : TF := Zlf CB
theorem Zil (ch : Nat) : Txt.contains (Str.ofString "0123456789") ⟨#[ch]⟩ = Zl8 ch := by
  have h : Txt.contains (Str.ofString "0123456789") ⟨#[ch]⟩ = decide (ch ∈ (Str.ofString "0123456789").cps.toList) := StrLaws.found_one _ _
  rw [h, show (Str.ofString "0123456789").cps.toList = List.range' 48 10 from by decide +kernel]
  exact decide_eq_decide.mpr (List.mem_range'_1.trans (and_congr_right fun _ => Nat.lt_succ_iff))
theorem Zne {w : Str} {ch : Nat} {rest : List Nat} (ew : sg w = ch :: rest) : (seqIndex? 0 w.length).bind (w.cps[·]?) = some ch := by
  have hl : 0 < w.length := by rw [← Za4, ew]; simp
  have e : seqIndex? 0 w.length = some 0 := by
    unfold seqIndex?
    simp [hl]
  rw [e]
  show w.cps[0]? = some ch
  have : w.cps.toList[0]? = some ch := by rw [show w.cps.toList = ch :: rest from ew]; rfl
  simpa using this
theorem Zqk : Str.ofString "0" = Zmo := by decide +kernel
theorem Zr3 (ch : Nat) : ((⟨#[ch]⟩ : Str) == Zmo) = decide (ch = 48) := by
  by_cases h : ch = 48
  · subst h; decide
  · rw [decide_eq_false h, beq_eq_false_iff_ne]
    intro e
    have := congrArg sg e
    simp [sg, Zmo] at this
    exact h this
theorem Zv9 {ch : Nat} (h : ch < 128) : PyData.strOk (⟨#[ch]⟩ : Str) = true := Zb2 (by rw [Zab]; intro c hc; simp [sg] at hc; exact Zz5 h hc)
theorem Zn0 {w : Str} (h : 1 ≤ w.length) : ∃ ch rest, sg w = ch :: rest := by
  cases q : sg w with
  | nil => have := Za4 w; rw [q] at this; simp at this; omega
  | cons a b => exact ⟨a, b, rfl⟩
theorem Zvj {w : Str} {ch : Nat} {rest : List Nat} (l1 : 1 ≤ w.length) (l2 : w.length ≤ 30) (hal : (sg w).all Zl8 = true) (ew : sg w = ch :: rest) : okW w = !(decide (ch = 48) && !(w == Zmo)) := by
  have hh : ((sg w).head? == some 48) = decide (ch = 48) := by
    rw [ew]; show (some ch == some 48) = _
    by_cases h : ch = 48
    · subst h; rfl
    · rw [decide_eq_false h]; simpa using h
  unfold okW; rw [decide_eq_true l1, decide_eq_true l2, hal, hh]; simp
theorem Zvk {w : Str} (h : okW w = true) : num? w = some (Zt5 w) := by unfold num?; rw [h]; rfl
theorem Zvl {w : Str} (h : okW w = false) : num? w = none := by unfold num?; rw [h]; rfl
theorem Zeb {σ : AH} : ∀ xs : List Str, Xf σ (xs.map PyData.str) (xs.map V.str)
  | [] => by simp [Xf]
  | x :: xs => by
    simp only [List.map_cons, Xf]
    exact ⟨_, _, rfl, by simp [Y0], Zeb xs⟩
theorem Zf0 : ∀ {xs : List Str}, (∀ x ∈ xs, PyData.strOk x = true) → PyData.canLayAll0 (xs.map PyData.str) = true ∧ PyData.depthAll (xs.map PyData.str) ≤ 1
  | [], _ => by simp [PyData.canLayAll0, PyData.depthAll]
  | x :: xs, h => by
    obtain ⟨h1, h2⟩ := Zf0 fun y hy => h y (.tail _ hy)
    have h3 := Zkr (h x (.head _))
    have h4 := h3.1
    refine ⟨by simp only [List.map_cons, PyData.canLayAll0, h4, h1, Bool.and_self], ?_⟩
    simp only [List.map_cons, PyData.depthAll, PyData.depth]
    exact Zw2 h2
theorem Zrh {xs : List Str} (h : ∀ x ∈ xs, PyData.strOk x = true) : Lay (.list (xs.map PyData.str)) := by
  obtain ⟨h1, h2⟩ := Zf0 h
  exact ⟨by simpa [PyData.canLay0] using h1, by simp only [PyData.depth]; exact Zw1 h2⟩
theorem Zqr : Str.ofString " " = spS := by decide +kernel
theorem Zmp (t : Str) : ∃ w ws, Wm t = w :: ws := by
  cases q : Wm t with
  | nil => exact absurd q (Zli t)
  | cons w ws => exact ⟨w, ws, rfl⟩
theorem Zcf : ∀ {ws : List Str} {ns : List Int}, Zck ws = some ns → ns.length = ws.length
  | [], ns, h => by cases h; rfl
  | w :: ws, ns, h => by
    simp only [Zck] at h
    split at h
    · rename_i n ms e1 e2
      cases h
      simp [Zcf e2]
    · cases h
theorem Zlx : ∀ {ns : List Int}, (∀ n ∈ ns, 0 ≤ n ∧ n < 10 ^ 30) → ((ns.map Zbi).map (·.length)).sum ≤ ns.length * 30
  | [], _ => by simp
  | n :: ns, h => by
    have h1 := Zlx fun m hm => h m (.tail _ hm)
    have h2 := (Zbo (h n (.head _)).1 (h n (.head _)).2).2
    simp only [List.map_cons, List.sum_cons, List.length_cons]
    exact Zz4 h1 h2
end
section
open PySem PySem.W PyProof.Rows
variable {g : Gr} {sc : Scope} {r : Nat} {c : Bool}
noncomputable def Zs5 (f : Addr → Option Bool) (t : TE) : TE := fun ℓ σ Q E => t ℓ σ (fun v σ₁ => ∃ a C b, v = .ref a ∧ σ₁ a = some (.exc C) ∧ f C = some b ∧ Q (.bool b) σ₁) E
theorem Zfn {K : Frag} {f : Addr → Option Bool} {n : String} {cv : Value} {e : Expr} {p p' pos : Pos} {t : TE} (hK : K.In g.b0) (hf : ∀ C b, f C = some b → Zny K C ∧ kitOne K (.ref C) cv = some b) (hm : (Str.ofString "isinstance", NameKind.globalImplicit) ∈ sc.names) (hb : Yr g "isinstance" (.builtin "isinstance")) (hm' : (Str.ofString n, NameKind.globalImplicit) ∈ sc.names) (hb' : Yr g n cv)
    (h1 : Y1 g sc r c e t) (hs : Ze2 e = false) :
    Y1 g sc r c (.Call (.Name (Str.ofString "isinstance") p) [e, .Name (Str.ofString n) p'] [] pos) (Zs5 f t) := .mk fun A env s ℓ σ Q E X h => by
  show wpAny _ A (do callWith pos (← eval (.Name (Str.ofString "isinstance") p) env) [] (backTo pos (starEach [e, .Name (Str.ofString n) p'] env)) (backToKw pos (keywordEach [] env))) _ _ s
  refine wpAny_bind (Yc X hm hb ?_)
  rw [Ym env hs, Ym (es := []) env rfl]
  refine Xe (.inr (.inl ⟨_, rfl⟩)) rfl ?_
  show wpAny _ A (spliced [(false, eval e env), (false, eval (.Name (Str.ofString n) p') env)]) _ _ s
  refine Calls.spliced_cons (wpAny_mono (h1.run A env s ℓ σ _ E X h) (fun v s₁ p => ?_) fun _ _ p => p)
  obtain ⟨x, σ₁, hv, hR, hx, hs1, a, C, b, rfl, ea, hfb, hq⟩ := p
  refine Calls.spliced_cons (Yc (X.step hR hx) hm' hb' (Calls.spliced_nil ⟨fun a o e => hR.base a o e, ?_⟩))
  rw [Z9.mp hv]
  obtain ⟨Z, hk⟩ := hf C b hfb
  exact X7 hx hs1 (Zvu hK Z hR ea hk hq)
theorem Zj0 {t : Tgt} {inv : AH → Prop} {telt : TE} {ℓ : Loc} {Q : List V → AH → Prop} {E : Addr → AH → Prop} (I : List V → List V → AH → Prop) (h0 : ∀ acc σ, I [] acc σ → inv σ ∧ Q acc σ)
    (h1 : ∀ x xs acc σ (K : V → AH → Prop), I (x :: xs) acc σ → (∀ v σ₂, I xs (acc ++ [v]) σ₂ → K v σ₂) → inv σ ∧ Xs t x ℓ.bare σ fun ℓ₁ => telt ℓ₁ σ K E) :
    ∀ (xs acc : List V) (σ : AH), I xs acc σ → Zet t inv (Xo true) telt ℓ xs acc σ Q E
  | [], acc, σ, h => h0 acc σ h
  | x :: xs, acc, σ, h => h1 x xs acc σ _ h fun v σ₂ h2 => Zj0 I h0 h1 xs (acc ++ [v]) σ₂ h2
end
section
open PySem PySem.W PyProof.Rows
section
variable {g : Gr} {sc : Scope} {r : Nat} {c : Bool}
noncomputable def Z2w (g : Gr) (n : String) (r : Nat) (c : Bool) (t : TF) : Prop := ∃ v, Yr g n v ∧ Zqh g v ∧ Zt1 g r c v t
theorem Zen {n : String} {p pos : Pos} {args : List Expr} {ts : TL} {t : TF} (hm : (Str.ofString n, NameKind.globalImplicit) ∈ sc.names) (hf : Z2w g n r c t) (hL : Zkb g sc r c args ts) (hp : Zc0 args) :
    Y1 g sc r c (.Call (.Name (Str.ofString n) p) args [] pos) (Yk ts t) := .mk fun A env s ℓ σ Q E X h => by
  obtain ⟨v, hk, hc, hF⟩ := hf
  show wpAny _ A (do callWith pos (← eval (.Name (Str.ofString n) p) env) [] (backTo pos (starEach args env)) (backToKw pos (keywordEach [] env))) _ _ s
  refine wpAny_bind (Yc X hm hk ?_)
  refine Xe hc (Xc hp pos env) (wpAny_mono (hL.run A env pos s ℓ σ _ E X h) (fun vs s₁ p => ?_) fun _ _ p => p)
  refine Wr.elim p fun xs σ₁ hv hR hx hs hq => ?_
  have X1 := X.step hR hx
  exact ⟨fun a o e => hR.base a o e, X7 hx hs (hF.run A s₁ σ₁ xs vs Q E X.gok X1.fr.frl X1.room hR hv hq)⟩
theorem Zik {n id : String} {t : TF} (h : Yr g n (.type id)) (hF : Zt1 g r c (.type id) t) : Z2w g n r c t := ⟨_, h, .inr (.inr ⟨_, rfl⟩), hF⟩
theorem Zel : Zt1 g r c (.type "int") Zuo := .mk fun A s σ xs vs Q E G Fr Rm R hv h => by
  obtain ⟨b, rfl, h⟩ := h
  obtain ⟨v, _, rfl, ha, hr⟩ := Zi hv
  rw [Zr hr, Y9.mp ha]
  exact call_int_bool (Xl R rfl ⟨rfl, rfl, rfl⟩ (Zx.mpr ⟨_, rfl⟩) h)
end
noncomputable def nrS (σ : AH) : V → Option Bool
  | .int _ => some true
  | .bool _ => some false
  | .none => some false
  | .str _ => some false
  | .tup _ => some false
  | .ref a => (match σ a with | some (.list _) => some false | some (.dictI _ _) => some false | _ => none)
  | .frz _ => none
noncomputable def Zi8 : TF := fun xs σ Q _ => ∃ v b, xs = [v] ∧ nrS σ v = some b ∧ Q (.bool b) σ
noncomputable def okE (n : Int) : V → Bool
  | .int e => decide (0 ≤ e) && decide (e < n)
  | _ => false
theorem Zo2 {n : Int} {v : V} (h : okE n v = true) : ∃ e, v = .int e ∧ (0 ≤ e ∧ e < n) := by
  cases v <;> simp [okE] at h
  exact ⟨_, rfl, h⟩
noncomputable def okC : V → Bool
  | .int n => decide (1 ≤ n) && decide (n ≤ 8)
  | _ => false
theorem Zo3 {v : V} (h : okC v = true) : ∃ e, v = .int e ∧ (1 ≤ e ∧ e ≤ 8) := by
  cases v <;> simp [okC] at h
  exact ⟨_, rfl, h⟩
inductive Zj7 (C CB : Addr) (xs : List V) (σ : AH) (Q : V → AH → Prop) (E : Addr → AH → Prop) : Prop
  | mk (x : Addr) (D : HD) (s : Bool) (v : V) (b : Bool) (h0 : xs = [.ref x, .str (Zdn s), v]) (h1 : Zv σ C x D) (hn : nrS σ v = some b) (hq : okE (Zgn D.a D.b s) v = true → Q .none σ) (he : okE (Zgn D.a D.b s) v = false → E CB σ) : Zj7 C CB xs σ Q E
noncomputable def Zfr (C CB : Addr) : TF := Zj7 C CB
inductive Zs1 (C CB CT : Addr) (xs : List V) (σ : AH) (Q : V → AH → Prop) (E : Addr → AH → Prop) : Prop
  | mk (x : Addr) (D : HD) (u v : V) (m : Nat) (b1 b2 : Bool) (h0 : xs = [.ref x, u, v]) (h1 : Zv σ C x D) (h2 : Zmh D m) (h3 : D.nx < 1000) (h4 : D.T.length ≤ 40) (n1 : nrS σ u = some b1) (n2 : nrS σ v = some b2)
    (he : (okE D.a u && okE D.b v) = false → E CB σ) (ht : (okE D.a u && okE D.b v) = true → D.T.length = 40 → E CT σ)
    (hq : ∀ l r, u = .int l → v = .int r → (0 ≤ l ∧ l < D.a) → (0 ≤ r ∧ r < D.b) → D.T.length < 40 → ∀ σ' D' m' hue other nums c, Zv σ' C x D' → Zmh D' m' → D'.nx = D.nx + 1 → D'.a = D.a → D'.b = D.b → (∀ y o, σ y = some o → ¬ D.foot y → σ' y = some o) → (∀ y, D'.foot y → D.foot y ∨ σ y = none) → (∀ y, σ' y = none → σ y = none) → D'.S.map sk = D.S.map sk ++ [(D.nx, l, r)] → Zas (D.S ++ [⟨D.nx, l, r, none⟩]) D.nx l r m' hue other nums D'.S → σ c = none → ¬ D'.foot c → σ' c = some (.list (nums.map V.int)) → Q (Zmt D.nx hue other c) σ') : Zs1 C CB CT xs σ Q E
noncomputable def Zlv (C CB CT : Addr) : TF := Zs1 C CB CT
inductive Zsy (C CX : Addr) (xs : List V) (σ : AH) (Q : V → AH → Prop) (E : Addr → AH → Prop) : Prop
  | mk (x d : Addr) (u v : V) (b1 b2 : Bool) (h0 : xs = [.ref x, u, v]) (n1 : nrS σ u = some b1) (n2 : nrS σ v = some b2) (h5 : σ x = some (.inst C d)) (h6 : σ d = some (.attrs [])) (he : (okC u && okC v) = false → E CX σ)
    (hq : ∀ a b, u = .int a → v = .int b → (1 ≤ a ∧ a ≤ 8) → (1 ≤ b ∧ b ≤ 8) → ∀ σ' D, Zv σ' C x D → D.T = [] → D.a = a → D.b = b → D.nx = 0 → D.d = d → σ D.rd = none → (∀ y o, σ y = some o → y ≠ d → σ' y = some o) → Q .none σ') : Zsy C CX xs σ Q E
noncomputable def Zls (C CX : Addr) : TF := Zsy C CX
inductive Zhp (C CP : Addr) (xs : List V) (σ : AH) (Q : V → AH → Prop) (E : Addr → AH → Prop) : Prop
  | mk (x : Addr) (D : HD) (v : V) (b : Bool) (h0 : xs = [.ref x, v]) (h1 : Zv σ C x D) (hn : nrS σ v = some b) (hq : ∀ t ∈ D.T, v = .int t.1.n → Q .none σ) (he : (∀ t ∈ D.T, v ≠ .int t.1.n) → E CP σ) : Zhp C CP xs σ Q E
noncomputable def Zeo (C CP : Addr) : TF := Zhp C CP
inductive Zqb (C CP : Addr) (xs : List V) (σ : AH) (E : Addr → AH → Prop) : Prop
  | mk (x : Addr) (D : HD) (v : V) (b : Bool) (h0 : xs = [.ref x, v]) (h1 : Zv σ C x D) (hn : nrS σ v = some b) (hv : ∀ t ∈ D.T, v ≠ .int t.1.n) (he : E CP σ) : Zqb C CP xs σ E
end
section
open PySem PySem.W PyProof.Rows
variable {g : Gr} {sc : Scope} {r : Nat} {c : Bool}
noncomputable def Zul : TF := fun xs σ Q _ => ∃ i j : Int, xs = [.int i, .int j] ∧ Q (.int (if i < j then j else i)) σ
theorem Zoh : Zdb g r (.builtin "max") Zul := .mk fun A s σ xs vs Q E G F Rm R hv h => by
  obtain ⟨i, j, rfl, h⟩ := h
  obtain ⟨v, _, rfl, h1, hr⟩ := Zi hv
  obtain ⟨u, _, rfl, h2, hr⟩ := Zi hr; clear hr
  rw [Zr hr]
  obtain ⟨t, rfl⟩ := Zx.mp h1
  obtain ⟨t', rfl⟩ := Zx.mp h2
  refine max_two_ints (Rm.calm rfl) fun h' tk kp => .keeps kp ⟨rfl, rfl, rfl⟩ ?_ R h
  by_cases q : i < j
  · rw [if_pos q, if_pos (show j > i from q)]; exact Zx.mpr ⟨_, rfl⟩
  · rw [if_neg q, if_neg (show ¬ j > i from q)]; exact Zx.mpr ⟨_, rfl⟩
end
section
open PySem PySem.W PyProof.Rows
variable {g : Gr} {sc : Scope} {r : Nat} {c : Bool}
noncomputable def Zqq : V → Option Str
  | .int n => if 0 ≤ n ∧ n < 10 ^ 30 then some (Zbi n) else none
  | .str x => some x
  | _ => none
noncomputable def Zmu : TF := fun xs σ Q _ => ∃ v x, xs = [v] ∧ Zqq v = some x ∧ Q (.str x) σ
theorem Zbw : Zdb g r (.type "str") Zmu := .mk fun A s σ xs vs Q E G F Rm R hv h => by
  obtain ⟨v, x, rfl, hx, h⟩ := h
  obtain ⟨u, _, rfl, hu, hr⟩ := Zi hv
  rw [Zr hr]
  cases v with
  | int n =>
    simp only [Zqq] at hx
    split at hx
    · rename_i p
      cases hx
      obtain ⟨t, rfl⟩ := Zx.mp hu
      exact P.str_of_int (Znk p.1 p.2) (Xl R rfl ⟨rfl, rfl, rfl⟩ (Z8.mpr ⟨Nat.le_trans (Zbo p.1 p.2).2 (by decide), _, rfl⟩) h)
    · cases hx
  | str y =>
    cases hx
    obtain ⟨hf, t, rfl⟩ := Z8.mp hu
    exact P.str_of_str (.here hu R h)
  | _ => cases hx
noncomputable def Zuk : TF := fun xs σ Q _ => ∃ i j : Int, xs = [.int i, .int j] ∧ Q (.int (if j < i then j else i)) σ
theorem Zog : Zdb g r (.builtin "min") Zuk := .mk fun A s σ xs vs Q E G F Rm R hv h => by
  obtain ⟨i, j, rfl, h⟩ := h
  obtain ⟨v, _, rfl, h1, hr⟩ := Zi hv
  obtain ⟨u, _, rfl, h2, hr⟩ := Zi hr; clear hr
  rw [Zr hr]
  obtain ⟨t, rfl⟩ := Zx.mp h1
  obtain ⟨t', rfl⟩ := Zx.mp h2
  refine min_two_ints (Rm.calm rfl) fun h' tk kp => .keeps kp ⟨rfl, rfl, rfl⟩ ?_ R h
  by_cases q : j < i
  · rw [if_pos q, if_pos q]; exact Zx.mpr ⟨_, rfl⟩
  · rw [if_neg q, if_neg q]; exact Zx.mpr ⟨_, rfl⟩
inductive Znt (g : Gr) (sc : Scope) (r : Nat) (tst : Addr → Addr → Option Bool) : List ExceptHandler → (Addr → TS) → Prop
  | nil : Znt g sc r tst [] (fun _ _ _ _ _ => False)
  | cons {n : String} {T : Addr} {np hpos : Pos} {b₀ : Stmt} {suite : List Stmt} {th : TS} {hs : List ExceptHandler} {t : Addr → TS} (hm : (Str.ofString n, NameKind.globalImplicit) ∈ sc.names) (hn : Yr g n (.ref T)) (hs' : Zdw g sc r false (b₀ :: suite) th) (rest : Znt g sc r tst hs t) :
      Znt g sc r tst (.ExceptHandler (some (.Name (Str.ofString n) np)) none (b₀ :: suite) hpos :: hs) (fun C ℓ σ Q E => match tst C T with | some true => th ℓ σ Q E | some false => t C ℓ σ Q E | none => False)
noncomputable def Zuj (tb : TS) (t : Addr → TS) : TS := fun ℓ σ Q E => tb ℓ σ Q fun C ℓ' σ' => t C ℓ' σ' Q fun _ _ _ => False
theorem Znt.ok {K : W.Frag} {tst : Addr → Addr → Option Bool} {hs : List ExceptHandler} {t : Addr → TS} (H : Znt g sc r tst hs t) (hK : K.In g.b0) (hT : ∀ C T b, tst C T = some b → W.exmOne K (.ref C) (.ref T) = some b)
    {A : Around} {env : Env} {s s₃ : Shared} {σ σ' : AH} {ℓ ℓ' : Loc} {Q : Fl → Loc → AH → Prop} {E : Addr → Loc → AH → Prop} {C a : Addr} (X : Cx g sc r c A env s.heap σ ℓ) (x3 : XAt g true s.heap s₃.heap (.ref a) C σ') (L3 : LR g s₃.heap σ' env ℓ') (R3 : Rel g s₃.heap σ') (e3 : Ext (Own env) s.heap σ s₃.heap σ') (hsm : Wv s s₃) (h : t C ℓ' σ' Q fun _ _ _ => False) :
    wpAny (model g.prog g.w) A (handleBy (.ref a) env hs) (Zcz g env s σ Q) (Zar g A env s σ E) s₃ := by
  induction H with
  | nil => exact h.elim
  | @cons n T np hpos b₀ suite th hs t hm hn hs' rest ih =>
    obtain ⟨a', o, vs, ea, x0, xb, xs, xo, xc, xn, xd, xz, xt⟩ := id x3
    cases ea
    have X3 : Cx g sc r false (A.mark (some (.ref a))) env s₃.heap σ' ℓ' := ⟨X.gok, X.ok, L3, X.fr.step e3 (X.loc.dicts L3), X.room.marked, R3⟩
    refine wpAny_handleBy_cons (codeAny_handlers_test (Yc X3 hm hn ?_)) (by intro q; cases q)
    have LT : W.Looks (model g.prog g.w) s₃.heap (typeOf (.ref a)) (.ref C) := xc ▸ (W.Looks.ld xo).andThen .now
    split at h
    · rename_i hb
      refine (W.exm_one (hK.keeps fun b o e => R3.base b o e) LT (hT _ _ _ hb)).here ?_
      refine codeAny_handlers_suite (Zbb x3 fun s₄ t4 x4 hs4 => ?_)
      have e4 := t4.ext e3
      have L4 := t4.loc L3
      have X4 : Cx g sc r false (A.mark (some (.ref a))) env s₄.heap σ' ℓ' := ⟨X.gok, X.ok, L4, X.fr.step e4 (X.loc.dicts L4), X.room.marked, t4.rel R3⟩
      refine wpAny_mono (hs'.run (A.mark (some (.ref a))) env s₄ ℓ' σ' Q _ X4 h) (fun f s₅ p => p.back e4 (hsm.trans hs4)) fun _ _ p => ?_
      obtain ⟨_, _, _, _, _, _, _, _, z⟩ := p
      exact z.elim
    · rename_i hb
      refine (W.exm_one (hK.keeps fun b o e => R3.base b o e) LT (hT _ _ _ hb)).here ?_
      exact ih h
    · exact h.elim
theorem Zoc {K : W.Frag} {tst : Addr → Addr → Option Bool} {body : List Stmt} {h₀ : ExceptHandler} {hs : List ExceptHandler} {pos : Pos} {tb : TS} {t : Addr → TS} (hK : K.In g.b0) (hT : ∀ C T b, tst C T = some b → W.exmOne K (.ref C) (.ref T) = some b) (hb : Zdw g sc r c body tb) (H : Znt g sc r tst (h₀ :: hs) t) :
    Zlc g sc r c (.Try body (h₀ :: hs) [] [] pos) (Zuj tb t) := .mk fun A env s ℓ σ Q E X h => by
  refine wpAny_Try_except (wpAny_mono (hb.run A env s ℓ σ Q _ X h) (fun f s₁ p => ?_) fun e s₁ p => ?_)
  · cases f with
    | next => exact wpAny_execs_nil p
    | _ => exact p
  · obtain ⟨C, ℓ', σ', hX, hL, hR, hx, hsm, hth⟩ := p
    refine Zfu (X.fr.step hx (X.loc.dicts hL)) hR hx.pres hX fun s₂ t2 x2 hs2 => Zbb x2 fun s₃ t3 x3 hs3 => ?_
    obtain ⟨a, o, vs, rfl, _⟩ := id x3
    exact H.ok hK hT X x3 (t3.loc (t2.loc hL)) (t3.rel (t2.rel hR)) (t3.ext (t2.ext hx)) ((hsm.trans hs2).trans hs3) hth
end
section
open PySem PySem.W PyProof.Rows
theorem Zas.detF {S0 S1 S2 : List Rw} {k l r : Int} {m : Nat} {hue hue' : Int} {other other' : Option Int} {nums nums' : List Int} (hp : Yq S0) (hi : Inc S0)
    (x : Zas S0 k l r m hue other nums S1) (y : Zas S0 k l r m hue' other' nums' S2) : S1 = S2 ∧ hue = hue' ∧ other = other' ∧ nums = nums' := by
  rcases x with ⟨rfl, rfl, x3, x4, rfl, x6⟩ | ⟨x0, o, s, ch, rfl, rfl, x3, x4, x5, x6, rfl, x8⟩ <;> rcases y with ⟨rfl, rfl, y3, y4, rfl, y6⟩ | ⟨y0, o', s', ch', rfl, rfl, y3, y4, y5, y6, rfl, y8⟩
  · rw [x6] at y6; cases y6; exact ⟨rfl, rfl, rfl, rfl⟩
  · exact absurd x4 (y0 _ x3)
  · exact absurd y4 (x0 _ y3)
  · have e := Zti (x8 s' hue' o' ch' y3 y4 y5 y6) (y8 s hue o ch x3 x4 x5 x6)
    simp only [Prod.mk.injEq] at e
    obtain ⟨_, rfl, rfl⟩ := e
    have hs : s = s' := by
      cases s <;> cases s' <;> first | rfl | exact absurd x3 (x0 _ y3) | exact absurd y3 (x0 _ x3)
    subst hs
    rw [Zb3.unique hp hi x5 x6 y5 y6]
    exact ⟨rfl, rfl, rfl, rfl⟩
theorem Zas.tag {S S' : List Rw} {k l r : Int} {m : Nat} {hue : Int} {other : Option Int} {nums : List Int} (h : Zas (S.map (Wk k none)) k l r m hue other nums S') (hp : Yq S) (hi : Inc S) {t : Rw} (ht : t ∈ S) (hk : t.n = k) (hl : t.l = l) (hr : t.r = r) :
    ∀ y ∈ S', y.n ≠ k → ∃ y0 ∈ S, y0.n = y.n ∧ (y.h == some (m : Int)) = (y0.h == some (m : Int)) := by
  have hp1 : Yq (S.map (Wk k none)) := Y7 hp
  have hi1 : Inc (S.map (Wk k none)) := Za9 (fun _ => Xv) hi
  rcases h with ⟨_, _, h1, h2, rfl, _⟩ | ⟨hd, o, s, ch, _, rfl, h1, h2, hP, hD, rfl, _⟩
  · intro y hy hyk
    obtain ⟨y1, hy1, rfl⟩ := List.mem_map.1 hy
    obtain ⟨y0, hy0, rfl⟩ := List.mem_map.1 hy1
    rw [Xv, Xv] at hyk
    rw [Yv (x := y0) hyk, Yv hyk]
    exact ⟨y0, hy0, rfl, rfl⟩
  · have m1 := Xw.1 h1
    have m2 := Xw.1 h2
    have he : ∀ b, (Wk k none t).e b = Zdd l r b := fun b => by rw [Zg8]; cases b <;> simp [Rw.e, Zdd, hl, hr]
    have W : Way (S.map (Wk k none)) k m hue o ch := ⟨⟨s, Wk k none t, List.mem_map.2 ⟨t, ht, rfl⟩, by rw [Xv, hk], Wb hk, by rw [he]; exact hP, by rw [he]; exact hD, by rw [he]; exact m2.2, by rw [he]; exact m1.2⟩, Zic hd h1 h2, m1.1, m2.1⟩
    intro y hy hyk
    obtain ⟨y1, hy1, rfl⟩ := List.mem_map.1 hy
    obtain ⟨y2, hy2, rfl⟩ := List.mem_map.1 hy1
    obtain ⟨y0, hy0, rfl⟩ := List.mem_map.1 hy2
    rw [Xv, Zba, Xv] at hyk
    rw [Yv (x := y0) hyk, Yv (by rw [Zba]; exact hyk)]
    refine ⟨y0, hy0, by rw [Zba], ?_⟩
    by_cases w : y0.n ∈ ch.map Rw.n
    · obtain ⟨x, hx, e⟩ := List.mem_map.1 w
      have hxS := (W.nodup hp1 hi1).2.1 x hx
      have hy0' : y0 ∈ S.map (Wk k none) := List.mem_map.2 ⟨y0, hy0, Yv hyk⟩
      have := hi1.inj hxS hy0' e
      subst this
      have key : ∀ a : Int, 0 ≤ a ∧ a < m → (some a == some (m : Int)) = false := fun a ha => by
        rw [beq_eq_false_iff_ne]; intro q; have := Option.some.inj q; exact Zz3 ha this
      unfold Zal
      rw [if_pos w]
      rcases W.chainHue hx with q | q
      · simp only [q, Option.map_some]
        rw [key _ m1.1, key _ (by have := m2.1; omega)]
      · simp only [q, Option.map_some]
        rw [key _ m2.1, key _ (by have := m1.1; omega)]
    · rw [Xm w]
inductive Zwh (C : Addr) (xs : List V) (σ : AH) (Q : V → AH → Prop) : Prop
  | mk (x : Addr) (D : HD) (m : Nat) (t : Rw × Addr) (h0 : xs = [.ref x, .int t.1.n]) (h1 : t ∈ D.T) (h2 : Zv σ C x D) (h3 : Zmh D m) (h4 : D.T.length < 64) (h5 : ∀ σ' D' m' b log, Zv σ' C x D' → Zmh D' m' → Frm σ σ' D D' → D'.S.map sk = (drp t.1.n D.S).map sk → Zao (drp t.1.n D.S) D.a D.b m' → Zeg m' (drp t.1.n D.S) log D'.S → log.map Zb6.k = ((drp t.1.n D.S).filter fun x => x.h == some (m' : Int)).map Rw.n → σ b = none → ¬ D'.foot b → σ' b = some (.list (log.map Zb6.v)) → (∀ e ∈ log, σ' e.c = some (.list (e.nums.map V.int)) ∧ σ e.c = none ∧ ¬ D'.foot e.c) → Q (.ref b) σ') : Zwh C xs σ Q
noncomputable def Zq0 (C CP : Addr) : TF := fun xs σ Q E => Zwh C xs σ Q ∨ Zqb C CP xs σ E
end
section
open PySem PySem.W PyProof.Rows
theorem Zeg.kept {m : Nat} {S S' : List Rw} {log : List Zb6} (h : Zeg m S log S') (hp : Yq S) (hi : Inc S) : Yq S' ∧ Inc S' := by
  induction h with
  | nil => exact ⟨hp, hi⟩
  | @snoc S1 S2 log e t h1 ht hk hm hH ih =>
    obtain ⟨p1, i1⟩ := ih
    have := hH.hued (Y7 p1) (Za9 (fun _ => Xv) i1) (x := Wk e.k none t) (List.mem_map.2 ⟨t, ht, rfl⟩) (by rw [Xv]; exact hk) (Wb hk) (by unfold Wk; split <;> rfl) (by unfold Wk; split <;> rfl)
    exact ⟨this.proper, this.inc⟩
noncomputable def Zb6.d (e : Zb6) : Int × Int × Option Int × List Int := (e.k, e.hue, e.other, e.nums)
theorem Zeg.det {m : Nat} {S S1 : List Rw} {log : List Zb6} (h : Zeg m S log S1) (hp : Yq S) (hi : Inc S) : ∀ {S2 : List Rw} {log' : List Zb6}, Zeg m S log' S2 → log.map Zb6.k = log'.map Zb6.k → S1 = S2 ∧ log.map Zb6.d = log'.map Zb6.d := by
  induction h with
  | nil =>
    intro S2 log' h2 e
    cases h2 with
    | nil => exact ⟨rfl, rfl⟩
    | snoc _ _ _ _ _ => simp at e
  | @snoc T1 T2 log e t h1 ht hk hm hH ih =>
    intro S2 log' h2 ek
    cases h2 with
    | nil => simp at ek
    | @snoc U1 U2 log2 e2 t2 g1 gt gk gm gH =>
      rw [List.map_append, List.map_append] at ek
      obtain ⟨ek1, ek2⟩ := List.append_inj' ek rfl
      have ek2 : e.k = e2.k := (List.cons.inj ek2).1
      obtain ⟨rfl, ed⟩ := ih g1 ek1
      obtain ⟨p1, i1⟩ := h1.kept hp hi
      have : t = t2 := i1.inj ht gt (by rw [hk, gk, ek2])
      subst this
      rw [← ek2] at gH
      obtain ⟨rfl, q1, q2, q3⟩ := hH.detF (Y7 p1) (Za9 (fun _ => Xv) i1) gH
      refine ⟨rfl, ?_⟩
      rw [List.map_append, List.map_append, ed]
      simp [Zb6.d, ek2, q1, q2, q3]
noncomputable def Zhv (k hue : Int) (other : Option Int) (nums : List Int) : Str := Xg (Zbi k) (hue :: (match other with | some o => o :: nums | none => nums))
noncomputable def Zb6.t (e : Zb6) : Str := Zhv e.k e.hue e.other e.nums
noncomputable def Ziq : Str := Str.ofString "bad line"
noncomputable def Zk9 : Str := Str.ofString "bad end"
noncomputable def Zhu : Str := Str.ofString "too many"
noncomputable def Zkn : Str := Str.ofString "no pair"
noncomputable def inB (a b l r : Int) : Bool := decide (0 ≤ l ∧ l < a) && decide (0 ≤ r ∧ r < b)
inductive Zlh (a b : Int) (S : List Rw) (nx l r : Int) : List Str → List Rw → Int → Prop
  | badEnd (h : inB a b l r = false) : Zlh a b S nx l r [Zk9] S nx
  | many (h : inB a b l r = true) (hl : S.length = 40) : Zlh a b S nx l r [Zhu] S nx
  | come (m : Nat) (hue : Int) (other : Option Int) (nums : List Int) (S' : List Rw) (h : inB a b l r = true) (hl : S.length < 40) (hH : Zas (S ++ [⟨nx, l, r, none⟩]) nx l r m hue other nums S') (hg : Zex S' a b m) (hs : S'.map sk = S.map sk ++ [(nx, l, r)]) (hA : Zei (Zhv nx hue other nums)) :
      Zlh a b S nx l r [Zhv nx hue other nums] S' (nx + 1)
inductive GoA (a b : Int) (S : List Rw) (n : Int) : List Str → List Rw → Prop
  | noPair (h : ∀ x ∈ S, x.n ≠ n) : GoA a b S n [Zkn] S
  | go (m m' : Nat) (log : List Zb6) (S' : List Rw) (h : ∃ x ∈ S, x.n = n) (hc : Zao (drp n S) a b m) (hl : Zeg m (drp n S) log S') (hk : log.map Zb6.k = ((drp n S).filter fun x => x.h == some (m : Int)).map Rw.n) (hg : Zex S' a b m') (hs : S'.map sk = (drp n S).map sk) (hA : ∀ e ∈ log, Zei e.t) :
      GoA a b S n (log.map Zb6.t) S'
inductive Ans (a b : Int) (S : List Rw) (nx : Int) : Option (Str × List Int) → List Str → List Rw → Int → Prop
  | bad : Ans a b S nx none [Ziq] S nx
  | ofC (l r : Int) (o : List Str) (S' : List Rw) (n' : Int) (h : Zlh a b S nx l r o S' n') : Ans a b S nx (some (Xb, [l, r])) o S' n'
  | ofG (n : Int) (o : List Str) (S' : List Rw) (h : GoA a b S n o S') : Ans a b S nx (some (Ze4, [n])) o S' nx
theorem Ans.badEnd {a b : Int} {S : List Rw} {nx : Int} (l r : Int) (h : inB a b l r = false) : Ans a b S nx (some (Xb, [l, r])) [Zk9] S nx := .ofC _ _ _ _ _ (.badEnd h)
theorem Ans.many {a b : Int} {S : List Rw} {nx : Int} (l r : Int) (h : inB a b l r = true) (hl : S.length = 40) : Ans a b S nx (some (Xb, [l, r])) [Zhu] S nx := .ofC _ _ _ _ _ (.many h hl)
theorem Ans.noPair {a b : Int} {S : List Rw} {nx : Int} (n : Int) (h : ∀ x ∈ S, x.n ≠ n) : Ans a b S nx (some (Ze4, [n])) [Zkn] S nx := .ofG _ _ _ (.noPair h)
theorem Ans.asc {a b : Int} {S S' : List Rw} {nx nx' : Int} {d : Option (Str × List Int)} {o : List Str} (h : Ans a b S nx d o S' nx') : ∀ s ∈ o, Zei s := by
  have one : ∀ {x : Str}, Zei x → ∀ s ∈ [x], Zei s := fun h s hs => by rw [List.mem_singleton.1 hs]; exact h
  cases h with
  | bad => exact one (Zab.2 (by decide +kernel))
  | ofC l r o S' n' h =>
    cases h with
    | badEnd => exact one (Zab.2 (by decide +kernel))
    | many => exact one (Zab.2 (by decide +kernel))
    | come m hue other nums S' h hl hH hg hs hA => exact one hA
  | ofG n o S' h =>
    cases h with
    | noPair => exact one (Zab.2 (by decide +kernel))
    | go m m' log S' h hc hl hk hg hs hA =>
      intro s hs
      obtain ⟨e, he, rfl⟩ := List.mem_map.1 hs
      exact hA e he
theorem Znm : Xb ≠ Ze4 := by decide +kernel
theorem Zth {log log' : List Zb6} (h : log.map Zb6.d = log'.map Zb6.d) : log.map Zb6.t = log'.map Zb6.t := by
  have : ∀ l : List Zb6, l.map Zb6.t = (l.map Zb6.d).map fun d => Zhv d.1 d.2.1 d.2.2.1 d.2.2.2 := fun l => by rw [List.map_map]; rfl
  rw [this, this, h]
theorem Zlh.det {a b : Int} {S S1 S2 : List Rw} {nx l r n1 n2 : Int} {m0 : Nat} {o1 o2 : List Str} (G : Zex S a b m0) (hb : ∀ y ∈ S, y.n < nx) (x : Zlh a b S nx l r o1 S1 n1) (y : Zlh a b S nx l r o2 S2 n2) : o1 = o2 ∧ S1 = S2 ∧ n1 = n2 := by
  cases x with
  | badEnd h =>
    cases y with
    | badEnd h' => exact ⟨rfl, rfl, rfl⟩
    | many h' => exact Bool.noConfusion (h.symm.trans h')
    | come m hue other nums S' h' => exact Bool.noConfusion (h.symm.trans h')
  | many h hl =>
    cases y with
    | badEnd h' => exact Bool.noConfusion (h.symm.trans h')
    | many h' => exact ⟨rfl, rfl, rfl⟩
    | come m hue other nums S' h' hl' => exact absurd hl (Nat.ne_of_lt hl')
  | come m hue other nums S' h hl hH hg hs =>
    cases y with
    | badEnd h' => exact Bool.noConfusion (h.symm.trans h')
    | many h' hl' => exact absurd hl' (Nat.ne_of_lt hl)
    | come m' hue' other' nums' S'' h' hl' hH' hg' hs' =>
      obtain rfl : m = m' := (Zv7 (hs.trans hs'.symm) hg'.cnt).uniq hg.cnt |>.symm
      obtain ⟨hinc, hprop⟩ := G.comeInc (x := ⟨nx, l, r, none⟩) hb rfl
      obtain ⟨rfl, rfl, rfl, rfl⟩ := hH.detF hprop hinc hH'
      exact ⟨rfl, rfl, rfl⟩
theorem GoA.det {a b : Int} {S S1 S2 : List Rw} {n : Int} {m0 : Nat} {o1 o2 : List Str} (G : Zex S a b m0) (x : GoA a b S n o1 S1) (y : GoA a b S n o2 S2) : o1 = o2 ∧ S1 = S2 := by
  cases x with
  | noPair h =>
    cases y with
    | noPair h' => exact ⟨rfl, rfl⟩
    | go m m' log S' h' => exact h'.elim fun x q => absurd q.2 (h x q.1)
  | go m m1 log S' h hc hl hk hg hs =>
    cases y with
    | noPair h' => exact h.elim fun x q => absurd q.2 (h' x q.1)
    | go m' m1' log' S'' h' hc' hl' hk' hg' hs' =>
      obtain rfl : m = m' := hc.uniq hc'
      obtain ⟨rfl, q⟩ := hl.det (G.proper.filter _) (G.inc.filter _) hl' (hk.trans hk'.symm)
      exact ⟨Zth q, rfl⟩
theorem Zpv {l : List Int} {l' : List Int} (e : some (Xb, l) = some (Ze4, l')) : False := Znm (congrArg Prod.fst (Option.some.inj e))
theorem Zpf {k : Str} {l l' : List Int} (e : some (k, l) = some (k, l')) : l = l' := congrArg Prod.snd (Option.some.inj e)
theorem Ans.det {a b : Int} {S S1 S2 : List Rw} {nx n1 n2 : Int} {m0 : Nat} {d : Option (Str × List Int)} {o1 o2 : List Str} (G : Zex S a b m0) (hb : ∀ y ∈ S, y.n < nx) (x : Ans a b S nx d o1 S1 n1) (y : Ans a b S nx d o2 S2 n2) : o1 = o2 ∧ S1 = S2 ∧ n1 = n2 := by
  generalize e : d = d' at y
  cases x with
  | bad =>
    cases y with
    | bad => exact ⟨rfl, rfl, rfl⟩
    | ofC => exact absurd e.symm (Option.some_ne_none _)
    | ofG => exact absurd e.symm (Option.some_ne_none _)
  | ofC l r o S' n' h =>
    cases y with
    | bad => exact absurd e (Option.some_ne_none _)
    | ofC l' r' o' S'' n'' h' =>
      have q := Zpf e
      obtain rfl : l = l' := List.head_eq_of_cons_eq q
      obtain rfl : r = r' := List.head_eq_of_cons_eq (List.tail_eq_of_cons_eq q)
      exact h.det G hb h'
    | ofG => exact (Zpv e).elim
  | ofG n o S' h =>
    cases y with
    | bad => exact absurd e (Option.some_ne_none _)
    | ofC => exact (Zpv e.symm).elim
    | ofG n' o' S'' h' =>
      obtain rfl : n = n' := List.head_eq_of_cons_eq (Zpf e)
      exact ⟨(h.det G h').1, (h.det G h').2, rfl⟩
inductive Zde (a b : Int) : List Str → List (List Str) → List Rw → Int → Prop
  | nil : Zde a b [] [] [] 0
  | snoc {ts : List Str} {os : List (List Str)} {S S' : List Rw} {nx nx' : Int} {t : Str} {o : List Str} : Zde a b ts os S nx → Ans a b S nx (due? t) o S' nx' → Zde a b (ts ++ [t]) (os ++ [o]) S' nx'
end
section
open PySem PySem.W PyProof.Rows
noncomputable def Zfs (other : Option Int) (nums : List Int) : List Int := match other with | some o => o :: nums | none => nums
theorem Zek (k hue : Int) (other : Option Int) (nums : List Int) : Zhv k hue other nums = Xg (Zbi k) (hue :: Zfs other nums) := by cases other <;> rfl
structure Znr (k hue : Int) (other : Option Int) (nums : List Int) : Prop where
  no : other = none → nums = []
  le : ∀ n ∈ k :: hue :: Zfs other nums, 0 ≤ n ∧ n ≤ 1000
  len : nums.length ≤ 1000
noncomputable def Zqd (S : List Rw) : Prop := ∀ x ∈ S, 0 ≤ x.n ∧ x.n ≤ 1000
theorem Zid {S T : List Rw} (h : S.map sk = T.map sk) (n : Zqd T) : Zqd S := fun x hx => by
  have : x.n ∈ T.map Rw.n := by rw [← Zon h]; exact List.mem_map.2 ⟨x, hx, rfl⟩
  obtain ⟨y, hy, e⟩ := List.mem_map.1 this
  rw [← e]; exact n y hy
theorem Zas.small {S0 S' : List Rw} {k l r : Int} {m : Nat} {hue : Int} {other : Option Int} {nums : List Int} (h : Zas S0 k l r m hue other nums S') (hp : Yq S0) (hi : Inc S0) (hn : Zqd S0) (hk : 0 ≤ k ∧ k ≤ 1000) (hm : m ≤ 1000) (hl : S0.length ≤ 1000) : Znr k hue other nums := by
  have hh : ∀ {s e x}, x ∈ Yi S0 s e m → 0 ≤ x ∧ x ≤ 1000 := fun q => by have := (Xw.1 q).1; exact Zz2 hm this
  rcases h with ⟨rfl, rfl, h3, h4, _, _⟩ | ⟨hd, o, s, ch, rfl, rfl, h1, h2, hP, hD, _, _⟩
  · exact ⟨fun _ => rfl, fun n hn => by
      rcases List.mem_cons.1 hn with rfl | hn
      · exact hk
      · rw [List.mem_singleton.1 hn]; exact hh h3, Nat.zero_le _⟩
  · have hne := Zic hd h1 h2
    have hf := (Xw.1 h2).2
    refine ⟨nofun, fun n hn' => ?_, ?_⟩
    · rcases List.mem_cons.1 hn' with rfl | hn'
      · exact hk
      rcases List.mem_cons.1 hn' with rfl | hn'
      · exact hh h1
      rcases List.mem_cons.1 hn' with rfl | hn'
      · exact hh h2
      · obtain ⟨x, hx, rfl⟩ := List.mem_map.1 hn'
        exact hn x (hP.mem x hx)
    · rw [List.length_map]; exact Nat.le_trans (hP.len hp hi hne hf) hl
theorem Zeg.small {m : Nat} {S S' : List Rw} {log : List Zb6} (h : Zeg m S log S') (hp : Yq S) (hi : Inc S) (hn : Zqd S) (hm : m ≤ 1000) (hl : S.length ≤ 1000) : (∀ e ∈ log, Znr e.k e.hue e.other e.nums) ∧ S'.map sk = S.map sk := by
  induction h with
  | nil => exact ⟨fun _ h => absurd h List.not_mem_nil, rfl⟩
  | @snoc S1 S2 log e t h1 ht hk hh hH ih =>
    obtain ⟨i1, i2⟩ := ih
    obtain ⟨p1, q1⟩ := h1.kept hp hi
    have hp1 := Y7 (k := e.k) p1
    have hi1 : Inc (S1.map (Wk e.k none)) := Za9 (fun _ => Xv) q1
    have hsk : (S1.map (Wk e.k none)).map sk = S1.map sk := Zg2 fun _ => Zfp
    have n1 : Zqd S1 := Zid i2 hn
    have hlen : (S1.map (Wk e.k none)).length ≤ 1000 := by rw [List.length_map]; have := congrArg List.length i2; simp only [List.length_map] at this; exact Zz1 hl this
    have hu := hH.hued hp1 hi1 (x := Wk e.k none t) (List.mem_map.2 ⟨t, ht, rfl⟩) (by rw [Xv]; exact hk) (Wb hk) (by unfold Wk; split <;> rfl) (by unfold Wk; split <;> rfl)
    refine ⟨fun e' he' => ?_, hu.sk.trans (hsk.trans i2)⟩
    rcases List.mem_append.1 he' with w | w
    · exact i1 e' w
    · rw [List.mem_singleton.1 w]
      exact hH.small hp1 hi1 (Zid hsk n1) (by have := n1 t ht; rw [hk] at this; exact this) hm hlen
theorem Zps {t k : Str} {ns : List Int} (h : due? t = some (k, ns)) : (∃ l r, k = Xb ∧ ns = [l, r]) ∨ ∃ n, k = Ze4 ∧ ns = [n] := by
  unfold due? at h
  split at h
  · cases h
  · rename_i w ws e
    split at h
    · rename_i hs
      cases hn : Zck ws with
      | none => rw [hn] at h; cases h
      | some ms =>
        rw [hn] at h
        cases h
        have hl := Zcf hn
        unfold sizeOf? at hs
        split at hs
        · rename_i hw
          have : ns.length = 2 := by have := Option.some.inj hs; exact Zz0 hl this
          match ns, this with
          | [l, r], _ => exact .inl ⟨l, r, hw, rfl⟩
        · split at hs
          · rename_i hw
            have : ns.length = 1 := by have := Option.some.inj hs; exact Zzz hl this
            match ns, this with
            | [n], _ => exact .inr ⟨n, hw, rfl⟩
          · cases hs
    · cases h
theorem Zl6 (a b l r : Int) : inB a b l r = (okE a (.int l) && okE b (.int r)) := by simp [inB, okE, Bool.decide_and]
theorem Zo4 {S : List Rw} (h : Zqd S) {x : Rw} (hx : 0 ≤ x.n ∧ x.n ≤ 1000) : Zqd (S ++ [x]) := fun y hy => by
  rcases List.mem_append.1 hy with w | w
  · exact h y w
  · rw [List.mem_singleton.1 w]; exact hx
inductive Zho (xs : List V) (σ : AH) (Q : V → AH → Prop) : Prop
  | mk (k hue : Int) (other : Option Int) (nums : List Int) (c : Addr) (h0 : xs = [Zmt k hue other c]) (hc : σ c = some (.list (nums.map V.int))) (hs : Znr k hue other nums) (hq : Q (.str (Zhv k hue other nums)) σ) : Zho xs σ Q
noncomputable def Zby : TF := fun xs σ Q _ => Zho xs σ Q
structure Zch (σ : AH) (C x : Addr) (D : HD) (a b : Int) (S : List Rw) (nx : Int) : Prop where
  hall : Zv σ C x D
  well : ∃ m, Zmh D m
  few : D.T.length ≤ 40
  nums : Zqd D.S
  ea : D.a = a
  eb : D.b = b
  eS : D.S = S
  en : D.nx = nx
inductive Zit (C x : Addr) (σ : AH) (D : HD) (a b : Int) (S : List Rw) (nx : Int) (d : Option (Str × List Int)) (σ' : AH) (ob : Addr) : Prop
  | mk (D' : HD) (os : List Str) (S' : List Rw) (nx' : Int) (hA : Ans a b S nx d os S' nx') (hP : Zch σ' C x D' a b S' nx') (hF : ∀ y o, σ y = some o → ¬ D.foot y → σ' y = some o) (hN : ∀ y, D'.foot y → D.foot y ∨ σ y = none) (o0 : σ ob = none) (of : ¬ D'.foot ob) (ho : σ' ob = some (.list (os.map V.str))) : Zit C x σ D a b S nx d σ' ob
inductive Znu (CB CT CP CL : Addr) : Addr → Str → Prop
  | line : Znu CB CT CP CL CL Ziq
  | end_ : Znu CB CT CP CL CB Zk9
  | many : Znu CB CT CP CL CT Zhu
  | pair : Znu CB CT CP CL CP Zkn
inductive Zs0 (C CB CT CP CL : Addr) (xs : List V) (σ : AH) (Q : V → AH → Prop) (E : Addr → AH → Prop) : Prop
  | mk (x : Addr) (D : HD) (a b : Int) (S : List Rw) (nx : Int) (t : Str) (h0 : xs = [.ref x, .str t]) (hP : Zch σ C x D a b S nx) (hlow : nx < 900) (ha : Zei t) (hl : t.length ≤ 1000)
    (hq : ∀ σ' ob, Zit C x σ D a b S nx (due? t) σ' ob → Q (.ref ob) σ') (he : ∀ X o, Znu CB CT CP CL X o → Ans a b S nx (due? t) [o] S nx → E X σ) : Zs0 C CB CT CP CL xs σ Q E
noncomputable def Zou (C CB CT CP CL : Addr) : TF := Zs0 C CB CT CP CL
inductive Zml (C : Addr) (xs : List V) (σ : AH) (Q : V → AH → Prop) : Prop
  | mk (x : Addr) (D : HD) (a b : Int) (S : List Rw) (nx : Int) (t : Str) (h0 : xs = [.ref x, .str t]) (hP : Zch σ C x D a b S nx) (hlow : nx < 900) (ha : Zei t) (hl : t.length ≤ 1000)
    (hq : ∀ σ' ob, Zit C x σ D a b S nx (due? t) σ' ob → Q (.ref ob) σ') : Zml C xs σ Q
noncomputable def Zh8 (C : Addr) : TF := fun xs σ Q _ => Zml C xs σ Q
theorem Zch.sub {σ σ' : AH} {C x : Addr} {D : HD} {a b : Int} {S : List Rw} {nx : Int} (h : Zch σ C x D a b S nx) (s : Sub σ σ') : Zch σ' C x D a b S nx := ⟨h.hall.sub s, h.well, h.few, h.nums, h.ea, h.eb, h.eS, h.en⟩
theorem Zit.same {C x : Addr} {σ σ' : AH} {D : HD} {a b : Int} {S : List Rw} {nx : Int} {d : Option (Str × List Int)} {ob : Addr} {o : Str} (hP : Zch σ C x D a b S nx) (hA : Ans a b S nx d [o] S nx) (s : Sub σ σ') (o0 : σ ob = none) (ho : σ' ob = some (.list [V.str o])) : Zit C x σ D a b S nx d σ' ob :=
  ⟨D, [o], S, nx, hA, hP.sub s, fun y o q _ => s _ _ q, fun y h => .inl h, o0, Zct hP.hall o0, ho⟩
end
section
open PySem PySem.W PyProof.Rows
theorem Zlq {S' : List Rw} {nx : Int} (h : ∀ n ∈ S'.map Rw.n, n < nx) : ∀ y ∈ S', y.n < nx := fun y hy => h _ (List.mem_map.2 ⟨y, hy, rfl⟩)
theorem Ans.good {a b : Int} {S S' : List Rw} {nx nx' : Int} {d : Option (Str × List Int)} {o : List Str} (h : Ans a b S nx d o S' nx') (G : ∃ m, Zex S a b m) (hb : ∀ y ∈ S, y.n < nx) : (∃ m, Zex S' a b m) ∧ (∀ y ∈ S', y.n < nx') ∧ nx' ≤ nx + 1 := by
  have up : nx ≤ nx + 1 := Int.le_add_of_nonneg_right (by decide)
  cases h with
  | bad => exact ⟨G, hb, up⟩
  | ofC l r o S' n' h =>
    cases h with
    | badEnd h => exact ⟨G, hb, up⟩
    | many h hl => exact ⟨G, hb, up⟩
    | come m hue other nums S' h hl hH hg hs =>
      refine ⟨⟨m, hg⟩, Zlq fun n hn => ?_, Int.le_refl _⟩
      have hs' : S'.map sk = (S ++ [(⟨nx, l, r, none⟩ : Rw)]).map sk := by rw [hs, List.map_append]; rfl
      rw [Zon hs'] at hn
      obtain ⟨y, hy, rfl⟩ := List.mem_map.1 hn
      rcases List.mem_append.1 hy with w | w
      · exact Int.lt_of_lt_of_le (hb y w) up
      · rw [List.mem_singleton.1 w]; exact Int.lt_add_one_of_le (Int.le_refl _)
  | ofG n o S' h =>
    cases h with
    | noPair h => exact ⟨G, hb, up⟩
    | go m m' log S' h hc hl hk hg hs =>
      refine ⟨⟨m', hg⟩, Zlq fun n hn => ?_, up⟩
      rw [Zon hs] at hn
      obtain ⟨y, hy, rfl⟩ := List.mem_map.1 hn
      exact hb y (List.mem_filter.1 hy).1
theorem Zde.good {a b : Int} {ts : List Str} {os : List (List Str)} {S : List Rw} {nx : Int} (h : Zde a b ts os S nx) : (∃ m, Zex S a b m) ∧ (∀ y ∈ S, y.n < nx) ∧ nx ≤ ts.length ∧ os.length = ts.length := by
  induction h with
  | nil => exact ⟨⟨0, Zex.empty⟩, fun y hy => absurd hy List.not_mem_nil, by simp, rfl⟩
  | snoc h1 hA ih =>
    obtain ⟨i1, i2, i3, i4⟩ := ih
    obtain ⟨j1, j2, j3⟩ := hA.good i1 i2
    exact ⟨j1, j2, by simp only [List.length_append, List.length_singleton]; exact Zzy i3 i4 j3, by simp only [List.length_append, List.length_singleton]; exact Zzx i4⟩
theorem Zde.det {a b : Int} {ts : List Str} {os : List (List Str)} {S : List Rw} {nx : Int} (h : Zde a b ts os S nx) : ∀ {os' : List (List Str)} {S' : List Rw} {nx' : Int}, Zde a b ts os' S' nx' → os = os' ∧ S = S' ∧ nx = nx' := by
  induction h with
  | nil =>
    intro os' S' nx' h2
    generalize e : ([] : List Str) = us at h2
    cases h2 with
    | nil => exact ⟨rfl, rfl, rfl⟩
    | snoc _ _ => simp at e
  | @snoc ts os S S' nx nx' t o h1 hA ih =>
    intro os' S2 nx2 h2
    generalize e : ts ++ [t] = us at h2
    cases h2 with
    | nil => simp at e
    | @snoc ts' os2 T T' ny ny' t' o' k1 kA =>
      obtain ⟨rfl, e2⟩ := List.append_inj' e rfl
      cases e2
      obtain ⟨rfl, rfl, rfl⟩ := ih k1
      obtain ⟨⟨m, G⟩, hb, _⟩ := h1.good
      obtain ⟨rfl, rfl, rfl⟩ := hA.det G hb kA
      exact ⟨rfl, rfl, rfl⟩
structure Z2v (σ σ' : AH) (fb : Addr) (obs : List Addr) (os : List (List Str)) : Prop where
  len : obs.length = os.length
  at_ : ∀ (i : Nat) ob o, obs[i]? = some ob → os[i]? = some o → σ' ob = some (.list (o.map V.str))
  new : ∀ ob ∈ obs, σ ob = none ∧ ob ≠ fb
structure Zuf (σ σ' : AH) (D : HD) (obs : List Addr) (os : List (List Str)) : Prop where
  sub : Sub σ σ'
  foot : ∀ y, D.foot y → σ y = none
  len : obs.length = os.length
  at_ : ∀ (i : Nat) ob o, obs[i]? = some ob → os[i]? = some o → σ' ob = some (.list (o.map V.str))
  new : ∀ ob ∈ obs, σ ob = none ∧ ¬ D.foot ob ∧ σ' ob ≠ none
theorem Zuf.snoc {C x : Addr} {σ σ' σ2 : AH} {D : HD} {a b : Int} {S : List Rw} {nx : Int} {d : Option (Str × List Int)} {obs : List Addr} {os : List (List Str)} {ob : Addr} (P : Zuf σ σ' D obs os) (A : Zit C x σ' D a b S nx d σ2 ob) : ∃ D' o S' nx', Ans a b S nx d o S' nx' ∧ Zch σ2 C x D' a b S' nx' ∧ Zuf σ σ2 D' (obs ++ [ob]) (os ++ [o]) := by
  obtain ⟨D', o, S', nx', hA, hP, hF, hN, o0, of, ho⟩ := A
  refine ⟨D', o, S', nx', hA, hP, fun y p q => hF y p (P.sub _ _ q) fun z => ?_, fun y z => ?_, by simp [P.len], fun i q p h1 h2 => ?_, fun q hq => ?_⟩
  · rw [P.foot y z] at q; cases q
  · rcases hN y z with w | w
    · exact P.foot y w
    · exact P.sub.none w
  · rcases Nat.lt_or_ge i obs.length with w | w
    · rw [List.getElem?_append_left w] at h1
      rw [List.getElem?_append_left (by rw [← P.len]; exact w)] at h2
      exact hF _ _ (P.at_ i q p h1 h2) (P.new q (List.mem_of_getElem? h1)).2.1
    · rw [List.getElem?_append_right w] at h1
      rw [List.getElem?_append_right (by rw [← P.len]; exact w), ← P.len] at h2
      have : i - obs.length = 0 := by
        rcases Nat.eq_zero_or_pos (i - obs.length) with z | z
        · exact z
        · rw [List.getElem?_eq_none (show [ob].length ≤ i - obs.length from z)] at h1; cases h1
      rw [this] at h1 h2
      cases h1; cases h2; exact ho
  · rcases List.mem_append.1 hq with w | w
    · obtain ⟨n1, n2, n3⟩ := P.new q w
      refine ⟨n1, fun z => ?_, ?_⟩
      · rcases hN q z with w' | w'
        · exact n2 w'
        · exact n3 w'
      · cases e : σ' q with
        | none => exact absurd e n3
        | some p => rw [hF q p e n2]; exact nofun
    · rw [List.mem_singleton.1 w]; exact ⟨P.sub.none o0, of, by rw [ho]; exact nofun⟩
theorem Zuf.outs {σ σ' : AH} {D : HD} {obs : List Addr} {os : List (List Str)} {fb : Addr} {p : AO} (P : Zuf σ σ' D obs os) (h : σ' fb = none) : Z2v σ (σ'.set fb p) fb obs os :=
  ⟨P.len, fun i ob o h1 h2 => Zk (P.at_ i ob o h1 h2) h, fun ob hob => ⟨(P.new ob hob).1, fun z => (P.new ob hob).2.2 (z ▸ h)⟩⟩
inductive Zsw (xs : List V) (σ : AH) (Q : V → AH → Prop) : Prop
  | mk (a b : Int) (lb : Addr) (ts : List Str) (h0 : xs = [.int a, .int b, .ref lb]) (ha : 1 ≤ a ∧ a ≤ 8) (hb : 1 ≤ b ∧ b ≤ 8) (hl : σ lb = some (.list (ts.map V.str))) (hlen : ts.length ≤ 200) (hasc : ∀ t ∈ ts, Zei t ∧ t.length ≤ 1000)
    (hq : ∀ σ' fb obs os S nx, Zde a b ts os S nx → Sub σ σ' → σ fb = none → σ' fb = some (.list (obs.map V.ref)) → Z2v σ σ' fb obs os → Q (.ref fb) σ') : Zsw xs σ Q
noncomputable def Ztb : TF := fun xs σ Q _ => Zsw xs σ Q
end
section
open PySem PySem.W PyProof.Rows
theorem Zhq {ℓ : Loc} {n m : String} {v : V} (h : ¬ m = n) : (ℓ.set n v) m = ℓ m := by rw [Wh, if_neg h]
noncomputable def Zv8 (tl : Rw → List V) (x : Rw) : V := .tup (.int x.l :: .int x.r :: tl x)
inductive Zp6 (xs : List V) (σ : AH) (Q : V → AH → Prop) : Prop
  | mk (c a b k : Int) (ed : Addr) (kvs : List (Int × V)) (L : List Rw) (tl : Rw → List V) (ep : Nat) (h0 : xs = [.int c, .tup [.int a, .int b, .int k], .ref ed]) (h1 : σ ed = some (.dictI kvs ep)) (h2 : kvs.map (·.2) = L.map (Zv8 tl)) (h3 : 1 ≤ a) (h4 : a ≤ 8) (h5 : 1 ≤ b) (h6 : b ≤ 8) (h7 : ∀ l r, 0 ≤ l → l < a → 0 ≤ r → r < b → Q (.tup [.int l, .int r]) σ) : Zp6 xs σ Q
noncomputable def Zos : TF := fun xs σ Q _ => Zp6 xs σ Q
inductive Zp8 (xs : List V) (σ : AH) (Q : V → AH → Prop) : Prop
  | mk (c a b k mx : Int) (ed : Addr) (kvs : List (Int × V)) (L : List Rw) (tl : Rw → List V) (ep : Nat) (h0 : xs = [.int c, .tup [.int a, .int b, .int k], .ref ed, .int mx]) (h1 : σ ed = some (.dictI kvs ep)) (h2 : kvs.map (·.2) = L.map (Zv8 tl)) (h3 : 1 ≤ a) (h4 : a ≤ 8) (h5 : 1 ≤ b) (h6 : b ≤ 8) (h7 : (kvs.length : Int) ≤ mx) (h8 : 1 ≤ mx ∧ mx < 64)
    (h9 : ∀ n ∈ kvs.map (·.1), Q (.tup [.str goS, .int n]) σ) (h10 : (kvs.length : Int) < mx → ∀ l r, 0 ≤ l → l < a → 0 ≤ r → r < b → Q (.tup [.str Znn, .int l, .int r]) σ) : Zp8 xs σ Q
noncomputable def Zov : TF := fun xs σ Q _ => Zp8 xs σ Q
theorem Zfi : ∀ (ns : List Int) (k : Str) (n : Int), Xg k (ns ++ [n]) = Xg k ns ++ spS ++ Zbi n
  | [], _, _ => rfl
  | m :: ns, k, n => Zfi ns (k ++ spS ++ Zbi m) n
theorem Zob : (Str.ofString " ").length = 1 := by decide +kernel
theorem Zh0 : spS.length = 1 := rfl
theorem Zc4 {n : Int} (h : 0 ≤ n ∧ n ≤ 1000) : Zqq (.int n) = some (Zbi n) := if_pos ⟨h.1, by exact Zo1 h⟩
theorem Za0 {n : Int} (h : 0 ≤ n ∧ n ≤ 1000) : (Zbi n).length ≤ 30 := (Zbo h.1 (by exact Zo1 h)).2
theorem Zlj {k : Int} {ns : List Int} (h : ∀ n ∈ k :: ns, 0 ≤ n ∧ n ≤ 1000) : (Xg (Zbi k) ns).length ≤ 30 + ns.length * 31 := by
  have h1 := Zgv (k := Zbi k) (ns := ns) fun n hn => by have := h n (.tail _ hn); exact Zu6 this
  have h2 := Za0 (h k (.head _))
  exact Zzw h1 h2
inductive Zmm (C : Addr) (xs : List V) (σ : AH) (Q : V → AH → Prop) : Prop
  | mk (x : Addr) (D : HD) (a b : Int) (S : List Rw) (nx : Int) (k : Str) (ns : List Int) (h0 : xs = [.ref x, Zrz k ns]) (hd : (∃ l r, k = Xb ∧ ns = [l, r]) ∨ ∃ n, k = Ze4 ∧ ns = [n]) (hP : Zch σ C x D a b S nx) (hlow : nx < 900)
    (hq : ∀ σ' ob, Zit C x σ D a b S nx (some (k, ns)) σ' ob → Q (.ref ob) σ') : Zmm C xs σ Q
noncomputable def Zh9 (C : Addr) : TF := fun xs σ Q _ => Zmm C xs σ Q
theorem Zi7 {k hue : Int} {other : Option Int} {nums : List Int} (h : Znr k hue other nums) : Zei (Zhv k hue other nums) := by
  rw [Zek]
  refine Zgw (Zab.2 fun c hc => ?_) fun n hn => (h.le n (.tail _ hn)).1
  have := Zfd (h.le k (.head _)).1 c hc
  unfold Zl8 at this
  have := of_decide_eq_true this
  exact Zvi this
theorem Zmc {C x : Addr} {σ σ5 : AH} {D D5 : HD} {m m5 : Nat} {l r hue : Int} {other : Option Int} {nums : List Int} (W : Zmh D m) (hnn : Zqd D.S) (hlow : D.nx < 1000) (few : D.T.length ≤ 40) (hlt : D.T.length < 40) (hl : 0 ≤ l ∧ l < D.a) (hr : 0 ≤ r ∧ r < D.b) (H5 : Zv σ5 C x D5) (W5 : Zmh D5 m5) (hn5 : D5.nx = D.nx + 1) (ha5 : D5.a = D.a) (hb5 : D5.b = D.b)
    (keep5 : ∀ y o, σ y = some o → ¬ D.foot y → σ5 y = some o) (new5 : ∀ y, D5.foot y → D.foot y ∨ σ y = none) (dom5 : ∀ y, σ5 y = none → σ y = none) (hsk5 : D5.S.map sk = D.S.map sk ++ [(D.nx, l, r)]) (hHT : Zas (D.S ++ [⟨D.nx, l, r, none⟩]) D.nx l r m5 hue other nums D5.S) :
    Znr D.nx hue other nums ∧ ∀ ob, σ5 ob = none → Zit C x σ D D.a D.b D.S D.nx (some (Xb, [l, r])) (σ5.set ob (.list [V.str (Zhv D.nx hue other nums)])) ob := by
  have hi := W.good.comeInc (x := ⟨D.nx, l, r, none⟩) W.below rfl
  have hT5 : D5.T.length = D.T.length + 1 := by have := congrArg List.length hsk5; simpa [HD.S] using this
  have hS5 : D5.S.length = D5.T.length := by simp [HD.S]
  have hm5 : m5 ≤ 1000 := by have := Zaw W5.good.cnt; exact Zzv few hlt hT5 hS5 this
  have hN := Zo4 (x := ⟨D.nx, l, r, none⟩) hnn W.nx
  have hg5 : Zex D5.S D.a D.b m5 := by have := W5.good; rw [ha5, hb5] at this; exact this
  have hin : inB D.a D.b l r = true := by unfold inB; rw [decide_eq_true hl, decide_eq_true hr]; rfl
  have hsm := hHT.small hi.2 hi.1 hN W.nx hm5 (by simp [HD.S]; exact Zzu few hlt hT5 hS5)
  refine ⟨hsm, fun ob hob => ?_⟩
  have s6 := Sub.refl.new (o := .list [V.str (Zhv D.nx hue other nums)]) hob
  exact ⟨D5, _, D5.S, D.nx + 1, .ofC l r _ _ _ (.come m5 hue other nums D5.S hin (by simpa [HD.S] using hlt) hHT hg5 hsk5 (Zi7 hsm)), ⟨H5.sub s6, ⟨m5, W5⟩, by exact Zzt few hlt hT5 hS5, Zid (hsk5.trans (by rw [List.map_append]; rfl)) hN, ha5, hb5, rfl, hn5⟩, fun y o q nf => s6 _ _ (keep5 _ _ q nf), new5, dom5 _ hob, Zct H5 hob, Zd⟩
theorem Zss {C x : Addr} {σ σ5 : AH} {D D5 : HD} {m m5 : Nat} {t' : Rw × Addr} {log : List Zb6} (W : Zmh D m) (hnn : Zqd D.S) (few : D.T.length ≤ 40) (ht' : t' ∈ D.T) (H5 : Zv σ5 C x D5) (W5 : Zmh D5 m5) (F5 : Frm σ σ5 D D5) (hsk5 : D5.S.map sk = (drp t'.1.n D.S).map sk) (hcnt5 : Zao (drp t'.1.n D.S) D.a D.b m5) (hlog5 : Zeg m5 (drp t'.1.n D.S) log D5.S)
    (hkeys5 : log.map Zb6.k = ((drp t'.1.n D.S).filter fun x => x.h == some (m5 : Int)).map Rw.n) :
    (∀ e ∈ log, Znr e.k e.hue e.other e.nums) ∧ ∀ ob, σ5 ob = none → Zit C x σ D D.a D.b D.S D.nx (some (Ze4, [t'.1.n])) (σ5.set ob (.list (log.map fun e => V.str e.t))) ob := by
  have hlenS : D.S.length ≤ 40 := by simpa [HD.S] using few
  have hdl : (drp t'.1.n D.S).length ≤ 40 := Nat.le_trans (List.length_filter_le _ _) hlenS
  have hN : Zqd (drp t'.1.n D.S) := fun y hy => hnn y (List.mem_filter.1 hy).1
  have hm5 : m5 ≤ 1000 := Nat.le_trans (Zaw hcnt5) (by exact Nat.le_trans hdl (by decide))
  obtain ⟨hsm, _⟩ := hlog5.small (W.good.proper.filter _) (W.good.inc.filter _) hN hm5 (by exact Nat.le_trans hdl (by decide))
  have hT5 : D5.T.length ≤ 40 := by have := congrArg List.length hsk5; simp only [HD.S, List.length_map] at this hdl; exact Zu5 hdl this
  have hg5 : Zex D5.S D.a D.b m5 := by have := W5.good; rw [F5.sz.1, F5.sz.2.1] at this; exact this
  refine ⟨hsm, fun ob hob => ?_⟩
  have s6 := Sub.refl.new (o := .list (log.map fun e => V.str e.t)) hob
  exact ⟨D5, _, D5.S, D.nx, .ofG t'.1.n _ _ (.go m5 m5 log D5.S ⟨t'.1, List.mem_map.2 ⟨t', ht', rfl⟩, rfl⟩ hcnt5 hlog5 hkeys5 hg5 hsk5 (fun e he => Zi7 (hsm e he))), ⟨H5.sub s6, ⟨m5, W5⟩, hT5, Zid hsk5 hN, F5.sz.1, F5.sz.2.1, rfl, F5.sz.2.2⟩, fun y o q nf => s6 _ _ (F5.keep _ _ q nf), F5.new, F5.dom _ hob, Zct H5 hob, by rw [Zd, List.map_map]; rfl⟩
end
section
open PySem PySem.W PyProof.Rows
inductive Drawn : V → Prop
  | bad (t : Str) (ha : Zei t) (hl : t.length ≤ 100) (hd : due? t = none) : Drawn (.str t)
  | come (l r : Int) (h1 : 0 ≤ l ∧ l < 10 ^ 30) (h2 : 0 ≤ r ∧ r < 10 ^ 30) : Drawn (.tup [.str Xb, .int l, .int r])
  | go (n : Int) (h1 : 0 ≤ n ∧ n < 10 ^ 30) : Drawn (.tup [.str Ze4, .int n])
inductive Zp7 (xs : List V) (σ : AH) (Q : V → AH → Prop) : Prop
  | mk (c a b k came : Int) (ed : Addr) (kvs : List (Int × V)) (L : List Rw) (ep : Nat) (h0 : xs = [.int c, .tup [.int a, .int b, .int k], .ref ed, .int came]) (h1 : σ ed = some (.dictI kvs ep)) (h2 : kvs.map (·.2) = L.map (Zv8 fun _ => [])) (ha : 1 ≤ a ∧ a ≤ 8) (hb : 1 ≤ b ∧ b ≤ 8) (hl : kvs.length ≤ 40) (hk : ∀ n ∈ kvs.map (·.1), 0 ≤ n ∧ n ≤ 1000) (hc : 0 ≤ came ∧ came ≤ 1000)
    (hq : ∀ v, Drawn v → Q v σ) : Zp7 xs σ Q
noncomputable def Zot : TF := fun xs σ Q _ => Zp7 xs σ Q
noncomputable def Z15 : List Str := [Str.ofString "", Str.ofString "come", Str.ofString "go x", Str.ofString "come 1", Str.ofString "go 01", Str.ofString "Come 0 0", Str.ofString " go 0", Str.ofString "go 0 "]
theorem Zty : (Z15.all fun t => t.cps.toList.all (fun c => decide (c < 128)) && decide (t.length ≤ 100) && (due? t).isNone) = true := by decide +kernel
theorem Zwb {v : V} (h : v ∈ Z15.map V.str) : Drawn v := by
  obtain ⟨t, ht, rfl⟩ := List.mem_map.1 h
  have := List.all_eq_true.mp Zty t ht
  simp only [Bool.and_eq_true, decide_eq_true_eq] at this
  exact .bad t (Zab.2 fun c hc => by have := List.all_eq_true.mp this.1.1 c hc; exact of_decide_eq_true this) this.1.2 (Option.isNone_iff_eq_none.mp this.2)
end
section
open PySem PySem.W PyProof.Rows
noncomputable def Zpt (p : Addr × Bool) : V := .tup [.ref p.1, .bool p.2]
structure Led (σ : AH) (D : HD) (lb ub : Addr) (ts : List Str) (os : List (List Str)) (obs : List (Addr × Bool)) : Prop where
  eL : σ lb = some (.list (ts.map V.str))
  eU : σ ub = some (.list (obs.map Zpt))
  len : obs.length = os.length
  at_ : ∀ (i : Nat) p o, obs[i]? = some p → os[i]? = some o → σ p.1 = some (.list (o.map V.str))
  off : ∀ p ∈ obs, ¬ D.foot p.1 ∧ p.1 ≠ lb ∧ p.1 ≠ ub ∧ σ p.1 ≠ none
  nl : ¬ D.foot lb
  nu : ¬ D.foot ub
  lu : lb ≠ ub
  asc : ∀ t ∈ ts, Zei t ∧ t.length ≤ 1000
theorem Led.step {σ σ' : AH} {D D' : HD} {lb ub ob : Addr} {ts : List Str} {os : List (List Str)} {obs : List (Addr × Bool)} {t : Str} {o : List Str} {fl : Bool} (Λ : Led σ D lb ub ts os obs) (keep : ∀ y p, σ y = some p → ¬ D.foot y → y ≠ lb → y ≠ ub → σ' y = some p) (foot : ∀ y, D'.foot y → D.foot y ∨ σ y = none)
    (eL : σ' lb = some (.list ((ts ++ [t]).map V.str))) (eU : σ' ub = some (.list ((obs ++ [(ob, fl)]).map Zpt))) (ho : σ' ob = some (.list (o.map V.str))) (o0 : σ ob = none) (of : ¬ D'.foot ob) (ht : Zei t ∧ t.length ≤ 1000) : Led σ' D' lb ub (ts ++ [t]) (os ++ [o]) (obs ++ [(ob, fl)]) := by
  have nf : ∀ {y p}, σ y = some p → ¬ D.foot y → ¬ D'.foot y := fun {y p} q h z => (foot y z).elim h fun w => by rw [w] at q; cases q
  refine ⟨eL, eU, by simp [Λ.len], fun i p q h1 h2 => ?_, fun p hp => ?_, nf Λ.eL Λ.nl, nf Λ.eU Λ.nu, Λ.lu, fun u hu => ?_⟩
  · rcases Nat.lt_or_ge i obs.length with w | w
    · rw [List.getElem?_append_left w] at h1
      rw [List.getElem?_append_left (by rw [← Λ.len]; exact w)] at h2
      have hm := Λ.off p (List.mem_of_getElem? h1)
      exact keep _ _ (Λ.at_ i p q h1 h2) hm.1 hm.2.1 hm.2.2.1
    · rw [List.getElem?_append_right w] at h1
      rw [List.getElem?_append_right (by rw [← Λ.len]; exact w), ← Λ.len] at h2
      have : i - obs.length = 0 := by
        rcases Nat.eq_zero_or_pos (i - obs.length) with z | z
        · exact z
        · rw [List.getElem?_eq_none (show [(ob, fl)].length ≤ i - obs.length from z)] at h1; cases h1
      rw [this] at h1 h2
      cases h1; cases h2; exact ho
  · rcases List.mem_append.1 hp with w | w
    · obtain ⟨n1, n2, n3, n4⟩ := Λ.off p w
      cases e : σ p.1 with
      | none => exact absurd e n4
      | some q => exact ⟨nf e n1, n2, n3, by rw [keep _ _ e n1 n2 n3]; exact nofun⟩
    · rw [List.mem_singleton.1 w]
      exact ⟨of, (fun z => by have z : ob = lb := z; rw [z, Λ.eL] at o0; cases o0), (fun z => by have z : ob = ub := z; rw [z, Λ.eU] at o0; cases o0), by rw [ho]; exact nofun⟩
  · rcases List.mem_append.1 hu with w | w
    · exact Λ.asc u w
    · rw [List.mem_singleton.1 w]; exact ht
noncomputable def Zd1 (o : List Str) : PyData := .list (o.map PyData.str)
end
section
open PySem PySem.W PyProof.Rows
theorem Led.sub {σ σ' : AH} {D : HD} {lb ub : Addr} {ts : List Str} {os : List (List Str)} {obs : List (Addr × Bool)} (Λ : Led σ D lb ub ts os obs) (s : Sub σ σ') : Led σ' D lb ub ts os obs :=
  ⟨s _ _ Λ.eL, s _ _ Λ.eU, Λ.len, fun i p o h1 h2 => s _ _ (Λ.at_ i p o h1 h2), fun p hp => by
    obtain ⟨n1, n2, n3, n4⟩ := Λ.off p hp
    refine ⟨n1, n2, n3, ?_⟩
    cases e : σ p.1 with
    | none => exact absurd e n4
    | some q => rw [s _ _ e]; exact nofun, Λ.nl, Λ.nu, Λ.lu, Λ.asc⟩
theorem Zch.setList {σ : AH} {C x : Addr} {D : HD} {a b : Int} {S : List Rw} {nx : Int} (h : Zch σ C x D a b S nx) {y : Addr} {l l' : List V} (hb : σ y = some (.list l)) (hn : ¬ D.foot y) : Zch (σ.set y (.list l')) C x D a b S nx := ⟨h.hall.setList hb fun z => hn (.inr (.inr z)), h.well, h.few, h.nums, h.ea, h.eb, h.eS, h.en⟩
theorem Zgu {σ : AH} {a b : Addr} {o : AO} (h : (σ.set a o) b = none) : b ≠ a ∧ σ b = none := by
  by_cases z : b = a
  · rw [z, Zd] at h; cases h
  · rw [Ze z] at h; exact ⟨z, h⟩
noncomputable def Zcs (k : Str) (ns : List Int) : List (V × Str) := (.str k, k) :: ns.map fun n => (.int n, Zbi n)
theorem Zo0 (k : Str) (ns : List Int) : (Zcs k ns).map Prod.fst = .str k :: ns.map V.int := by simp [Zcs]
theorem Zoz (k : Str) (ns : List Int) : (Zcs k ns).map Prod.snd = k :: ns.map Zbi := by simp [Zcs]
theorem Zde.asc {a b : Int} {ts : List Str} {os : List (List Str)} {S : List Rw} {nx : Int} (h : Zde a b ts os S nx) : ∀ o ∈ os, ∀ s ∈ o, Zei s := by
  induction h with
  | nil => intro o ho; cases ho
  | snoc h1 hA ih =>
    intro o ho
    rcases List.mem_append.1 ho with w | w
    · exact ih o w
    · rw [List.mem_singleton.1 w]; exact hA.asc
theorem Zcw : ∀ xs : List Str, PyData.eqvAll (xs.map PyData.str) (xs.map PyData.str) = true
  | [] => by simp [PyData.eqvAll]
  | x :: xs => by simp only [List.map_cons, PyData.eqvAll, PyData.eqv, Zcw xs, beq_self_eq_true, Bool.and_self]
theorem Zf8 : ∀ os : List (List Str), PyData.eqvAll (os.map Zd1) (os.map Zd1) = true
  | [] => by simp [PyData.eqvAll]
  | x :: xs => by simp only [List.map_cons, PyData.eqvAll, Zd1, PyData.eqv, Zcw x, Bool.true_and]; exact Zf8 xs
theorem Zpq {σ : AH} {a b : Addr} {xs : List Str} {Q : Bool → Prop} (ha : σ a = some (.list (xs.map V.str))) (hb : σ b = some (.list (xs.map V.str))) (hx : ∀ x ∈ xs, Zei x) (h : Q true) : eqD (.ref a) (.ref b) σ Q := by
  unfold eqD
  have hl := Zrh fun x hx' => Zb2 (hx x hx')
  exact ⟨_, _, Zbd ha (Zeb xs), Zbd hb (Zeb xs), hl, hl, by simpa only [PyData.eqv, Zcw] using h⟩
theorem Zjh : ∀ {os : List (List Str)}, (∀ o ∈ os, ∀ s ∈ o, Zei s) → PyData.canLayAll0 (os.map Zd1) = true ∧ PyData.depthAll (os.map Zd1) ≤ 3
  | [], _ => by simp [PyData.canLayAll0, PyData.depthAll]
  | o :: os, h => by
    obtain ⟨h1, h2⟩ := Zjh fun y hy => h y (.tail _ hy)
    obtain ⟨h3, h4⟩ := Zf0 fun x hx => Zb2 (h o (.head _) x hx)
    refine ⟨by simp only [List.map_cons, PyData.canLayAll0, Zd1, PyData.canLay0, h3, Bool.true_and]; exact h1, ?_⟩
    simp only [List.map_cons, PyData.depthAll, Zd1, PyData.depth]
    exact Zzs h2 h4
theorem Zgb {σ : AH} : ∀ {obs : List Addr} {os : List (List Str)}, obs.length = os.length → (∀ (i : Nat) ob o, obs[i]? = some ob → os[i]? = some o → σ ob = some (.list (o.map V.str))) → Xf σ (os.map Zd1) (obs.map V.ref)
  | [], [], _, _ => by simp [Xf]
  | [], o :: os, h, _ => by cases h
  | ob :: obs, [], h, _ => by cases h
  | ob :: obs, o :: os, h, k => by
    simp only [List.map_cons, Xf]
    exact ⟨_, _, rfl, Zbd (k 0 ob o rfl rfl) (Zeb o), Zgb (Nat.succ.inj h) fun i p q h1 h2 => k (i + 1) p q h1 h2⟩
theorem Zrt {σ : AH} {a b : Addr} {as bs : List Addr} {os : List (List Str)} {Q : Bool → Prop} (ha : σ a = some (.list (as.map V.ref))) (hb : σ b = some (.list (bs.map V.ref))) (la : as.length = os.length) (lb : bs.length = os.length)
    (ka : ∀ (i : Nat) ob o, as[i]? = some ob → os[i]? = some o → σ ob = some (.list (o.map V.str))) (kb : ∀ (i : Nat) ob o, bs[i]? = some ob → os[i]? = some o → σ ob = some (.list (o.map V.str))) (hx : ∀ o ∈ os, ∀ s ∈ o, Zei s) (h : Q true) : eqD (.ref a) (.ref b) σ Q := by
  unfold eqD
  obtain ⟨h1, h2⟩ := Zjh hx
  have hl : Lay (.list (os.map Zd1)) := ⟨by simpa only [PyData.canLay0] using h1, by simp only [PyData.depth]; exact Zzr h2⟩
  exact ⟨_, _, Zbd ha (Zgb la ka), Zbd hb (Zgb lb kb), hl, hl, by simpa only [PyData.eqv, Zf8] using h⟩
theorem Ans.short {a b : Int} {S S' : List Rw} {nx nx' : Int} {d : Option (Str × List Int)} {o : List Str} (h : Ans a b S nx d o S' nx') : S'.length ≤ S.length + 1 ∧ o.length ≤ S.length + 1 := by
  have one : ∀ {x : Str}, [x].length ≤ S.length + 1 := Nat.succ_le_succ (Nat.zero_le _)
  cases h with
  | bad => exact ⟨Nat.le_succ _, one⟩
  | ofC l r o S' n' h =>
    cases h with
    | badEnd h => exact ⟨Nat.le_succ _, one⟩
    | many h hl => exact ⟨Nat.le_succ _, one⟩
    | come m hue other nums S' h hl hH hg hs hA =>
      have := congrArg List.length hs
      rw [List.length_append, List.length_map, List.length_map] at this
      exact ⟨Nat.le_of_eq this, one⟩
  | ofG n o S' h =>
    cases h with
    | noPair h => exact ⟨Nat.le_succ _, one⟩
    | go m m' log S' h hc hl hk hg hs hA =>
      have h1 := congrArg List.length hs
      have h2 := congrArg List.length hk
      simp only [List.length_map] at h1 h2
      have h3 := List.length_filter_le (fun x : Rw => x.h == some (m : Int)) (drp n S)
      have h4 : (drp n S).length ≤ S.length := List.length_filter_le _ _
      exact ⟨Nat.le_succ_of_le (h1 ▸ h4), by rw [List.length_map, h2]; exact Nat.le_succ_of_le (Nat.le_trans h3 h4)⟩
theorem Zde.short {a b : Int} {ts : List Str} {os : List (List Str)} {S : List Rw} {nx : Int} (h : Zde a b ts os S nx) : S.length ≤ ts.length ∧ ∀ o ∈ os, o.length ≤ ts.length + 1 := by
  induction h with
  | nil => exact ⟨Nat.le_refl _, fun o ho => by cases ho⟩
  | snoc h1 hA ih =>
    have hs := hA.short
    refine ⟨by rw [List.length_append]; simp only [List.length_cons, List.length_nil]; omega, fun o ho => ?_⟩
    rw [List.length_append]; simp only [List.length_cons, List.length_nil]
    rcases List.mem_append.1 ho with w | w
    · have := ih.2 o w; exact Zzq this
    · rw [List.mem_singleton.1 w]; omega
theorem Zmf {α : Type} (l : List α) : (l.map fun _ => true).all id = true := by simp
end
section
open PySem PySem.W PyProof.Rows
variable {g : Gr} {P : Params}
noncomputable abbrev CC : Addr := 298
structure NN (g : Gr) : Prop where
  n_isinstance : Yr g "isinstance" (.builtin "isinstance")
  n_int : Yr g "int" (.type "int")
  n_bool : Yr g "bool" (.type "bool")
  n_len : Yr g "len" (.builtin "len")
  n_max : Yr g "max" (.builtin "max")
  n_min : Yr g "min" (.builtin "min")
  n_range : Yr g "range" (.type "range")
  n_sorted : Yr g "sorted" (.builtin "sorted")
  n_list : Yr g "list" (.type "list")
  n_dict : Yr g "dict" (.type "dict")
  n_all : Yr g "all" (.builtin "all")
  n_ValueError : Yr g "ValueError" (.type "ValueError")
  n_tuple : Yr g "tuple" (.type "tuple")
  n_LEFT : Yr g "LEFT" (.str (Str.ofString "left") 348)
  n_RIGHT : Yr g "RIGHT" (.str (Str.ofString "right") 350)
  n_MOST_ENDS : Yr g "MOST_ENDS" (.int 8 344)
  n_MOST_PAIRS : Yr g "MOST_PAIRS" (.int 40 346)
  n_Hall : Yr g "Hall" (.ref CC)
  n_str : Yr g "str" (.type "str")
  n_FIGURES : Yr g "FIGURES" (.str (Str.ofString "0123456789") 594)
  n_MOST_FIGURES : Yr g "MOST_FIGURES" (.int 30 596)
  n_SIZES : Yr g "SIZES" (.ref 303)
  n_PairError : Yr g "PairError" (.ref 31)
  n_BadEnd : Yr g "BadEnd" (.ref 68)
  n_TooMany : Yr g "TooMany" (.ref 80)
  n_BadCount : Yr g "BadCount" (.ref 44)
  n_BadSide : Yr g "BadSide" (.ref 56)
  n_NoPair : Yr g "NoPair" (.ref 92)
  n_BadHue : Yr g "BadHue" (.ref 104)
  n_NotFree : Yr g "NotFree" (.ref 116)
  n_BadLine : Yr g "BadLine" (.ref 128)
theorem hC : Zsa (KK P) CC := ⟨by kernel_rfl, by kernel_rfl, by kernel_rfl, by kernel_rfl⟩
theorem Zpc : keepIn (KK P) (.ref CC) = true := by kernel_rfl
structure Zsb (K : Frag) : Prop where
  a_rows : findIn K (.ref CC) (Str.ofString "rows") = some none
  a_sizes : findIn K (.ref CC) (Str.ofString "sizes") = some none
  a_next_number : findIn K (.ref CC) (Str.ofString "next_number") = some none
  t_rows : takerIn K CC (Str.ofString "rows") = some none
  t_sizes : takerIn K CC (Str.ofString "sizes") = some none
  t_next_number : takerIn K CC (Str.ofString "next_number") = some none
theorem CF : Zsb (KK P) := ⟨by kernel_rfl, by kernel_rfl, by kernel_rfl, by kernel_rfl, by kernel_rfl, by kernel_rfl⟩
theorem fnM {n : String} {f : Addr} {r : Nat} {t : TF} (h1 : findIn (KK P) (.ref CC) (Str.ofString n) = some (some (.ref f))) (h2 : isFn (KK P) (.ref f) = true) (h3 : keepIn (KK P) (.ref f) = true) (h : Xz g r (.ref f) t) : FnM g (KK P) CC n r t := ⟨f, h1, h2, h3, h.toF⟩
noncomputable def Zoq : TF := fun xs σ Q _ => ∃ s, xs = [.str (Zdn s)] ∧ Q (.str (Zdn (!s))) σ
noncomputable def Zlt : TF := fun xs σ Q _ => ∃ x D s t, xs = [.ref x, .int t.1.n, .str (Zdn s)] ∧ Zv σ CC x D ∧ Inc D.S ∧ t ∈ D.T ∧ Q (.int (t.1.e s)) σ
theorem Z11 (hK : (KK P).In g.b0) (N : NN g) : Xz g 2 (.ref 137) Zi8 := by
  refine Xz.mono (Z7 (r := 1) (ps := ["thing"]) (hK 137 _ rfl) rfl (Zt (hK 136 _ rfl) rfl rfl) rfl (by intro vs h; obtain ⟨a0, rfl⟩ := Zo8 h; rfl) rfl rfl rfl (by decide +kernel)
    (Zc (Zl (Zb9 (Zh1 (Wz (k := .int) (at_ (i := 1) rfl) (N.n_isinstance) (at_ (i := 2) rfl) (N.n_int) (Za (.head _) rfl) rfl) (Zfc (Zqv (Wz (k := .bool) (at_ (i := 1) rfl) (N.n_isinstance) (at_ (i := 3) rfl) (N.n_bool) (Za (.head _) rfl) rfl))))))
  Zh)) ?_
  rintro xs σ Q E ⟨v, b, rfl, hb, h⟩
  refine Yy rfl fun K KE kret _ _ => ?_
  dsimp only [Loc.setAll]
  refine Ye fun K1 r1 => ?_
  cases v with
  | ref a =>
    simp only [nrS] at hb
    split at hb
    · rename_i q
      cases hb
      dsimp only [Zaz, Zt7, Zso, Zuc, Zud, Zn, Wl, Zwn, Zt8, Loc.set, String.reduceBEq, cond_true]
      simp only [q]
      exact r1 _ _ _ (kret _ _ _ _ Sub.refl h)
    · rename_i q
      cases hb
      dsimp only [Zaz, Zt7, Zso, Zuc, Zud, Zn, Wl, Zwn, Zt8, Loc.set, String.reduceBEq, cond_true]
      simp only [q]
      exact r1 _ _ _ (kret _ _ _ _ Sub.refl h)
    · cases hb
  | _ => cases hb <;> (dsimp only [Zaz, Zt7, Zso, Zuc, Zud, Zn, Wl, Zwn, Zt8, Loc.set, String.reduceBEq, cond_true]; exact r1 _ _ _ (kret _ _ _ _ Sub.refl h))
theorem Zjt (hK : (KK P).In g.b0) (N : NN g) : Xz g 2 (.ref 144) Zoq := by
  refine Xz.mono (Z7 (r := 1) (ps := ["side"]) (hK 144 _ rfl) rfl (Zt (hK 143 _ rfl) rfl rfl) rfl (by intro vs h; obtain ⟨a0, rfl⟩ := Zo8 h; rfl) rfl rfl rfl (by decide +kernel)
    (Zc (Ys (Yb (Za (.head _) rfl) (Z6 (at_ (i := 1) rfl) (N.n_LEFT) (fun _ => Z8.mpr ⟨Yj (by decide), _, rfl⟩)) rfl) (Zc (Zl (Z6 (at_ (i := 2) rfl) (N.n_RIGHT) (fun _ => Z8.mpr ⟨Yj (by decide), _, rfl⟩)))
  Zh) Zh)
  (Zc (Zl (Z6 (at_ (i := 1) rfl) (N.n_LEFT) (fun _ => Z8.mpr ⟨Yj (by decide), _, rfl⟩)))
  Zh))) ?_
  rintro xs σ Q E ⟨s, rfl, h⟩
  refine Yy rfl fun K KE kret _ _ => ?_
  dsimp only [Loc.setAll]
  refine Yp fun K1 k1 r1 => ?_
  dsimp only [Zat, Zi1, Zq, Zn, Wn, Zax, Loc.set, String.reduceBEq, cond_true]
  refine Zaa (Zlr s) Zo9 ?_
  rw [Zg3]
  cases s with
  | false =>
    simp only [Bool.not_false]
    refine Ye fun K2 r2 => ?_
    dsimp only [Zaz, Zq]
    exact r2 _ _ _ (r1 _ _ _ (kret _ _ _ _ Sub.refl h))
  | true =>
    simp only [Bool.not_true]
    refine k1 _ _ ?_
    refine Ye fun K2 r2 => ?_
    dsimp only [Zaz, Zq]
    exact r2 _ _ _ (kret _ _ _ _ Sub.refl h)
theorem Zrr (hK : (KK P).In g.b0) (N : NN g) : Xz g 2 (.ref 179) Zlt := by
  refine Xz.mono (Z7 (r := 1) (ps := ["self", "number", "side"]) (hK 179 _ rfl) rfl (Zt (hK 178 _ rfl) rfl rfl) rfl (by intro vs h; obtain ⟨a0, a1, a2, rfl⟩ := Zsm h; rfl) rfl rfl rfl (by decide +kernel)
    (Zc (Ys (Yb (Za (at_ (i := 2) rfl) rfl) (Z6 (at_ (i := 3) rfl) (N.n_LEFT) (fun _ => Z8.mpr ⟨Yj (by decide), _, rfl⟩)) rfl) (Zc (Zl (Zj (Zj (Yd hK hC CF.a_rows rfl rfl (Za (.head _) rfl)) (Za (at_ (i := 1) rfl) rfl) (fun _ _ => rfl)) Zg (fun _ _ => rfl)))
  Zh) Zh)
  (Zc (Zl (Zj (Zj (Yd hK hC CF.a_rows rfl rfl (Za (.head _) rfl)) (Za (at_ (i := 1) rfl) rfl) (fun _ _ => rfl)) Zg (fun _ _ => rfl)))
  Zh))) ?_
  rintro xs σ Q E ⟨x, D, s, t, rfl, H, hi, ht, h⟩
  refine Yy rfl fun K KE kret _ _ => ?_
  dsimp only [Loc.setAll]
  refine Yp fun K1 k1 r1 => ?_
  dsimp only [Zat, Zi1, Zq, Zn, Wn, Zax, Loc.set, String.reduceBEq, cond_true, cond_false]
  refine Zaa (Zlr s) Zo9 ?_
  rw [Zg3]
  cases s with
  | false =>
    simp only [Bool.not_false]
    refine Ye fun K2 r2 => ?_
    dsimp only [Zaz, Zq, Zn, Y4, Loc.set, String.reduceBEq, cond_true, cond_false, Zbh]
    simp only [H.rowsA]
    exact H.item hi ht (H.item0 ht (r2 _ _ _ (r1 _ _ _ (kret _ _ _ _ Sub.refl h))))
  | true =>
    simp only [Bool.not_true]
    refine k1 _ _ ?_
    refine Ye fun K2 r2 => ?_
    dsimp only [Zaz, Zq, Zn, Y4, Loc.set, String.reduceBEq, cond_true, cond_false, Zbh]
    simp only [H.rowsA]
    exact H.item hi ht (H.item1 ht (r2 _ _ _ (kret _ _ _ _ Sub.refl h)))
end
section
open PySem PySem.W PyProof.Rows
variable {g : Gr} {P : Params}
theorem Z12 (hK : (KK P).In g.b0) (N : NN g) (M_end_of : FnM g (KK P) CC "end_of" 2 Zlt) : Xz g 3 (.ref 184) (Zus CC) := by
  refine Xz.mono (Z7 (r := 2) (ps := ["self", "side", "end"]) (hK 184 _ rfl) rfl (Zt (hK 183 _ rfl) rfl rfl) rfl (by intro vs h; obtain ⟨a0, a1, a2, rfl⟩ := Zsm h; rfl) rfl rfl rfl (by decide +kernel)
    (Zc (Zl (Y5 (by decide +kernel) (Z5 (Zm (at_ (i := 3) rfl) (Z2 N.n_sorted Zb8) (Zb (Yd hK hC CF.a_rows rfl rfl (Za (.head _) rfl)) Zf) rfl)) (.name (at_ (i := 1) rfl) rfl) (by decide +kernel) (Zd5 (Yb (Zz hK hC M_end_of (Za (at_ (i := 3) rfl) rfl) (Zb (Za (at_ (i := 1) rfl) rfl) (Zb (Za (at_ (i := 4) rfl) rfl) Zf)) rfl rfl rfl rfl) (Za (at_ (i := 2) rfl) rfl) rfl)) (Za (at_ (i := 1) rfl) rfl) (fun _ _ => rfl)))
  Zh)) ?_
  rintro xs σ Q E ⟨x, D, s, e, rfl, H, hi, h64, h⟩
  refine Yy rfl fun K KE kret _ _ => ?_
  dsimp only [Loc.setAll]
  refine Ye fun K1 r1 => ?_
  dsimp only [Zaz, Zag, W6, Yk, Yu, Zau, Yl, Zy, Zn, Loc.set, String.reduceBEq, cond_true, cond_false, Zbh]
  simp only [H.rowsA]
  refine Zco H hi h64 fun b hb => ?_
  simp only [Zd]
  have s1 : Sub σ (σ.set b (.list (D.T.map fun t => V.int t.1.n))) := Sub.refl.new hb
  refine ⟨nofun, Zbe (fun t : Rw × Addr => V.int t.1.n) (fun t => t.1.e s == e) (fun t => V.int t.1.n) D.T (fun σ' hs => hs _ _ Zd) (fun t ht σ' hs => ⟨_, fun P h => h, fun Qb hQ => ?_, fun _ σ'' hs'' Qv hQ => ?_⟩) fun σ' hs => ?_⟩
  · have H' := H.sub (s1.trans hs)
    dsimp only [Yl, Zy, Zn, Wn, Zax, Loc.set, Loc.bare, String.reduceBEq, cond_true, cond_false, Y8]
    refine ⟨H'.instOf (by decide +kernel), x, D, s, t, rfl, H', hi, ht, ?_⟩
    simp only [eqD]
    exact hQ _ Sub.refl
  · dsimp only [Zn, Loc.set, Loc.bare, String.reduceBEq, cond_true, cond_false]
    exact hQ _ Sub.refl
  · intro d hd
    have s2 : Sub σ σ' := s1.trans hs
    exact r1 _ _ _ (kret _ _ _ (σ.set d (.list ((Zly D.T s e).map fun t => V.int t.1.n))) (Zn8 s2) (h d (s2.none hd)))
theorem Zts (hK : (KK P).In g.b0) (N : NN g) (M_met : FnM g (KK P) CC "met" 3 (Zus CC)) : Xz g 4 (.ref 189) (Zlu CC) := by
  refine Xz.mono (Z7 (r := 3) (ps := ["self"]) (hK 189 _ rfl) rfl (Zt (hK 188 _ rfl) rfl rfl) rfl (by intro vs h; obtain ⟨a0, rfl⟩ := Zo8 h; rfl) rfl rfl rfl (by decide +kernel)
    (Zc (Zo (at_ (i := 1) rfl) rfl (Z3 (Zb Zg Zf)) (fun _ => rfl))
  (Zc (Wd (Z5 (Z0 (Zb (Z6 (at_ (i := 3) rfl) (N.n_LEFT) (fun _ => Z8.mpr ⟨Yj (by decide), _, rfl⟩)) (Zb (Z6 (at_ (i := 4) rfl) (N.n_RIGHT) (fun _ => Z8.mpr ⟨Yj (by decide), _, rfl⟩)) Zf)))) (.name (at_ (i := 2) rfl) rfl) (Zc (Zo (at_ (i := 1) rfl) rfl (Zp (Za (at_ (i := 1) rfl) rfl) (Y5 (by decide +kernel) (W7 (at_ (i := 5) rfl) (N.n_range) (Zj (Yd hK hC CF.a_sizes rfl rfl (Za (.head _) rfl)) (Za (at_ (i := 2) rfl) rfl) (fun _ _ => rfl)) rfl) (.name (at_ (i := 1) rfl) rfl) (by decide +kernel) Xp (Zm (at_ (i := 2) rfl) (Z2 N.n_len Xi) (Zb (Zz hK hC M_met (Za (at_ (i := 3) rfl) rfl) (Zb (Za (at_ (i := 4) rfl) rfl) (Zb (Za (at_ (i := 1) rfl) rfl) Zf)) rfl rfl rfl rfl) Zf) rfl) (fun _ _ => rfl))) (fun _ => rfl))
  Zh) (fun _ _ => rfl))
  (Zc (Zl (Zm (at_ (i := 6) rfl) (Z2 N.n_max Zqu) (Zb (Za (at_ (i := 1) rfl) rfl) Zf) rfl))
  Zh)))) ?_
  rintro xs σ Q E ⟨x, D, rfl, H, hi, h64, ha0, ha1, hb0, hb1, h⟩
  refine Yy rfl fun K KE kret _ _ => ?_
  dsimp only [Loc.setAll]
  refine Zs fun K1 k1 => ?_
  dsimp only [Z4, Wx, Yl, Zy, Zq, List.length_cons, List.length_nil]
  refine ⟨Yn rfl, fun b0 hb0' => k1 _ _ ?_⟩
  have s1 : Sub σ (σ.set b0 (.list [V.int 0])) := Sub.refl.new hb0'
  refine Zs fun K1 k1 => ?_
  dsimp only [Zlm, Zag, W6, Ww, Yl, Zy, Zq, List.length_cons, List.length_nil]
  refine ⟨Yn rfl, nofun, ?_⟩
  refine Zbr (fun xs ℓ σ' => ∀ P0 : Prop, (∀ (done rest : List Bool) (b : Addr), (xs = rest.map (fun s => V.str (Zdn s))) → (done ++ rest = [false, true]) → (ℓ "self" = some (.ref x)) → (ℓ "sizes" = some (.ref b)) → (σ' b = some (.list (((0 : Int) :: Znw D.S D.a D.b done).map V.int))) → (Sub σ σ') → P0) → P0) ?_ ?_
    (fun _ kI => kI ([]) ([false, true]) (b0) (rfl) (rfl) (rfl) (rfl) (Zd) (s1))
  · intro ℓ σ' hI0
    refine hI0 _ fun done rest b h1 h2 h3 h4 h5 h6 => ?_
    obtain rfl := Xr h1
    rw [List.append_nil] at h2
    subst h2
    refine ⟨trivial, k1 _ _ ?_⟩
    refine Ye fun K2 r2 => ?_
    dsimp only [Zaz, Yk, Zwy, Yl, Zy, Zn]
    simp only [h4, Zc9, h5, Zjp]
    refine ⟨by simp, fun m hm1 hm2 => ?_⟩
    obtain ⟨k, rfl, hk⟩ := Zrl hm1 hm2
    exact r2 _ _ _ (kret _ _ _ _ h6 (h k hk))
  · intro v xs ℓ σ' K2 k2 r2 hI0
    refine hI0 _ fun done rest b h1 h2 h3 h4 h5 h6 => ?_
    obtain ⟨s, rest, rfl, rfl, rfl⟩ := Xa h1
    refine ⟨trivial, ?_⟩
    dsimp only [Xs]
    refine Zs fun K3 k3 => ?_
    dsimp only [Z4, Zdl, Yu, Zau, Zn, Zdm, Zcj, Y4, Loc.set, String.reduceBEq, cond_true, cond_false, Zbh]
    have H' := H.sub h6
    simp only [h3, h4, H'.sizesA]
    have hsz : 0 ≤ Zgn D.a D.b s ∧ Zgn D.a D.b s ≤ 1000 := by cases s <;> simp [Zgn] <;> omega
    refine H'.size s ⟨hsz.1, by unfold Y3; exact Zzp hsz, nofun, ?_⟩
    rw [Zc7]
    refine Zbf V.int (fun e => V.int (deg D.S s e : Int)) (Zd7 (Zgn D.a D.b s).toNat) (fun _ _ => trivial) (fun e he => ⟨_, fun _ _ P h => h, fun σ2 s2 Qv hQ => ?_⟩) fun σ2 s2 d hd => ?_
    · dsimp only [Yk, Zhz, Ziv, Yl, Zy, Zn, Loc.set, Loc.bare, String.reduceBEq, cond_true, cond_false, Y8]
      simp only [h3]
      have H2 := H'.sub s2
      refine ⟨H2.instOf (by decide +kernel), x, D, s, e, rfl, H2, hi, h64, fun c hc => ?_⟩
      simp only [Zd, List.length_map]
      rw [Zrd]
      exact hQ _ (Sub.refl.new hc)
    · refine ⟨_, _, Zk (s2 _ _ h5) hd, Zd, ?_, fun d' hd' => k3 _ _ (k2 _ _ (fun _ kI => kI (done ++ [s]) (rest) (d') (rfl) (by simpa using h2) (h3) (rfl) (?_) (((h6.trans s2).new hd).new hd')))⟩
      · have hl : (Znw D.S D.a D.b done).length ≤ 1000 * done.length := by
          clear h5 h2
          induction done with
          | nil => simp [Znw]
          | cons t done ih =>
            have : (Zgn D.a D.b t).toNat ≤ 1000 := by cases t <;> simp [Zgn] <;> omega
            unfold Znw at ih ⊢
            rw [List.flatMap_cons, List.length_append, List.length_map, Za5, List.length_cons]
            exact Zzo ih this
        have hd2 : done.length ≤ 2 := by have := congrArg List.length h2; simp at this; exact Zzn this
        unfold Y3
        simp only [List.length_append, List.length_map, List.length_cons, Za5]
        exact Zzm hsz hl hd2
      · rw [Zd, Zpw]
        simp [List.map_map, Function.comp_def]
theorem Zk2 (hK : (KK P).In g.b0) (N : NN g) (M_met : FnM g (KK P) CC "met" 3 (Zus CC)) : Xz g 4 (.ref 194) (Zqy CC) := by
  refine Xz.mono (Z7 (r := 3) (ps := ["self", "side", "end", "many"]) (hK 194 _ rfl) rfl (Zt (hK 193 _ rfl) rfl rfl) rfl (by intro vs h; obtain ⟨a0, a1, a2, a3, rfl⟩ := Ztj h; rfl) rfl rfl rfl (by decide +kernel)
    (Zc (X9 (at_ (i := 4) rfl) rfl (by decide +kernel) (Z5 (Zz hK hC M_met (Za (.head _) rfl) (Zb (Za (at_ (i := 1) rfl) rfl) (Zb (Za (at_ (i := 2) rfl) rfl) Zf)) rfl rfl rfl rfl)) (.name (at_ (i := 1) rfl) rfl) (by decide +kernel) Xp (Zj (Zj (Yd hK hC CF.a_rows rfl rfl (Za (at_ (i := 2) rfl) rfl)) (Za (at_ (i := 1) rfl) rfl) (fun _ _ => rfl)) Zg (fun _ _ => rfl)) (fun _ _ => rfl))
  (Zc (Zl (Y5 (by decide +kernel) (W7 (at_ (i := 5) rfl) (N.n_range) (Za (at_ (i := 3) rfl) rfl) rfl) (.name (at_ (i := 1) rfl) rfl) (by decide +kernel) (Zd5 (Yb (Za (at_ (i := 1) rfl) rfl) (Za (at_ (i := 2) rfl) rfl) rfl)) (Za (at_ (i := 1) rfl) rfl) (fun _ _ => rfl)))
  Zh))) ?_
  rintro xs σ Q E ⟨x, D, s, e, m, rfl, H, hi, h64, hm, h⟩
  refine Yy rfl fun K KE kret _ _ => ?_
  dsimp only [Loc.setAll]
  refine Yp fun K1 k1 r1 => ?_
  dsimp only [Wo, Zag, W6, Zau, Yl, Zy, Zn, Loc.set, String.reduceBEq, cond_true, cond_false, Y8]
  refine ⟨H.instOf (by decide +kernel), x, D, s, e, rfl, H, hi, h64, fun c hc => ?_⟩
  simp only [Zd]
  have s1 : Sub σ (σ.set c (.list ((Zly D.T s e).map fun t => V.int t.1.n))) := Sub.refl.new hc
  refine ⟨nofun, Zbf (fun t : Rw × Addr => V.int t.1.n) (fun t => Zjr t.1.h) (Zly D.T s e) (fun σ' hs => hs _ _ Zd) (fun t ht => ⟨_, fun _ _ P h => h, fun σ2 s2 Qv hQ => ?_⟩) fun σ2 s2 d hd => ?_⟩
  · have H2 := H.sub (s1.trans s2)
    have ht' := (List.mem_filter.1 ht).1
    dsimp only [Zq, Zn, Y4, Loc.set, Loc.bare, String.reduceBEq, cond_true, cond_false, Zbh]
    simp only [H2.rowsA]
    exact H2.item hi ht' (H2.item2 ht' (hQ _ Sub.refl))
  · have s3 : Sub σ (σ2.set d (.list ((Zly D.T s e).map fun t => Zjr t.1.h))) := (s1.trans s2).new hd
    refine k1 _ _ ?_
    refine Ye fun K1 r1 => ?_
    dsimp only [Zaz, Zdl, Yu, Zau, Zn, Loc.set, String.reduceBEq, cond_true, cond_false]
    refine ⟨by exact Zzl hm, by unfold Y3; exact Zzk hm, nofun, ?_⟩
    rw [Zc7]
    refine Zbe V.int (fun h => !decide (some h ∈ (Zly D.T s e).map fun t => t.1.h)) V.int (Zd7 (m : Int).toNat) (fun _ _ => trivial) (fun h' _ σ4 s4 => ⟨_, fun P h => h, fun Qb hQ => ?_, fun _ σ5 s5 Qv hQ => ?_⟩) fun σ4 s4 d' hd' => ?_
    · dsimp only [Zn, Wn, Zax, Loc.set, Loc.bare, String.reduceBEq, cond_true, cond_false]
      refine Zrn (hs := (Zly D.T s e).map fun t => t.1.h) ?_ (hQ _ Sub.refl)
      rw [List.map_map]
      exact s4 _ _ Zd
    · dsimp only [Zn, Loc.set, Loc.bare, String.reduceBEq, cond_true, cond_false]
      exact hQ _ Sub.refl
    · have s5 := s3.trans s4
      refine r1 _ _ _ (kret _ _ _ (σ.set d' (.list ((Yi D.S s e m).map V.int))) ?_ (h d' (s5.none hd')))
      rw [show ((m : Int).toNat) = m by exact Zzj hm, Zn1]
      exact Zn8 s5
theorem Znf (hK : (KK P).In g.b0) (N : NN g) (M_met : FnM g (KK P) CC "met" 3 (Zus CC)) : Xz g 4 (.ref 201) (Zs8 CC) := by
  refine Xz.mono (Z7 (r := 3) (ps := ["self", "side", "end", "hue"]) (hK 201 _ rfl) rfl (Zt (hK 200 _ rfl) rfl rfl) rfl (by intro vs h; obtain ⟨a0, a1, a2, a3, rfl⟩ := Ztj h; rfl) rfl rfl rfl (by decide +kernel)
    (Zc (Wd (Z5 (Zz hK hC M_met (Za (.head _) rfl) (Zb (Za (at_ (i := 1) rfl) rfl) (Zb (Za (at_ (i := 2) rfl) rfl) Zf)) rfl rfl rfl rfl)) (.name (at_ (i := 4) rfl) rfl) (Zc (Ys (Yb (Zj (Zj (Yd hK hC CF.a_rows rfl rfl (Za (.head _) rfl)) (Za (at_ (i := 4) rfl) rfl) (fun _ _ => rfl)) Zg (fun _ _ => rfl)) (Za (at_ (i := 3) rfl) rfl) rfl) (Zc (Zl (Za (at_ (i := 4) rfl) rfl))
  Zh) Zh)
  Zh) (fun _ _ => rfl))
  (Zc (Zl Za2)
  Zh))) ?_
  rintro xs σ Q E ⟨x, D, s, e, hh, rfl, H, hi, h64, h⟩
  refine Yy rfl fun K KE kret _ _ => ?_
  dsimp only [Loc.setAll]
  refine Yp fun K1 k1 r1 => ?_
  dsimp only [Zlm, Zag, W6, Yl, Zy, Zn, Loc.set, String.reduceBEq, cond_true, cond_false, Y8]
  refine ⟨H.instOf (by decide +kernel), x, D, s, e, rfl, H, hi, h64, fun c hc => ?_⟩
  simp only [Zd]
  have s1 : Sub σ (σ.set c (.list ((Zly D.T s e).map fun t => V.int t.1.n))) := Sub.refl.new hc
  refine ⟨nofun, Zbr (fun xs ℓ σ' => ∀ P0 : Prop, (∀ rest : List (Rw × Addr), (xs = rest.map (fun t => V.int t.1.n)) → ((∀ t ∈ rest, t ∈ D.T)) → (Zgm D.S s e hh = (rest.find? fun t => t.1.h == some hh).map (·.1)) → (ℓ "self" = some (.ref x)) → (ℓ "hue" = some (.int hh)) → (Sub (σ.set c (.list ((Zly D.T s e).map fun t => V.int t.1.n))) σ') → P0) → P0) ?_ ?_
    (fun _ kI => kI (_) (rfl) (fun t ht => (List.mem_filter.1 ht).1) (Zms D s e hh) (rfl) (rfl) (Sub.refl))⟩
  · intro ℓ σ' hI0
    refine hI0 _ fun rest h1 h2 h3 h4 h5 h6 => ?_
    obtain rfl := Xr h1
    refine ⟨h6 _ _ Zd, k1 _ _ ?_⟩
    refine Ye fun K2 r2 => ?_
    dsimp only [Zaz, Zq]
    rw [h3] at h
    exact r2 _ _ _ (kret _ _ _ _ (s1.trans h6) h)
  · intro v xs ℓ σ' K2 k2 r2 hI0
    refine hI0 _ fun rest h1 h2 h3 h4 h5 h6 => ?_
    obtain ⟨t, rest, rfl, rfl, rfl⟩ := Xa h1
    refine ⟨h6 _ _ Zd, ?_⟩
    dsimp only [Xs]
    refine Yp fun K3 k3 r3 => ?_
    dsimp only [Zat, Zi1, Zq, Zn, Wn, Zax, Y4, Loc.set, String.reduceBEq, cond_true, cond_false, Zbh]
    have H' := H.sub (s1.trans h6)
    simp only [h4, h5, H'.rowsA]
    refine H'.item hi (h2 t (.head _)) (H'.item2 (h2 t (.head _)) (Zpr ?_))
    rw [List.find?_cons] at h3
    cases q : (t.1.h == some hh) with
    | true =>
      rw [q] at h3
      simp only at h3 ⊢
      refine Ye fun K4 r4 => ?_
      dsimp only [Zaz, Zn, Loc.set, String.reduceBEq, cond_true]
      rw [h3] at h
      exact r4 _ _ _ (r3 _ _ _ (r2 _ _ _ (r1 _ _ _ (kret _ _ _ _ (s1.trans h6) h))))
    | false =>
      rw [q] at h3
      simp only at h3 ⊢
      exact k3 _ _ (k2 _ _ (fun _ kI => kI (rest) (rfl) (fun t' ht' => h2 t' (.tail _ ht')) (h3) (h4) (h5) (h6)))
end
section
open PySem PySem.W PyProof.Rows
variable {g : Gr} {P : Params}
inductive ChI (S : List Rw) (s : Bool) (e one other : Int) (σ : AH) (x b : Addr) (n : Nat) (ℓ : Loc) (σ' : AH) : Prop
  | mk (l : List Rw) (h0 : Zb3 S s e one other l) (h1 : n = S.length - l.length) (h2 : σ' = σ.set b (.list (l.map fun x => V.int x.n))) (h3 : ℓ "self" = some (.ref x)) (h4 : ℓ "found" = some (.ref b)) (h5 : ℓ "one" = some (.int one)) (h6 : ℓ "other" = some (.int other)) (h7 : ℓ "side" = some (.str (Zdn (Xy s l.length)))) (h8 : ℓ "want" = some (.int (Xk one other l.length))) (h9 : ℓ "number" = some (Zvm (Zgm S (Xy s l.length) (Zqi s e l) (Xk one other l.length)))) : ChI S s e one other σ x b n ℓ σ'
theorem Zju (hK : (KK P).In g.b0) (N : NN g) (F_other_side : FnG g "other_side" 4 Zoq) (M_with_hue : FnM g (KK P) CC "with_hue" 4 (Zs8 CC)) (M_end_of : FnM g (KK P) CC "end_of" 4 Zlt) : Xz g 5 (.ref 208) (Zow CC) := by
  refine Xz.mono (Z7 (r := 4) (ps := ["self", "side", "end", "one", "other"]) (hK 208 _ rfl) rfl (Zt (hK 207 _ rfl) rfl rfl) rfl (by intro vs h; obtain ⟨a0, a1, a2, a3, a4, rfl⟩ := Z2r h; rfl) rfl rfl rfl (by decide +kernel)
    (Zc (Zo (at_ (i := 5) rfl) rfl (Z3 Zf) (fun _ => rfl))
  (Zc (Zo (at_ (i := 6) rfl) rfl (Za (at_ (i := 4) rfl) rfl) (fun _ => rfl))
  (Zc (Zo (at_ (i := 7) rfl) rfl (Zz hK hC M_with_hue (Za (.head _) rfl) (Zb (Za (at_ (i := 1) rfl) rfl) (Zb (Za (at_ (i := 2) rfl) rfl) (Zb (Za (at_ (i := 6) rfl) rfl) Zf))) rfl rfl rfl rfl) (fun _ => rfl))
  (Zc (Zmv (Yb (Za (at_ (i := 7) rfl) rfl) Za2 rfl) (Zc (Yz (Za6 (Za (at_ (i := 5) rfl) rfl) (Zb (Za (at_ (i := 7) rfl) rfl) Zf) rfl rfl rfl rfl) (fun _ => rfl))
  (Zc (Zo (at_ (i := 1) rfl) rfl (Zm (at_ (i := 8) rfl) F_other_side (Zb (Za (at_ (i := 1) rfl) rfl) Zf) rfl) (fun _ => rfl))
  (Zc (Zo (at_ (i := 6) rfl) rfl (Zp (Zp (Za (at_ (i := 3) rfl) rfl) (Za (at_ (i := 4) rfl) rfl)) (Za (at_ (i := 6) rfl) rfl)) (fun _ => rfl))
  (Zc (Zo (at_ (i := 7) rfl) rfl (Zz hK hC M_with_hue (Za (.head _) rfl) (Zb (Za (at_ (i := 1) rfl) rfl) (Zb (Zz hK hC M_end_of (Za (.head _) rfl) (Zb (Za (at_ (i := 7) rfl) rfl) (Zb (Za (at_ (i := 1) rfl) rfl) Zf)) rfl rfl rfl rfl) (Zb (Za (at_ (i := 6) rfl) rfl) Zf))) rfl rfl rfl rfl) (fun _ => rfl))
  Zh)))))
  (Zc (Zl (Za (at_ (i := 5) rfl) rfl))
  Zh)))))) ?_
  rintro xs σ Q E ⟨x, D, s, e, one, other, rfl, H, hi, h64, hp, hf, hne, h⟩
  refine Yy rfl fun K KE kret _ _ => ?_
  dsimp only [Loc.setAll]
  refine Zs fun K1 k1 => ?_
  dsimp only [Z4, Wx, Yl, List.length_nil]
  refine ⟨Yn rfl, fun b hb => k1 _ _ ?_⟩
  refine Zs fun K1 k1 => ?_
  dsimp only [Z4, Zn, Loc.set, String.reduceBEq, cond_true, cond_false]
  refine k1 _ _ ?_
  have Hs : ∀ l : List V, Zv (σ.set b (.list l)) CC x D := fun l => H.sub (Sub.refl.new hb)
  refine Zs fun K1 k1 => ?_
  dsimp only [Z4, Yl, Zy, Zn, Loc.set, String.reduceBEq, cond_true, cond_false, Y8]
  refine ⟨(Hs []).instOf (by decide +kernel), x, D, s, e, other, rfl, Hs [], hi, h64, k1 _ _ ?_⟩
  refine Zs fun K1 k1 => ?_
  refine ⟨ChI D.S s e one other σ x b, ⟨_, [], .nil, rfl, rfl, rfl, rfl, rfl, rfl, rfl, rfl, rfl⟩, ?_⟩
  rintro n ℓ σ' ⟨l, hP, rfl, rfl, e1, e2, e3, e4, e5, e6, e7⟩
  dsimp only [Zq, Zn, Wn, Zax]
  simp only [e7]
  cases hw : Zgm D.S (Xy s l.length) (Zqi s e l) (Xk one other l.length) with
  | none =>
    simp only [Zvm, Zf3, Bool.not_true]
    refine k1 _ _ ?_
    refine Ye fun K2 r2 => ?_
    dsimp only [Zaz, Zn]
    simp only [e2]
    exact r2 _ _ _ (kret _ _ _ _ Sub.refl (h b l hP (Zmr hw) hb))
  | some r =>
    obtain ⟨w1, w2, w3⟩ := Zmq hw
    have hP' : Zb3 D.S s e one other (l ++ [r]) := hP.snoc w1 w3 w2
    have hl := hP'.len hp hi hne hf
    have hST : D.S.length = D.T.length := by simp [HD.S]
    rw [List.length_append, List.length_singleton] at hl
    simp only [Zvm, Zf3, Bool.not_false]
    rw [hw] at e7
    simp only [Zvm] at e7
    refine Zs fun K2 k2 => ?_
    dsimp only [tDo, Xd, Ziu, Wy, Yl, Zy, Zn]
    simp only [e2, e7, Zd]
    refine ⟨trivial, by simp [Y3]; exact Zzi h64 hl hST, k2 _ _ ?_⟩
    rw [Zhr]
    have hmap : ((l.map fun x => V.int x.n) ++ [V.int r.n]) = (l ++ [r]).map fun x => V.int x.n := by simp
    rw [hmap]
    refine Zs fun K2 k2 => ?_
    dsimp only [Z4, Yk, Yl, Zy, Zn]
    simp only [e5]
    refine ⟨_, rfl, k2 _ _ ?_⟩
    refine Zs fun K2 k2 => ?_
    dsimp only [Z4, Zn, Zdm, Zcj, Loc.set, String.reduceBEq, cond_false]
    simp only [e3, e4, e6]
    refine k2 _ _ ?_
    refine Zs fun K2 k2 => ?_
    dsimp only [Z4, Yl, Zy, Zn, Loc.set, String.reduceBEq, cond_true, cond_false, Y8]
    simp only [e1, e7]
    obtain ⟨t, ht, rfl⟩ := Ztg w1
    have H' := Hs ((l ++ [t.1]).map fun x => V.int x.n)
    refine ⟨H'.instOf (by decide +kernel), H'.instOf (by decide +kernel), x, D, _, t, rfl, H', hi, ht, x, D, _, _, _, rfl, H', hi, h64, k2 _ _ ?_⟩
    refine ⟨D.S.length - (l ++ [t.1]).length, by rw [List.length_append, List.length_singleton]; exact Zzh hl, l ++ [t.1], hP', rfl, rfl, e1, e2, e3, e4, ?_, ?_, ?_⟩
    · simp only [List.length_append, List.length_singleton, Zdo]; rfl
    · simp only [List.length_append, List.length_singleton, Zdk]; rfl
    · simp only [List.length_append, List.length_singleton, Zdo, Zdk, Zn3]; rfl
end
section
open PySem PySem.W PyProof.Rows
variable {g : Gr} {P : Params}
theorem Zvw (hK : (KK P).In g.b0) (N : NN g) : Xz g 2 (.ref 215) (Zta CC) := by
  refine Xz.mono (Z7 (r := 1) (ps := ["self", "chain", "one", "other"]) (hK 215 _ rfl) rfl (Zt (hK 214 _ rfl) rfl rfl) rfl (by intro vs h; obtain ⟨a0, a1, a2, a3, rfl⟩ := Ztj h; rfl) rfl rfl rfl (by decide +kernel)
    (Zc (Wd (Z5 (Za (at_ (i := 1) rfl) rfl)) (.name (at_ (i := 4) rfl) rfl) (Zc (Zah (Zj (Yd hK hC CF.a_rows rfl rfl (Za (.head _) rfl)) (Za (at_ (i := 4) rfl) rfl) (fun _ _ => rfl)) Zg (Zp (Zp (Za (at_ (i := 2) rfl) rfl) (Za (at_ (i := 3) rfl) rfl)) (Zj (Zj (Yd hK hC CF.a_rows rfl rfl (Za (.head _) rfl)) (Za (at_ (i := 4) rfl) rfl) (fun _ _ => rfl)) Zg (fun _ _ => rfl))) (fun _ => rfl))
  Zh) (fun _ _ => rfl))
  Zh)) ?_
  rintro xs σ Q E ⟨x, D, c, nums, one, other, rfl, H, hi, hc, hca, hnd, hks, h⟩
  refine Yy rfl fun K KE kret kend _ => ?_
  dsimp only [Loc.setAll]
  refine Zs fun K1 k1 => ?_
  dsimp only [Zlm, Zag, W6, Zn, Loc.set, String.reduceBEq, cond_true, cond_false]
  simp only [hc]
  refine ⟨nofun, Zbr (fun xs ℓ σ' => ∀ P0 : Prop, (∀ done rest : List Int, (done ++ rest = nums) → (xs = rest.map V.int) → (ℓ "self" = some (.ref x)) → (ℓ "one" = some (.int one)) → (ℓ "other" = some (.int other)) → (Zv σ' CC x (D.flip done one other)) → (∀ y, y ∉ D.T.map (·.2) → σ' y = σ y) → P0) → P0) ?_ ?_
    (fun _ kI => kI ([]) (nums) (rfl) (rfl) (rfl) (rfl) (rfl) (by rw [Zrq]; exact H) (fun _ _ => rfl))⟩
  · intro ℓ σ' hI0
    refine hI0 _ fun done rest h1 h2 h3 h4 h5 h6 h7 => ?_
    obtain rfl := Xr h2
    rw [List.append_nil] at h1
    subst h1
    refine ⟨(h7 c hca).trans hc, k1 _ _ ?_⟩
    dsimp only [Zat]
    exact kend _ _ _ Sub.refl (h σ' h6 h7)
  · intro v xs ℓ σ' K2 k2 r2 hI0
    refine hI0 _ fun done rest h1 h2 h3 h4 h5 h6 h7 => ?_
    obtain ⟨k, rest, rfl, rfl, rfl⟩ := Xa h2
    refine ⟨(h7 c hca).trans hc, ?_⟩
    dsimp only [Xs]
    obtain ⟨t, ht, rfl, hu, hh⟩ := hks k (by rw [← h1]; simp)
    have hnin : t.1.n ∉ done := fun q => by
      rw [← h1, List.nodup_append] at hnd
      exact hnd.2.2 _ q _ (.head _) rfl
    have ht' : (t.1, t.2) ∈ (D.flip done one other).T := List.mem_map.2 ⟨t, ht, by rw [Xm hnin]⟩
    have hi' : Inc (D.flip done one other).S := Zl5 hi
    refine Zs fun K3 k3 => ?_
    dsimp only [Zc3]
    dsimp only [Zq, Zn, Zdm, Zcj, Y4, Loc.set, String.reduceBEq, cond_true, cond_false, Zbh]
    simp only [h3, h4, h5, h6.rowsA]
    refine h6.item hi' ht' (h6.item2 ht' ?_)
    simp only [hh, Zjr]
    refine h6.item hi' ht' ?_
    simp only [Zca, h6.row _ ht']
    refine ⟨2, rfl, by simp [Zg6], k3 _ _ (k2 _ _ (fun _ kI => kI (done ++ [t.1.n]) (rest) (by simpa using h1) (rfl) (h3) (h4) (h5) (?_) (fun y hy => ?_)))⟩
    · rw [← Zpk hi ht hnin hh]
      have := h6.setHue hi' ht' (some (one + other - hu))
      simpa [Zg6, Zjr] using this
    · rw [Ze fun z => hy (by rw [z]; exact List.mem_map.2 ⟨t, ht, rfl⟩)]
      exact h7 y hy
theorem Zvv (hK : (KK P).In g.b0) (N : NN g) (M_open_hues : FnM g (KK P) CC "open_hues" 5 (Zqy CC)) (M_chain_from : FnM g (KK P) CC "chain_from" 5 (Zow CC)) : Xz g 6 (.ref 222) (Zs9 CC) := by
  refine Xz.mono (Z7 (r := 5) (ps := ["self", "left", "right", "many"]) (hK 222 _ rfl) rfl (Zt (hK 221 _ rfl) rfl rfl) rfl (by intro vs h; obtain ⟨a0, a1, a2, a3, rfl⟩ := Ztj h; rfl) rfl rfl rfl (by decide +kernel)
    (Zc (Zo (at_ (i := 4) rfl) rfl (Z3 Zf) (fun _ => rfl))
  (Zc (Wd (Z5 (Zz hK hC M_open_hues (Za (.head _) rfl) (Zb (Z6 (at_ (i := 8) rfl) (N.n_LEFT) (fun _ => Z8.mpr ⟨Yj (by decide), _, rfl⟩)) (Zb (Za (at_ (i := 1) rfl) rfl) (Zb (Za (at_ (i := 3) rfl) rfl) Zf))) rfl rfl rfl rfl)) (.name (at_ (i := 5) rfl) rfl) (Zc (Wd (Z5 (Zz hK hC M_open_hues (Za (.head _) rfl) (Zb (Z6 (at_ (i := 9) rfl) (N.n_RIGHT) (fun _ => Z8.mpr ⟨Yj (by decide), _, rfl⟩)) (Zb (Za (at_ (i := 2) rfl) rfl) (Zb (Za (at_ (i := 3) rfl) rfl) Zf))) rfl rfl rfl rfl)) (.name (at_ (i := 6) rfl) rfl) (Zc (Zo (at_ (i := 7) rfl) rfl (Zz hK hC M_chain_from (Za (.head _) rfl) (Zb (Z6 (at_ (i := 9) rfl) (N.n_RIGHT) (fun _ => Z8.mpr ⟨Yj (by decide), _, rfl⟩)) (Zb (Za (at_ (i := 2) rfl) rfl) (Zb (Za (at_ (i := 6) rfl) rfl) (Zb (Za (at_ (i := 5) rfl) rfl) Zf)))) rfl rfl rfl rfl) (fun _ => rfl))
  (Zc (Yz (Za6 (Za (at_ (i := 4) rfl) rfl) (Zb (Z0 (Zb (Zm (at_ (i := 10) rfl) (Z2 N.n_len Xi) (Zb (Za (at_ (i := 7) rfl) rfl) Zf) rfl) (Zb (Za (at_ (i := 5) rfl) rfl) (Zb (Za (at_ (i := 6) rfl) rfl) (Zb (Za (at_ (i := 7) rfl) rfl) Zf))))) Zf) rfl rfl rfl rfl) (fun _ => rfl))
  (Zc (Zo (at_ (i := 7) rfl) rfl (Zz hK hC M_chain_from (Za (.head _) rfl) (Zb (Z6 (at_ (i := 8) rfl) (N.n_LEFT) (fun _ => Z8.mpr ⟨Yj (by decide), _, rfl⟩)) (Zb (Za (at_ (i := 1) rfl) rfl) (Zb (Za (at_ (i := 5) rfl) rfl) (Zb (Za (at_ (i := 6) rfl) rfl) Zf)))) rfl rfl rfl rfl) (fun _ => rfl))
  (Zc (Yz (Za6 (Za (at_ (i := 4) rfl) rfl) (Zb (Z0 (Zb (Zm (at_ (i := 10) rfl) (Z2 N.n_len Xi) (Zb (Za (at_ (i := 7) rfl) rfl) Zf) rfl) (Zb (Za (at_ (i := 6) rfl) rfl) (Zb (Za (at_ (i := 5) rfl) rfl) (Zb (Za (at_ (i := 7) rfl) rfl) Zf))))) Zf) rfl rfl rfl rfl) (fun _ => rfl))
  Zh)))) (fun _ _ => rfl))
  Zh) (fun _ _ => rfl))
  (Zc (Zl (Za (at_ (i := 4) rfl) rfl))
  Zh)))) ?_
  rintro xs σ Q E ⟨x, D, l, r, m, rfl, H, hi, h64, hp, hm, hdis, h⟩
  refine Yy rfl fun K KE kret kend _ => ?_
  dsimp only [Loc.setAll]
  refine Zs fun K1 k1 => ?_
  dsimp only [Z4, Wx, Yl, List.length_nil]
  refine ⟨Yn rfl, fun b hb => k1 _ _ ?_⟩
  have w0 : Zr5 D.S l r m σ b (σ.set b (.list [])) [] := ⟨Zd, Sub.refl.new hb, fun t ht => absurd ht (by simp)⟩
  refine Zs fun K1 k1 => ?_
  dsimp only [Zlm, Zag, W6, Yl, Zy, Zq, Zn, Loc.set, String.reduceBEq, cond_true, cond_false, Y8]
  have H1 := H.sub w0.sub
  refine ⟨H1.instOf (by decide +kernel), x, D, false, l, m, rfl, H1, hi, h64, by exact Nat.le_trans hm (by decide), fun o1 ho1 => ?_⟩
  simp only [Zd]
  refine ⟨nofun, Zbr (fun xs ℓ σ' => ∀ P0 : Prop, (∀ (done rest : List Int) (es : List (Int × Int × Int × Addr)), (done ++ rest = Yi D.S false l m) → (xs = rest.map V.int) → (ℓ "self" = some (.ref x)) → (ℓ "left" = some (.int l)) → (ℓ "right" = some (.int r)) → (ℓ "many" = some (.int (m : Nat))) → (ℓ "found" = some (.ref b)) → (Zr5 D.S l r m σ b σ' es) → (σ' o1 = some (.list ((Yi D.S false l m).map V.int))) → ((∀ one ∈ done, ∀ two ∈ Yi D.S true r m, Znx es one two ∧ Znx es two one)) → (es.length ≤ 2 * (Yi D.S true r m).length * done.length) → P0) → P0) ?_ ?_
    (fun _ kI => kI ([]) (Yi D.S false l m) ([]) (rfl) (rfl) (rfl) (rfl) (rfl) (rfl) (rfl) (w0.keep ho1) (Zd) (fun _ h => absurd h (by simp)) (by simp))⟩
  · intro ℓ σ' hI0
    refine hI0 _ fun done rest es h1 h2 e1 e2 e3 e4 e5 W ho hg hl => ?_
    obtain rfl := Xr h2
    rw [List.append_nil] at h1
    subst h1
    refine ⟨ho, k1 _ _ ?_⟩
    refine Ye fun K2 r2 => ?_
    dsimp only [Zaz, Zn]
    simp only [e5]
    exact r2 _ _ _ (kret _ _ _ _ Sub.refl (h σ' b es W.sub hb W.fb (fun t ht => ⟨(W.way t ht).1, (W.way t ht).2.1⟩) hg))
  · intro v xs ℓ σ' K2 k2 r2 hI0
    refine hI0 _ fun done rest es h1 h2 e1 e2 e3 e4 e5 W ho hg hl => ?_
    obtain ⟨one, rest, rfl, rfl, rfl⟩ := Xa h2
    have hone : one ∈ Yi D.S false l m := by rw [← h1]; simp
    refine ⟨ho, ?_⟩
    dsimp only [Xs]
    refine Zs fun K3 k3 => ?_
    dsimp only [Zlm, Zag, W6, Yl, Zy, Zq, Zn, Loc.set, String.reduceBEq, cond_false, Y8]
    simp only [e1, e3, e4]
    have H2 := H.sub W.sub
    refine ⟨H2.instOf (by decide +kernel), x, D, true, r, m, rfl, H2, hi, h64, by exact Nat.le_trans hm (by decide), fun o2 ho2 => ?_⟩
    simp only [Zd]
    have hlD : done.length ≤ m := by
      have := congrArg List.length h1
      have := Ze1 (S := D.S) (s := false) (e := l) (m := m)
      simp at *; omega
    have hlT : (Yi D.S true r m).length ≤ m := Ze1
    refine ⟨nofun, Zbr (fun xs ℓ σ2 => ∀ P0 : Prop, (∀ (done2 rest2 : List Int) (fs : List (Int × Int × Int × Addr)), (done2 ++ rest2 = Yi D.S true r m) → (xs = rest2.map V.int) → (ℓ "self" = some (.ref x)) → (ℓ "left" = some (.int l)) → (ℓ "right" = some (.int r)) → (ℓ "many" = some (.int (m : Nat))) → (ℓ "found" = some (.ref b)) → (ℓ "one" = some (.int one)) → (Zr5 D.S l r m σ b σ2 fs) → (σ2 o1 = some (.list ((Yi D.S false l m).map V.int))) → (σ2 o2 = some (.list ((Yi D.S true r m).map V.int))) → ((∀ one ∈ done, ∀ two ∈ Yi D.S true r m, Znx fs one two ∧ Znx fs two one)) → ((∀ two ∈ done2, Znx fs one two ∧ Znx fs two one)) → (fs.length ≤ 2 * (Yi D.S true r m).length * done.length + 2 * done2.length) → P0) → P0) ?_ ?_
      (fun _ kI => kI ([]) (Yi D.S true r m) (es) (rfl) (rfl) (e1) (e2) (e3) (e4) (e5) (rfl) (W.keep ho2) (Zk ho ho2) (Zd) (hg) (fun _ h => absurd h (by simp)) (by simpa using hl))⟩
    · intro ℓ σ2 hI0
      refine hI0 _ fun done2 rest2 fs h3 h4 f1 f2 f3 f4 f5 f6 W2 ho3 ho4 hg2 hg3 hl2 => ?_
      obtain rfl := Xr h4
      rw [List.append_nil] at h3
      subst h3
      refine ⟨ho4, k3 _ _ (k2 _ _ (fun _ kI => kI (done ++ [one]) (rest) (fs) (by simpa using h1) (rfl) (f1) (f2) (f3) (f4) (f5) (W2) (ho3) (fun o hO two hT => ?_) (?_)))⟩
      · rcases List.mem_append.1 hO with q | q
        · exact hg2 o q two hT
        · rw [List.mem_singleton.1 q]; exact hg3 two hT
      · rw [List.length_append, List.length_singleton, Nat.mul_add]; exact Zzg hl2
    · intro v xs ℓ σ2 K4 k4 r4 hI0
      refine hI0 _ fun done2 rest2 fs h3 h4 f1 f2 f3 f4 f5 f6 W2 ho3 ho4 hg2 hg3 hl2 => ?_
      obtain ⟨two, rest2, rfl, rfl, rfl⟩ := Xa h4
      have htwo : two ∈ Yi D.S true r m := by rw [← h3]; simp
      have hne : two ≠ one := fun z => hdis one hone (z ▸ htwo)
      have hlen2 : fs.length ≤ 2 * m * m + 2 * m := by
        have h5 : done2.length ≤ m := by have := congrArg List.length h3; simp at this; exact Zzf hlT this
        have h6 : 2 * (Yi D.S true r m).length * done.length ≤ 2 * m * m := Nat.mul_le_mul (by exact Zze hlT) hlD
        exact Zzd hl2 h5 h6
      have hmm : 2 * m * m ≤ 2 * 100 * 100 := Nat.mul_le_mul (by exact Zzc hm) hm
      refine ⟨ho4, ?_⟩
      dsimp only [Xs]
      have H3 := H.sub W2.sub
      refine Zs fun K5 k5 => ?_
      dsimp only [Z4, Yl, Zy, Zq, Zn, Loc.set, String.reduceBEq, cond_true, cond_false, Y8]
      simp only [f1, f3, f6]
      refine ⟨H3.instOf (by decide +kernel), x, D, true, r, two, one, rfl, H3, hi, h64, hp, (Xw.1 htwo).2, hne, fun c1 ch1 hp1 hd1 hc1 => k5 _ _ ?_⟩
      have c1b : b ≠ c1 := fun z => by rw [← z, W2.fb] at hc1; cases hc1
      have W3 := W2.add hb hc1 ch1 (s := true) (hue := one) (other := two) hone htwo hp1 hd1
      refine Zs fun K5 k5 => ?_
      dsimp only [tDo, Xd, Ziu, Wy, Yk, Zhz, Ziv, Ww, Yl, Zy, Zn, Loc.set, String.reduceBEq, cond_true, cond_false, List.length_cons, List.length_nil]
      simp only [f5, f6, Zd, List.length_map, Ze c1b, W2.fb]
      refine ⟨trivial, Yn rfl, by simp [Y3]; exact Zzb hm hlen2 hmm, k5 _ _ ?_⟩
      have hq1 : (fs.map Zka ++ [V.tup [V.int (ch1.length : Int), V.int one, V.int two, V.ref c1]]) = (fs ++ [((ch1.length : Int), one, two, c1)]).map Zka := by simp [Zka]
      rw [hq1]
      generalize hσ3 : (σ2.set c1 (.list (ch1.map fun x => V.int x.n))).set b (.list ((fs ++ [((ch1.length : Int), one, two, c1)]).map Zka)) = σ3 at W3 ⊢
      have ob1 : o1 ≠ b := fun z => by rw [z, W2.fb] at ho3; injection ho3 with ho3; injection ho3 with ho3; rw [z, Zd] at ho1; cases ho1
      have ob2 : o2 ≠ b := fun z => by rw [z, W.fb] at ho2; cases ho2
      have go1 : σ3 o1 = some (.list ((Yi D.S false l m).map V.int)) := by rw [← hσ3, Ze ob1]; exact Zk ho3 hc1
      have go2 : σ3 o2 = some (.list ((Yi D.S true r m).map V.int)) := by rw [← hσ3, Ze ob2]; exact Zk ho4 hc1
      have H4 := H.sub W3.sub
      refine Zs fun K5 k5 => ?_
      dsimp only [Z4, Yl, Zy, Zq, Zn, Loc.set, String.reduceBEq, cond_true, cond_false, Y8]
      simp only [f1, f2, f6]
      refine ⟨H4.instOf (by decide +kernel), x, D, false, l, one, two, rfl, H4, hi, h64, hp, (Xw.1 hone).2, Ne.symm hne, fun c2 ch2 hp2 hd2 hc2 => k5 _ _ ?_⟩
      have c2b : b ≠ c2 := fun z => by rw [← z, W3.fb] at hc2; cases hc2
      have W4 := W3.add hb hc2 ch2 (s := false) (hue := two) (other := one) htwo hone hp2 hd2
      refine Zs fun K5 k5 => ?_
      dsimp only [tDo, Xd, Ziu, Wy, Yk, Zhz, Ziv, Ww, Yl, Zy, Zn, Loc.set, String.reduceBEq, cond_true, cond_false, List.length_cons, List.length_nil]
      simp only [f5, f6, Zd, List.length_map, Ze c2b, W3.fb]
      refine ⟨trivial, Yn rfl, by simp [Y3]; exact Zza hm hlen2 hmm, k5 _ _ (k4 _ _ ?_)⟩
      have hq2 : ((fs ++ [((ch1.length : Int), one, two, c1)]).map Zka ++ [V.tup [V.int (ch2.length : Int), V.int two, V.int one, V.ref c2]]) = ((fs ++ [((ch1.length : Int), one, two, c1)]) ++ [((ch2.length : Int), two, one, c2)]).map Zka := by simp [Zka]
      rw [hq2]
      refine (fun _ kI => kI (done2 ++ [two]) (rest2) (_) (by simpa using h3) (rfl) (f1) (f2) (f3) (f4) (f5) (f6) (W4) (?_) (?_) (fun o hO t hT => ⟨(hg2 o hO t hT).1.more.more, (hg2 o hO t hT).2.more.more⟩) (fun t hT => ?_) (?_))
      · rw [Ze ob1]; exact Zk go1 hc2
      · rw [Ze ob2]; exact Zk go2 hc2
      · rcases List.mem_append.1 hT with q | q
        · exact ⟨(hg3 t q).1.more.more, (hg3 t q).2.more.more⟩
        · rw [List.mem_singleton.1 q]
          exact ⟨⟨((ch1.length : Int), one, two, c1), by simp, rfl, rfl⟩, ⟨((ch2.length : Int), two, one, c2), by simp, rfl, rfl⟩⟩
      · simp only [List.length_append, List.length_singleton]; exact Zy9 hl2
end
section
open PySem PySem.W PyProof.Rows
variable {g : Gr} {P : Params}
theorem Zvz (hK : (KK P).In g.b0) (N : NN g) (M_open_hues : FnM g (KK P) CC "open_hues" 6 (Zqy CC)) (M_ways : FnM g (KK P) CC "ways" 6 (Zs9 CC)) (M_turn : FnM g (KK P) CC "turn" 6 (Zta CC)) : Xz g 7 (.ref 227) (Zqz CC) := by
  refine Xz.mono (Z7 (r := 6) (ps := ["self", "number", "left", "right", "many"]) (hK 227 _ rfl) rfl (Zt (hK 226 _ rfl) rfl rfl) rfl (by intro vs h; obtain ⟨a0, a1, a2, a3, a4, rfl⟩ := Z2r h; rfl) rfl rfl rfl (by decide +kernel)
    (Zc (Zah (Yd hK hC CF.a_rows rfl rfl (Za (.head _) rfl)) (Za (at_ (i := 1) rfl) rfl) (Z3 (Zb (Za (at_ (i := 2) rfl) rfl) (Zb (Za (at_ (i := 3) rfl) rfl) (Zb Za2 Zf)))) (fun _ => rfl))
  (Zc (X9 (at_ (i := 6) rfl) rfl (by decide +kernel) (Z5 (Zz hK hC M_open_hues (Za (.head _) rfl) (Zb (Z6 (at_ (i := 10) rfl) (N.n_LEFT) (fun _ => Z8.mpr ⟨Yj (by decide), _, rfl⟩)) (Zb (Za (at_ (i := 2) rfl) rfl) (Zb (Za (at_ (i := 4) rfl) rfl) Zf))) rfl rfl rfl rfl)) (.name (at_ (i := 1) rfl) rfl) (by decide +kernel) (Zd5 (Yb (Za (at_ (i := 1) rfl) rfl) (Zz hK hC M_open_hues (Za (at_ (i := 5) rfl) rfl) (Zb (Z6 (at_ (i := 2) rfl) (N.n_RIGHT) (fun _ => Z8.mpr ⟨Yj (by decide), _, rfl⟩)) (Zb (Za (at_ (i := 4) rfl) rfl) (Zb (Za (at_ (i := 3) rfl) rfl) Zf))) rfl rfl rfl rfl) rfl)) (Za (at_ (i := 1) rfl) rfl) (fun _ _ => rfl))
  (Zc (Ys (Yb (Za (at_ (i := 6) rfl) rfl) (Z3 Zf) rfl) (Zc (Zah (Zj (Yd hK hC CF.a_rows rfl rfl (Za (.head _) rfl)) (Za (at_ (i := 1) rfl) rfl) (fun _ _ => rfl)) Zg (Zj (Za (at_ (i := 6) rfl) rfl) Zg (fun _ _ => rfl)) (fun _ => rfl))
  (Zc (Zl (Z0 (Zb (Za (at_ (i := 1) rfl) rfl) (Zb (Zj (Za (at_ (i := 6) rfl) rfl) Zg (fun _ _ => rfl)) (Zb Za2 (Zb (Z3 Zf) Zf))))))
  Zh)) Zh)
  (Zc (Zbm (.cons (at_ (i := 7) rfl) rfl (.cons (at_ (i := 5) rfl) rfl (.cons (at_ (i := 8) rfl) rfl (.cons (at_ (i := 9) rfl) rfl .nil)))) (Zm (at_ (i := 11) rfl) (Z2 N.n_min Zof) (Zb (Zz hK hC M_ways (Za (.head _) rfl) (Zb (Za (at_ (i := 2) rfl) rfl) (Zb (Za (at_ (i := 3) rfl) rfl) (Zb (Za (at_ (i := 4) rfl) rfl) Zf))) rfl rfl rfl rfl) Zf) rfl) (fun _ => rfl) (fun _ => rfl))
  (Zc (Yz (Zz hK hC M_turn (Za (.head _) rfl) (Zb (Za (at_ (i := 9) rfl) rfl) (Zb (Za (at_ (i := 5) rfl) rfl) (Zb (Za (at_ (i := 8) rfl) rfl) Zf))) rfl rfl rfl rfl) (fun _ => rfl))
  (Zc (Zah (Zj (Yd hK hC CF.a_rows rfl rfl (Za (.head _) rfl)) (Za (at_ (i := 1) rfl) rfl) (fun _ _ => rfl)) Zg (Za (at_ (i := 5) rfl) rfl) (fun _ => rfl))
  (Zc (Zl (Z0 (Zb (Za (at_ (i := 1) rfl) rfl) (Zb (Za (at_ (i := 5) rfl) rfl) (Zb (Za (at_ (i := 8) rfl) rfl) (Zb (Zm (at_ (i := 12) rfl) (Zan N.n_list Zi3) (Zb (Za (at_ (i := 9) rfl) rfl) Zf) rfl) Zf))))))
  Zh)))))))) ?_
  rintro xs σ Q E ⟨x, D, t, m, rfl, ht, H, hi, h64, hm, hp0, hdl, hdr, h⟩
  refine Yy rfl fun K KE kret kend _ => ?_
  dsimp only [Loc.setAll]
  refine Yp fun K1 k1 r1 => ?_
  dsimp only [Wx, Yl, Zy, Zq, Zn, Loc.set, String.reduceBEq, cond_true, cond_false, List.length_cons, List.length_nil, Zbh, Zc3]
  refine ⟨Yn rfl, fun p hp => ?_⟩
  have H0 := H.sub (Sub.refl.new (o := .list [V.int t.1.l, V.int t.1.r, V.none]) hp)
  simp only [H0.rowsA]
  obtain ⟨e0, er0⟩ := H0.rows
  simp only [Zca, er0]
  refine ⟨_, rfl, by simp [Y3]; exact Nat.le_of_lt (Nat.lt_of_lt_of_le h64 (by decide)), fun ep => k1 _ _ ?_⟩
  have H1 := H.renew hi ht hp ep
  generalize hσ1 : (σ.set p (.list [V.int t.1.l, V.int t.1.r, V.none])).set D.rd (.dictI (Zfb (D.T.map fun t => (t.1.n, V.ref t.2)) t.1.n (.ref p)) ep) = σ1 at H1
  generalize hD1 : D.renew t.1.n p = D1 at H1
  have hS1 : D1.S = D.S.map (Wk t.1.n none) := by rw [← hD1]; exact HD.renew_S
  rw [← hS1] at hp0 h
  have hi1 : Inc D1.S := by rw [hS1]; exact Za9 (fun _ => Xv) hi
  have h641 : D1.T.length < 64 := by rw [← hD1]; simpa [HD.renew] using h64
  have ht1 : (Wk t.1.n none t.1, p) ∈ D1.T := by rw [← hD1]; exact Zox ht rfl
  have prow : (Wk t.1.n none t.1).n = t.1.n ∧ (Wk t.1.n none t.1).l = t.1.l ∧ (Wk t.1.n none t.1).r = t.1.r ∧ (Wk t.1.n none t.1).h = none := by unfold Wk; rw [if_pos rfl]; exact ⟨rfl, rfl, rfl, rfl⟩
  have hxS : Wk t.1.n none t.1 ∈ D1.S := List.mem_map.2 ⟨_, ht1, rfl⟩
  have sm1 : D1.a = D.a ∧ D1.b = D.b ∧ D1.nx = D.nx ∧ D1.d = D.d ∧ D1.rd = D.rd := by rw [← hD1]; exact ⟨rfl, rfl, rfl, rfl, rfl⟩
  have keep1 : ∀ y o, σ y = some o → ¬ D.foot y → σ1 y = some o := fun y o q nf => by
    rw [← hσ1, Ze fun z => nf (.inr (.inl z))]
    exact Zk q hp
  have addr1 : ∀ y, y ∈ D1.T.map (·.2) → y = p ∨ y ∈ D.T.map (·.2) := fun y q => Zm4 (by rw [hD1]; exact q)
  have fr1 : ∀ {T' : List (Rw × Addr)}, T'.map (·.2) = D1.T.map (·.2) → ∀ y, HD.foot { D1 with T := T' } y → D.foot y ∨ σ y = none := fun {T'} hT y q => by
    rcases q with q | q | q
    · exact .inl (.inl (q.trans sm1.2.2.2.1))
    · exact .inl (.inr (.inl (q.trans sm1.2.2.2.2)))
    · have q : y ∈ T'.map (·.2) := q
      rw [hT] at q
      rcases addr1 y q with w | w
      · exact .inr (by rw [w]; exact hp)
      · exact .inl (.inr (.inr w))
  have some1 : ∀ y, σ y ≠ none → σ1 y ≠ none := fun y q => by
    cases e : σ y with
    | none => exact absurd e q
    | some o =>
      rw [← hσ1]
      by_cases z : y = D.rd
      · rw [z, Zd]; simp
      · rw [Ze z, Zk e hp]; simp
  have none1 : ∀ y, σ1 y = none → σ y = none := fun y q => by
    cases e : σ y with
    | none => rfl
    | some o => exact absurd q (some1 y (by rw [e]; simp))
  have hdeg : ∀ s, deg D1.S s (Zdd t.1.l t.1.r s) ≤ m := fun s => by
    rw [hS1, Ztt fun _ _ => Zg8]
    cases s with
    | false => exact hdl
    | true => exact hdr
  have hopen : ∀ s, ∃ hu, hu ∈ Yi D1.S s (Zdd t.1.l t.1.r s) m := fun s => by
    obtain ⟨hu, a, b, c⟩ := Zk5 (hdeg s) ⟨_, hxS, by cases s <;> simp [Rw.e, Zdd, prow], prow.2.2.2⟩
    exact ⟨hu, Xw.2 ⟨⟨a, b⟩, c⟩⟩
  refine Yp fun K1 k1 r1 => ?_
  dsimp only [Wo, Zag, W6, Zau, Yl, Zy, Zq, Zn, Loc.set, String.reduceBEq, cond_true, cond_false, Y8]
  refine ⟨H1.instOf (by decide +kernel), x, D1, false, t.1.l, m, rfl, H1, hi1, h641, by exact Nat.le_trans hm (by decide), fun o1 ho1 => ?_⟩
  simp only [Zd]
  have s2 : Sub σ1 (σ1.set o1 (.list ((Yi D1.S false t.1.l m).map V.int))) := Sub.refl.new ho1
  refine ⟨nofun, Zbe V.int (fun hu => decide (hu ∈ Yi D1.S true t.1.r m)) V.int (Yi D1.S false t.1.l m) (fun σ' hs => hs _ _ Zd) (fun hu _ σ3 s3 => ⟨_, fun P h => h, fun Qb hQ => ?_, fun _ σ4 s4 Qv hQ => ?_⟩) fun σ3 s3 d hd => ?_⟩
  · dsimp only [Yl, Zy, Zq, Zn, Wn, Zax, Loc.set, Loc.bare, String.reduceBEq, cond_true, cond_false, Y8]
    have H3 := H1.sub (s2.trans s3)
    refine ⟨H3.instOf (by decide +kernel), x, D1, true, t.1.r, m, rfl, H3, hi1, h641, by exact Nat.le_trans hm (by decide), fun o2 ho2 => ?_⟩
    exact Zrm Zd (hQ _ (Sub.refl.new ho2))
  · dsimp only [Zn, Loc.set, Loc.bare, String.reduceBEq, cond_true, cond_false]
    exact hQ _ Sub.refl
  generalize hboth : (Yi D1.S false t.1.l m).filter (fun hu => decide (hu ∈ Yi D1.S true t.1.r m)) = both at hd ⊢
  have s4 : Sub σ1 (σ3.set d (.list (both.map V.int))) := (s2.trans s3).new hd
  have hd1 : σ1 d = none := (s2.trans s3).none hd
  refine k1 _ _ ?_
  refine Yp fun K1 k1 r1 => ?_
  dsimp only [Zat, Zi1, Wx, Yl, Zn, Wn, Zax, Loc.set, String.reduceBEq, cond_true, cond_false, List.length_nil]
  refine ⟨Yn rfl, fun e he => ?_⟩
  have s5 : Sub σ1 ((σ3.set d (.list (both.map V.int))).set e (.list [])) := s4.new he
  have hbe : ((σ3.set d (.list (both.map V.int))).set e (.list [])) d = some (.list (both.map V.int)) := Zk Zd he
  refine Zru (ns := both) (ms := []) hbe Zd ?_
  generalize hσ5 : (σ3.set d (.list (both.map V.int))).set e (.list []) = σ5 at s5 hbe
  have H5 := H1.sub s5
  cases both with
  | cons hu both =>
    have hbn : ((hu :: both) == ([] : List Int)) = false := rfl
    simp only [hbn, Bool.not_false]
    have hmem : hu ∈ Yi D1.S false t.1.l m ∧ hu ∈ Yi D1.S true t.1.r m := by
      have : hu ∈ (Yi D1.S false t.1.l m).filter (fun hu => decide (hu ∈ Yi D1.S true t.1.r m)) := by rw [hboth]; simp
      simpa using List.mem_filter.1 this
    refine Yp fun K2 k2 r2 => ?_
    dsimp only [Zq, Zn, Y4, Loc.set, String.reduceBEq, cond_true, cond_false, Zbh, Zc3]
    have hit : ∀ (Q : V → Prop), Q (.ref p) → Za8 (.ref D1.rd) (.int t.1.n) σ5 Q := fun Q hQ => by
      have := H5.item hi1 ht1 (Q := Q) hQ
      rw [prow.1] at this; exact this
    refine Zdt hbe (Wj (by decide) rfl) ?_
    simp only [H5.rowsA]
    refine hit _ ?_
    simp only [Zca, H5.row _ ht1]
    refine ⟨2, rfl, by simp [Zg6], k2 _ _ ?_⟩
    have H6 := H5.setHue hi1 ht1 (some hu)
    have hrow : ((Zg6 (Wk t.1.n none t.1)).set 2 (V.int hu)) = Zg6 { Wk t.1.n none t.1 with h := some hu } := by simp [Zg6, Zjr]
    rw [hrow]
    rw [prow.1] at H6
    have dp : d ≠ p := fun z => by have := H1.row _ ht1; rw [← z, hd1] at this; cases this
    have hbd : (σ5.set p (.list (Zg6 { Wk t.1.n none t.1 with h := some hu }))) d = some (.list ((hu :: both).map V.int)) := by rw [Ze dp]; exact hbe
    generalize hσ6 : σ5.set p (.list (Zg6 { Wk t.1.n none t.1 with h := some hu })) = σ6 at H6 hbd
    refine Ye fun K2 r2 => ?_
    dsimp only [Zaz, Wx, Ww, Yl, Zy, Zq, Zn, Y4, Loc.set, String.reduceBEq, cond_true, cond_false, List.length_cons, List.length_nil]
    refine Zdt hbd (Wj (by decide) rfl) ?_
    refine ⟨Yn rfl, fun c hc => ⟨Yn rfl, r2 _ _ _ (r1 _ _ _ (kret _ _ _ _ Sub.refl ?_))⟩⟩
    have keep6 : ∀ y o, σ y = some o → ¬ D.foot y → σ6 y = some o := fun y o q nf => by
      rw [← hσ6, Ze fun z => by rw [z, hp] at q; cases q]
      exact s5 _ _ (keep1 y o q nf)
    have none6 : ∀ y, σ6 y = none → σ1 y = none := fun y q => by
      rw [← hσ6] at q
      by_cases z : y = p
      · rw [z, Zd] at q; cases q
      · rw [Ze z] at q; exact s5.none q
    refine h (σ6.set c (.list [])) (D1.put t.1.n (some hu)) hu none [] c (H6.sub (Sub.refl.new hc)) ⟨fun y o q nf => Zk (keep6 y o q nf) hc, fr1 Zdy, ⟨sm1.1, sm1.2.1, sm1.2.2.1⟩, fun y q => none1 y (none6 y ((Sub.refl.new hc).none q))⟩ (.inl rfl rfl hmem.1 hmem.2 Zmn (by rw [hboth]; rfl)) (none1 c (none6 c hc)) (fun q => ?_) Zd
    rcases q with q | q | q
    · have := H6.attrs; rw [← q, hc] at this; cases this
    · obtain ⟨_, this⟩ := H6.rows; rw [← q, hc] at this; cases this
    · obtain ⟨u, hu', rfl⟩ := List.mem_map.1 q
      have := H6.row u hu'; rw [hc] at this; cases this
  | nil =>
    have hdis : ∀ hu ∈ Yi D1.S false t.1.l m, hu ∉ Yi D1.S true t.1.r m := fun hu h1 h2 => by
      have : hu ∈ (Yi D1.S false t.1.l m).filter (fun hu => decide (hu ∈ Yi D1.S true t.1.r m)) := List.mem_filter.2 ⟨h1, by simpa using h2⟩
      rw [hboth] at this; cases this
    simp only [BEq.rfl, Bool.not_true]
    refine k1 _ _ ?_
    refine Yp fun K1 k1 r1 => ?_
    dsimp only [Zd3, Yk, Yl, Zy, Zn, Loc.set, Xs, String.reduceBEq, cond_true, cond_false, List.length_cons, List.length_nil, Y8]
    refine ⟨H5.instOf (by decide +kernel), x, D1, t.1.l, t.1.r, m, rfl, H5, hi1, h641, hp0, hm, hdis, fun σ6 w es s6 hw5 hw6 hways hgot => ?_⟩
    have hes : es ≠ [] := by
      obtain ⟨a, ha⟩ := hopen false
      obtain ⟨b, hb⟩ := hopen true
      obtain ⟨⟨q, hq, _⟩, _⟩ := hgot a ha b hb
      intro z; rw [z] at hq; cases hq
    have uniq : ∀ q ∈ es, ∀ q' ∈ es, q.2.1 = q'.2.1 → q.2.2.1 = q'.2.2.1 → ∀ {s s' c c'}, q.2.1 ∈ Yi D1.S (!s) (Zdd t.1.l t.1.r (!s)) m → q.2.2.1 ∈ Yi D1.S s (Zdd t.1.l t.1.r s) m → Zb3 D1.S s (Zdd t.1.l t.1.r s) q.2.2.1 q.2.1 c → Zef D1.S s (Zdd t.1.l t.1.r s) q.2.2.1 q.2.1 c →
        q'.2.1 ∈ Yi D1.S (!s') (Zdd t.1.l t.1.r (!s')) m → q'.2.2.1 ∈ Yi D1.S s' (Zdd t.1.l t.1.r s') m → Zb3 D1.S s' (Zdd t.1.l t.1.r s') q'.2.2.1 q'.2.1 c' → Zef D1.S s' (Zdd t.1.l t.1.r s') q'.2.2.1 q'.2.1 c' → c = c' := by
      intro q _ q' _ z1 z2 s s' c c' a1 a2 a3 a4 b1 b2 b3 b4
      rw [← z1, ← z2] at b3 b4
      rw [← z1] at b1
      rw [← z2] at b2
      have hs : s = s' := by
        cases s <;> cases s'
        · rfl
        · exact absurd a1 (hdis _ b1)
        · exact absurd b1 (hdis _ a1)
        · rfl
      subst hs
      exact a3.unique hp0 hi1 a4 b3 b4
    refine ⟨w, es, rfl, hw6, hes, fun q hq => ?_, fun q hq hmin => ?_⟩
    · obtain ⟨⟨s, c, z1, z2, z3, z4, z5, z6⟩, _⟩ := hways q hq
      refine ⟨c.map Rw.n, by rw [z2, List.map_map]; rfl, fun q' hq' htri => ?_⟩
      obtain ⟨⟨s', c', y1, y2, y3, y4, y5, y6⟩, _⟩ := hways q' hq'
      simp only [tri, Prod.mk.injEq] at htri
      have := uniq q hq q' hq' htri.2.1 htri.2.2 z3 z4 z5 z6 y3 y4 y5 y6
      subst this
      rw [y2, List.map_map]; rfl
    · obtain ⟨⟨s, ch, z1, z2, z3, z4, z5, z6⟩, zc⟩ := hways q hq
      obtain ⟨ql, qh, qo, qc⟩ := q
      simp only at z1 z2 z3 z4 z5 z6 zc
      simp only [Zka, Zci]
      refine ⟨rfl, ?_⟩
      dsimp only [Loc.setAll]
      refine k1 _ _ ?_
      have H6 := H5.sub s6
      have hne := Zic hdis z3 z4
      have hfr := (Xw.1 z4).2
      have z2' : σ6 qc = some (.list ((ch.map Rw.n).map V.int)) := by rw [z2, List.map_map]; rfl
      have knot : t.1.n ∉ ch.map Rw.n := fun q => by
        obtain ⟨i, e⟩ := z5.at hi1 hxS (by rw [prow.1]; exact q)
        have := z5.hue i _ e
        rw [prow.2.2.2] at this; cases this
      have qcT : qc ∉ D1.T.map (·.2) := fun q => by
        obtain ⟨u, hu, z⟩ := List.mem_map.1 q
        have := H5.row u hu
        rw [z, zc] at this; cases this
      refine Yp fun K1 k1 r1 => ?_
      dsimp only [tDo, Yl, Zy, Zn, Loc.set, String.reduceBEq, cond_true, cond_false, Y8]
      refine ⟨H6.instOf (by decide +kernel), x, D1, qc, ch.map Rw.n, qh, qo, rfl, H6, hi1, z2', qcT, z5.nodup hp0 hi1 hne hfr, fun k hk => ?_, fun σ7 H7 same7 => k1 _ _ ?_⟩
      · obtain ⟨y, hy, rfl⟩ := List.mem_map.1 hk
        obtain ⟨u, hu, rfl⟩ := Ztg (z5.mem y hy)
        obtain ⟨i, hil, ei⟩ := List.getElem_of_mem hy
        exact ⟨u, hu, rfl, _, z5.hue i u.1 (by rw [List.getElem?_eq_getElem hil, ei])⟩
      · have hi7 : Inc (D1.flip (ch.map Rw.n) qh qo).S := Zl5 hi1
        have ht7 : (Wk t.1.n none t.1, p) ∈ (D1.flip (ch.map Rw.n) qh qo).T := List.mem_map.2 ⟨_, ht1, by rw [Xm (by rw [prow.1]; exact knot)]⟩
        refine Yp fun K1 k1 r1 => ?_
        dsimp only [Zq, Zn, Y4, Loc.set, String.reduceBEq, cond_true, cond_false, Zbh, Zc3]
        simp only [H7.rowsA]
        have hit : ∀ (Q : V → Prop), Q (.ref p) → Za8 (.ref (D1.flip (ch.map Rw.n) qh qo).rd) (.int t.1.n) σ7 Q := fun Q hQ => by
          have := H7.item hi7 ht7 (Q := Q) hQ
          rw [prow.1] at this; exact this
        refine hit _ ?_
        simp only [Zca, H7.row _ ht7]
        refine ⟨2, rfl, by simp [Zg6], k1 _ _ ?_⟩
        have H8 := H7.setHue hi7 ht7 (some qh)
        have hrow : ((Zg6 (Wk t.1.n none t.1)).set 2 (V.int qh)) = Zg6 { Wk t.1.n none t.1 with h := some qh } := by simp [Zg6, Zjr]
        rw [hrow]
        rw [prow.1] at H8
        have qcp : qc ≠ p := fun z => qcT (List.mem_map.2 ⟨_, ht1, z.symm⟩)
        have g8 : (σ7.set p (.list (Zg6 { Wk t.1.n none t.1 with h := some qh }))) qc = some (.list ((ch.map Rw.n).map V.int)) := by rw [Ze qcp, same7 qc qcT]; exact z2'
        generalize hσ8 : σ7.set p (.list (Zg6 { Wk t.1.n none t.1 with h := some qh })) = σ8 at H8 g8
        refine Ye fun K1 r1 => ?_
        dsimp only [Zaz, Yk, Zhy, Ww, Yl, Zy, Zn, Loc.set, String.reduceBEq, cond_true, cond_false, List.length_cons, List.length_nil]
        simp only [Zci, g8]
        refine fun c hc => ⟨Yn rfl, r1 _ _ _ (kret _ _ _ _ Sub.refl ?_)⟩
        have keep8 : ∀ y o, σ y = some o → ¬ D.foot y → σ8 y = some o := fun y o q nf => by
          have yT : y ∉ D1.T.map (·.2) := fun z => by
            rcases addr1 y z with w | w
            · rw [w, hp] at q; cases q
            · exact nf (.inr (.inr w))
          rw [← hσ8, Ze (fun z => by rw [z, hp] at q; cases q), same7 y yT]
          exact s6 _ _ (s5 _ _ (keep1 y o q nf))
        have none8 : ∀ y, σ8 y = none → σ1 y = none := fun y q => by
          rw [← hσ8] at q
          by_cases z : y = p
          · rw [z, Zd] at q; cases q
          · rw [Ze z] at q
            by_cases yT : y ∈ D1.T.map (·.2)
            · obtain ⟨u, hu, rfl⟩ := List.mem_map.1 yT
              have : (Zal (ch.map Rw.n) qh qo u.1, u.2) ∈ (D1.flip (ch.map Rw.n) qh qo).T := List.mem_map.2 ⟨u, hu, rfl⟩
              have := H7.row _ this
              rw [q] at this; cases this
            · rw [same7 y yT] at q; exact s5.none (s6.none q)
        refine h (σ8.set c (.list ((ch.map Rw.n).map V.int))) ((D1.flip (ch.map Rw.n) qh qo).put t.1.n (some qh)) qh (some qo) (ch.map Rw.n) c (H8.sub (Sub.refl.new hc)) ⟨fun y o q nf => Zk (keep8 y o q nf) hc, fr1 (Zdy.trans HD.flip_addr), ⟨sm1.1, sm1.2.1, sm1.2.2.1⟩, fun y q => none1 y (none8 y ((Sub.refl.new hc).none q))⟩ (.inr hdis qo s ch rfl rfl z3 z4 z5 z6 ?_ ?_) (none1 c (none8 c hc)) (fun q => ?_) Zd
        · rw [Zmn, Zj9]; rfl
        · intro s' hue' o' ch' y3 y4 y5 y6
          have hg : Znx es hue' o' := by
            cases s' with
            | false => exact (hgot o' y4 hue' y3).2
            | true => exact (hgot hue' y3 o' y4).1
          obtain ⟨q', hq', rfl, rfl⟩ := hg
          obtain ⟨⟨s'', c'', x1, x2, x3, x4, x5, x6⟩, _⟩ := hways q' hq'
          have := uniq q' hq' q' hq' rfl rfl x3 x4 x5 x6 y3 y4 y5 y6
          subst this
          have := hmin q' hq'
          simp only [tri, x1, z1] at this
          exact this
        · rcases q with q | q | q
          · have := H8.attrs; rw [← q, hc] at this; cases this
          · obtain ⟨_, this⟩ := H8.rows; rw [← q, hc] at this; cases this
          · obtain ⟨u, hu', rfl⟩ := List.mem_map.1 q
            have := H8.row u hu'; rw [hc] at this; cases this
end
section
open PySem PySem.W PyProof.Rows
variable {g : Gr} {P : Params}
noncomputable abbrev CB : Addr := 68
noncomputable abbrev CT : Addr := 80
noncomputable abbrev CX : Addr := 44
noncomputable abbrev CP : Addr := 92
theorem Znh (hK : (KK P).In g.b0) (N : NN g) (hX_BadEnd : Znv g CB) (F_is_number : FnG g "is_number" 2 Zi8) : Xz g 3 (.ref 165) (Zfr CC CB) := by
  refine Xz.mono (Z7 (r := 2) (ps := ["self", "side", "end"]) (hK 165 _ rfl) rfl (Zt (hK 164 _ rfl) rfl rfl) rfl (by intro vs h; obtain ⟨a0, a1, a2, rfl⟩ := Zsm h; rfl) rfl rfl rfl (by decide +kernel)
    (Zc (Ys (Y6 (Xq (Zae (We (Zm (at_ (i := 3) rfl) F_is_number (Zb (Za (at_ (i := 2) rfl) rfl) Zf) rfl) (fun _ _ => rfl))) (Xq (Zae (Zfo Zg (Za (at_ (i := 2) rfl) rfl) (Zj (Yd hK hC CF.a_sizes rfl rfl (Za (.head _) rfl)) (Za (at_ (i := 1) rfl) rfl) (fun _ _ => rfl)) rfl)) Wa))) (Zc (Ws (at_ (i := 4) rfl) (N.n_BadEnd) hX_BadEnd (Zb (Zw (Yj (by decide))) Zf) rfl)
  Zh) Zh)
  Zh)) ?_
  rintro xs σ Q E ⟨x, D, s, v, b, rfl, H, hn, hq, he⟩
  refine Yy rfl fun K KE kret kend kexc => ?_
  dsimp only [Loc.setAll]
  refine Zs fun K1 k1 => ?_
  have bad : okE (Zgn D.a D.b s) v = false → ∀ ℓ' : Loc, KE CB ℓ' σ := fun h ℓ' => kexc _ _ _ _ Sub.refl (he h)
  have fine : okE (Zgn D.a D.b s) v = true → ∀ ℓ' : Loc, K1 .next ℓ' σ := fun h ℓ' => k1 _ _ (by dsimp only [Zat]; exact kend _ _ _ Sub.refl (hq h))
  dsimp only [Zat, Zi1, Yk, Yl, Zy, Zq, Zn, Zdg, Wl, Zi0, Zsg, Xo, Zlo, Zax, Y4, Loc.set, String.reduceBEq, cond_true, cond_false, Zbh, Zi8]
  refine ⟨v, b, rfl, hn, ?_⟩
  cases v with
  | int e =>
    cases hn
    simp only [Bool.not_true]
    by_cases h0 : 0 ≤ e
    · simp only [decide_eq_true h0, H.sizesA]
      refine H.size s ?_
      by_cases h1 : e < Zgn D.a D.b s
      · simp only [decide_eq_true h1, Bool.not_true]
        exact fine (by simp [okE, h0, h1]) _
      · simp only [decide_eq_false h1, Bool.not_false]
        exact ⟨by simp, bad (by simp [okE, h1]) _⟩
    · simp only [decide_eq_false h0, Bool.not_false]
      exact ⟨by simp, bad (by simp [okE, h0]) _⟩
  | ref a =>
    have eb : b = false := by
      simp only [nrS] at hn
      split at hn
      · cases hn; rfl
      · cases hn; rfl
      · cases hn
    subst eb
    exact ⟨by simp, bad rfl _⟩
  | frz _ => cases hn
  | _ => cases hn; exact ⟨by simp, bad rfl _⟩
theorem Zvy (hK : (KK P).In g.b0) (N : NN g) (hX_BadCount : Znv g CX) (F_is_number : FnG g "is_number" 2 Zi8) : Xz g 3 (.ref 158) (Zls CC CX) := by
  refine Xz.mono (Z7 (r := 2) (ps := ["self", "lefts", "rights"]) (hK 158 _ rfl) rfl (Zt (hK 157 _ rfl) rfl rfl) rfl (by intro vs h; obtain ⟨a0, a1, a2, rfl⟩ := Zsm h; rfl) rfl rfl rfl (by decide +kernel)
    (Zc (Wd (Z5 (Z0 (Zb (Za (at_ (i := 1) rfl) rfl) (Zb (Za (at_ (i := 2) rfl) rfl) Zf)))) (.name (at_ (i := 3) rfl) rfl) (Zc (Ys (Y6 (Xq (Zae (We (Zm (at_ (i := 4) rfl) F_is_number (Zb (Za (at_ (i := 3) rfl) rfl) Zf) rfl) (fun _ _ => rfl))) (Xq (Zae (Zfo Zg (Za (at_ (i := 3) rfl) rfl) (Z6 (at_ (i := 5) rfl) (N.n_MOST_ENDS) (fun _ => Zx.mpr ⟨_, rfl⟩)) rfl)) Wa))) (Zc (Ws (at_ (i := 6) rfl) (N.n_BadCount) hX_BadCount (Zb (Zw (Yj (by decide))) Zf) rfl)
  Zh) Zh)
  Zh) (fun _ _ => rfl))
  (Zc (Zbl hK hC CF.t_sizes (Za (.head _) rfl) (Zm1 Zd0 Zey Zd0 Zey (Z6 (at_ (i := 7) rfl) (N.n_LEFT) (fun _ => Z8.mpr ⟨Yj (by decide), _, rfl⟩)) (Za (at_ (i := 1) rfl) rfl) (Z6 (at_ (i := 8) rfl) (N.n_RIGHT) (fun _ => Z8.mpr ⟨Yj (by decide), _, rfl⟩)) (Za (at_ (i := 2) rfl) rfl)) (fun _ => rfl))
  (Zc (Zbl hK hC CF.t_rows (Za (.head _) rfl) Zem (fun _ => rfl))
  (Zc (Zbl hK hC CF.t_next_number (Za (.head _) rfl) Zg (fun _ => rfl))
  Zh))))) ?_
  rintro xs σ Q E ⟨x, d, u, v, b1, b2, rfl, n1, n2, hx, hd, he, hq⟩
  refine Yy rfl fun K KE kret kend kexc => ?_
  dsimp only [Loc.setAll]
  refine Zs fun K1 k1 => ?_
  dsimp only [Zlm, Zag, W6, Ww, Yl, Zy, Zn, Loc.set, String.reduceBEq, cond_true, cond_false, List.length_cons, List.length_nil]
  refine ⟨Yn rfl, nofun, ?_⟩
  refine Zbr (fun xs ℓ σ' => ∀ P0 : Prop, (∀ ws ds : List V, (xs = ws) → ([u, v] = ds ++ ws) → ((∀ z ∈ ds, okC z = true)) → (σ' = σ) → (ℓ "self" = some (.ref x)) → (ℓ "lefts" = some u) → (ℓ "rights" = some v) → P0) → P0) ?_ ?_
    (fun _ kI => kI ([u, v]) ([]) (rfl) (rfl) (fun _ h => absurd h (by simp)) (rfl) (rfl) (rfl) (rfl))
  · intro ℓ σ' hI0
    refine hI0 _ fun ws ds hws hds hok hrf5 e1 e2 e3 => ?_
    obtain rfl := hrf5
    subst hws
    rw [List.append_nil] at hds
    obtain ⟨a, rfl, ha⟩ := Zo3 (hok u (by rw [← hds]; simp))
    obtain ⟨b, rfl, hb⟩ := Zo3 (hok v (by rw [← hds]; simp))
    have h := hq a b rfl rfl ha hb
    refine ⟨trivial, k1 _ _ ?_⟩
    refine Zs fun K1 k1 => ?_
    dsimp only [Zq, Zn, Zd2, Zsj]
    simp only [e1, e2, e3]
    refine ⟨_, _, rfl, rfl, Zih, fun sd ep hsd => ?_⟩
    have hdsd : d ≠ sd := fun z => by rw [← z, hd] at hsd; cases hsd
    have hxsd : x ≠ sd := fun z => by rw [← z, hx] at hsd; cases hsd
    have hxd : x ≠ d := fun z => by rw [z, hd] at hx; cases hx
    refine ⟨x, d, [], rfl, Zk hx hsd, Zk hd hsd, Yn rfl, k1 _ _ ?_⟩
    generalize hσ1 : ((σ'.set sd (.dictS [(Str.ofString "left", .int a), (Str.ofString "right", .int b)] ep)).set d (.attrs [(Str.ofString "sizes", .ref sd)])) = σ1
    have x1 : σ1 x = some (.inst CC d) := by rw [← hσ1, Ze hxd]; exact Zk hx hsd
    have d1 : σ1 d = some (.attrs [(Str.ofString "sizes", .ref sd)]) := by rw [← hσ1]; exact Zd
    have sd1 : σ1 sd = some (.dictS [(Str.ofString "left", .int a), (Str.ofString "right", .int b)] ep) := by rw [← hσ1, Ze (Ne.symm hdsd)]; exact Zd
    have kp1 : ∀ y o, σ' y = some o → y ≠ d → σ1 y = some o := fun y o q n => by rw [← hσ1, Ze n]; exact Zk q hsd
    refine Zs fun K1 k1 => ?_
    dsimp only [Zn, Zd2, Zn7]
    simp only [e1]
    refine fun rd ep2 hrd => ⟨x, d, _, rfl, Zk x1 hrd, Zk d1 hrd, Yn rfl, k1 _ _ ?_⟩
    have hdrd : d ≠ rd := fun z => by rw [← z, d1] at hrd; cases hrd
    have hsrd : sd ≠ rd := fun z => by rw [← z, sd1] at hrd; cases hrd
    generalize hσ2 : ((σ1.set rd (.dictI [] ep2)).set d (.attrs [(Str.ofString "rows", .ref rd), (Str.ofString "sizes", .ref sd)])) = σ2
    have x2 : σ2 x = some (.inst CC d) := by rw [← hσ2, Ze hxd]; exact Zk x1 hrd
    have d2 : σ2 d = some (.attrs [(Str.ofString "rows", .ref rd), (Str.ofString "sizes", .ref sd)]) := by rw [← hσ2]; exact Zd
    have sd2 : σ2 sd = some (.dictS [(Str.ofString "left", .int a), (Str.ofString "right", .int b)] ep) := by rw [← hσ2, Ze (Ne.symm hdsd)]; exact Zk sd1 hrd
    have rd2 : σ2 rd = some (.dictI [] ep2) := by rw [← hσ2, Ze (Ne.symm hdrd)]; exact Zd
    have kp2 : ∀ y o, σ1 y = some o → y ≠ d → σ2 y = some o := fun y o q n => by rw [← hσ2, Ze n]; exact Zk q hrd
    refine Zs fun K1 k1 => ?_
    dsimp only [Zq, Zn, Zd2]
    simp only [e1]
    refine ⟨x, d, _, rfl, x2, d2, Yn rfl, k1 _ _ ?_⟩
    dsimp only [Zat]
    refine kend _ _ _ Sub.refl (h _ ⟨[], a, b, 0, d, rd, sd, [(Str.ofString "next_number", .int 0), (Str.ofString "rows", .ref rd), (Str.ofString "sizes", .ref sd)]⟩ ⟨(Ze hxd).trans x2, Zd, ?_, ?_, ?_, ?_, by simp, ⟨ep2, (Ze (Ne.symm hdrd)).trans rd2⟩, fun t ht => absurd ht (by simp), by simp, ⟨ep, (Ze (Ne.symm hdsd)).trans sd2⟩⟩ rfl rfl rfl rfl rfl ?_ fun y o q n => by rw [Ze n]; exact kp2 y o (kp1 y o q n) n)
    · kernel_rfl
    · kernel_rfl
    · kernel_rfl
    · intro p hp
      simp at hp
      rcases hp with rfl | rfl | rfl <;> simp
    · show σ' rd = none
      cases q : σ' rd with
      | none => rfl
      | some o => rw [kp1 rd o q (Ne.symm hdrd)] at hrd; cases hrd
  · intro z xs ℓ σ' K2 k2 r2 hI0
    refine hI0 _ fun ws ds hws hds hok hrf5 e1 e2 e3 => ?_
    obtain rfl := hrf5
    subst hws
    refine ⟨trivial, ?_⟩
    have hz : ∃ b, nrS σ' z = some b := by
      have : z ∈ [u, v] := by rw [hds]; simp
      simp only [List.mem_cons, List.not_mem_nil, or_false] at this
      rcases this with rfl | rfl
      · exact ⟨_, n1⟩
      · exact ⟨_, n2⟩
    obtain ⟨b, hn⟩ := hz
    have bad : okC z = false → ∀ ℓ' : Loc, KE CX ℓ' σ' := fun h ℓ' => kexc _ _ _ _ Sub.refl (he (by
      have : z ∈ [u, v] := by rw [hds]; simp
      simp only [List.mem_cons, List.not_mem_nil, or_false] at this
      rcases this with rfl | rfl
      · rw [h]; rfl
      · rw [h, Bool.and_false]))
    dsimp only [Xs]
    refine Zs fun K3 k3 => ?_
    have fine : okC z = true → K3 .next (ℓ.set "size" z) σ' := fun h => k3 _ _ (by dsimp only [Zat]; exact k2 _ _ (fun _ kI => kI (xs) (ds ++ [z]) (rfl) (by rw [hds]; simp) (fun y hy => (List.mem_append.1 hy).elim (hok y) fun q => by rw [List.mem_singleton.1 q]; exact h) (rfl) (e1) (e2) (e3)))
    dsimp only [Zat, Zi1, Yk, Yl, Zy, Zq, Zn, Zdg, Wl, Zi0, Zsg, Xo, Zlo, Zax, Loc.set, String.reduceBEq, cond_true, Zi8]
    refine ⟨z, b, rfl, hn, ?_⟩
    cases z with
    | int e =>
      cases hn
      simp only [Bool.not_true]
      by_cases h0 : 1 ≤ e
      · simp only [decide_eq_true h0]
        by_cases h1 : e ≤ 8
        · simp only [decide_eq_true h1, Bool.not_true]
          exact fine (by simp [okC, h0, h1])
        · simp only [decide_eq_false h1, Bool.not_false]
          exact ⟨by simp, bad (by simp [okC, h1]) _⟩
      · simp only [decide_eq_false h0, Bool.not_false]
        exact ⟨by simp, bad (by simp [okC, h0]) _⟩
    | ref a =>
      have eb : b = false := by
        simp only [nrS] at hn
        split at hn
        · cases hn; rfl
        · cases hn; rfl
        · cases hn
      subst eb
      exact ⟨by simp, bad rfl _⟩
    | frz _ => cases hn
    | _ => cases hn; exact ⟨by simp, bad rfl _⟩
theorem Zv3 (hK : (KK P).In g.b0) (N : NN g) (hX_TooMany : Znv g CT) (M_need_end : FnM g (KK P) CC "need_end" 7 (Zfr CC CB)) (M_count : FnM g (KK P) CC "count" 7 (Zlu CC)) (M_hued : FnM g (KK P) CC "hued" 7 (Zqz CC)) : Xz g 8 (.ref 234) (Zlv CC CB CT) := by
  refine Xz.mono (Z7 (r := 7) (ps := ["self", "left", "right"]) (hK 234 _ rfl) rfl (Zt (hK 233 _ rfl) rfl rfl) rfl (by intro vs h; obtain ⟨a0, a1, a2, rfl⟩ := Zsm h; rfl) rfl rfl rfl (by decide +kernel)
    (Zc (Yz (Zz hK hC M_need_end (Za (.head _) rfl) (Zb (Z6 (at_ (i := 4) rfl) (N.n_LEFT) (fun _ => Z8.mpr ⟨Yj (by decide), _, rfl⟩)) (Zb (Za (at_ (i := 1) rfl) rfl) Zf)) rfl rfl rfl rfl) (fun _ => rfl))
  (Zc (Yz (Zz hK hC M_need_end (Za (.head _) rfl) (Zb (Z6 (at_ (i := 5) rfl) (N.n_RIGHT) (fun _ => Z8.mpr ⟨Yj (by decide), _, rfl⟩)) (Zb (Za (at_ (i := 2) rfl) rfl) Zf)) rfl rfl rfl rfl) (fun _ => rfl))
  (Zc (Ys (Yb (Zm (at_ (i := 6) rfl) (Z2 N.n_len Xi) (Zb (Yd hK hC CF.a_rows rfl rfl (Za (.head _) rfl)) Zf) rfl) (Z6 (at_ (i := 7) rfl) (N.n_MOST_PAIRS) (fun _ => Zx.mpr ⟨_, rfl⟩)) rfl) (Zc (Ws (at_ (i := 8) rfl) (N.n_TooMany) hX_TooMany (Zb (Zw (Yj (by decide))) Zf) rfl)
  Zh) Zh)
  (Zc (Zo (at_ (i := 3) rfl) rfl (Yd hK hC CF.a_next_number rfl rfl (Za (.head _) rfl)) (fun _ => rfl))
  (Zc (Zbl hK hC CF.t_next_number (Za (.head _) rfl) (Zp (Za (at_ (i := 3) rfl) rfl) Zg) (fun _ => rfl))
  (Zc (Zah (Yd hK hC CF.a_rows rfl rfl (Za (.head _) rfl)) (Za (at_ (i := 3) rfl) rfl) (Z3 (Zb (Za (at_ (i := 1) rfl) rfl) (Zb (Za (at_ (i := 2) rfl) rfl) (Zb Za2 Zf)))) (fun _ => rfl))
  (Zc (Zl (Zz hK hC M_hued (Za (.head _) rfl) (Zb (Za (at_ (i := 3) rfl) rfl) (Zb (Za (at_ (i := 1) rfl) rfl) (Zb (Za (at_ (i := 2) rfl) rfl) (Zb (Zz hK hC M_count (Za (.head _) rfl) Zf rfl rfl rfl rfl) Zf)))) rfl rfl rfl rfl))
  Zh)))))))) ?_
  rintro xs σ Q E ⟨x, D, u, v, m, b1, b2, rfl, H, W, hnx, hlen, n1, n2, he, ht, h⟩
  refine Yy rfl fun K KE kret kend kexc => ?_
  dsimp only [Loc.setAll]
  refine Yp fun K1 k1 r1 => ?_
  dsimp only [tDo, Yl, Zy, Zq, Zn, Loc.set, String.reduceBEq, cond_true, cond_false, Y8]
  refine ⟨H.instOf (by decide +kernel), x, D, false, u, b1, rfl, H, n1, fun o1 => k1 _ _ ?_, fun o1 => kexc _ _ _ _ Sub.refl (he (by have o1 : okE D.a u = false := o1; rw [o1]; rfl))⟩
  have o1 : okE D.a u = true := o1
  refine Yp fun K1 k1 r1 => ?_
  dsimp only [tDo, Yl, Zy, Zq, Zn, Loc.set, String.reduceBEq, cond_true, cond_false, Y8]
  refine ⟨H.instOf (by decide +kernel), x, D, true, v, b2, rfl, H, n2, fun o2 => k1 _ _ ?_, fun o2 => kexc _ _ _ _ Sub.refl (he (by have o2 : okE D.b v = false := o2; rw [o2, Bool.and_false]))⟩
  have o2 : okE D.b v = true := o2
  obtain ⟨l, rfl, hl⟩ := Zo2 o1
  obtain ⟨r, rfl, hr⟩ := Zo2 o2
  refine Yp fun K1 k1 r1 => ?_
  obtain ⟨ep, er⟩ := H.rows
  dsimp only [Zat, Zi1, Yk, Zhz, Ziv, Yl, Zy, Zq, Zn, Wn, Zax, Loc.set, String.reduceBEq, cond_true, cond_false, Zbh]
  simp only [H.rowsA, er, List.length_map]
  by_cases h40' : (40 : Int) ≤ (D.T.length : Int)
  · simp only [decide_eq_true h40']
    exact ⟨by simp, kexc _ _ _ _ Sub.refl (ht (by rw [o1, o2]; rfl) (by exact Zy8 hlen h40'))⟩
  have hlen : D.T.length < 40 := by exact Zy7 hlen h40'
  replace h := h l r rfl rfl hl hr hlen
  simp only [decide_eq_false h40']
  refine k1 _ _ ?_
  refine Yp fun K1 k1 r1 => ?_
  dsimp only [Z4, Zn, Loc.set, String.reduceBEq, cond_true, cond_false, Zbh]
  simp only [H.nextA]
  refine k1 _ _ ?_
  refine Yp fun K1 k1 r1 => ?_
  dsimp only [Zq, Zn, Zdm, Zcj, Loc.set, String.reduceBEq, cond_true, cond_false, Zd2]
  have hnx0 := W.nx
  refine ⟨x, D.d, D.kvs, rfl, H.inst, H.attrs, by have := H.few; unfold Y3; exact Zy6 hnx hnx0 this, k1 _ _ ?_⟩
  have H1 := H.setNext hnx0.1
  generalize hσ1 : σ.set D.d (.attrs ((Str.ofString "next_number", .int (D.nx + 1)) :: D.kvs)) = σ1 at H1
  generalize hD1 : ({ D with nx := D.nx + 1, kvs := (Str.ofString "next_number", .int (D.nx + 1)) :: D.kvs } : HD) = D1 at H1
  have hT1 : D1.T = D.T ∧ D1.a = D.a ∧ D1.b = D.b ∧ D1.nx = D.nx + 1 ∧ D1.d = D.d ∧ D1.rd = D.rd := by rw [← hD1]; exact ⟨rfl, rfl, rfl, rfl, rfl, rfl⟩
  have hS1 : D1.S = D.S := by unfold HD.S; rw [hT1.1]
  refine Yp fun K1 k1 r1 => ?_
  dsimp only [Wx, Yl, Zy, Zq, Zn, Loc.set, String.reduceBEq, cond_true, cond_false, List.length_cons, List.length_nil, Zbh, Zc3]
  refine ⟨Yn rfl, fun p hp => ?_⟩
  have H2 := H1.sub (Sub.refl.new (o := .list [V.int l, V.int r, V.none]) hp)
  simp only [H2.rowsA]
  obtain ⟨e0, er0⟩ := H2.rows
  simp only [Zca, er0]
  refine ⟨_, rfl, by rw [hT1.1]; simp [Y3]; omega, fun ep2 => k1 _ _ ?_⟩
  have hbel : ∀ t ∈ D1.T, t.1.n ≠ D.nx := fun t ht => by
    have := W.below t.1 (List.mem_map.2 ⟨t, by rw [← hT1.1]; exact ht, rfl⟩); exact Zu4 this
  have H3 := H1.addRow (w := ⟨D.nx, l, r, none⟩) hbel hp ep2
  have hrl : Zg6 ⟨D.nx, l, r, none⟩ = [V.int l, V.int r, V.none] := rfl
  rw [hrl] at H3
  simp only at H3
  generalize hσ3 : (σ1.set p (.list [V.int l, V.int r, V.none])).set D1.rd (.dictI (Zfb (D1.T.map fun t => (t.1.n, V.ref t.2)) D.nx (.ref p)) ep2) = σ3 at H3
  have hS3 : (D1.add ⟨D.nx, l, r, none⟩ p).S = D.S ++ [⟨D.nx, l, r, none⟩] := by rw [HD.add_S, hS1]
  obtain ⟨hinc, hprop⟩ := W.good.comeInc (x := ⟨D.nx, l, r, none⟩) W.below rfl
  have hinr : InR (D.S ++ [⟨D.nx, l, r, none⟩]) D.a D.b := fun y hy s => by
    rcases List.mem_append.1 hy with q | q
    · exact W.good.inr y q s
    · rw [List.mem_singleton.1 q]; cases s
      · exact hl
      · exact hr
  have h64 : (D1.add ⟨D.nx, l, r, none⟩ p).T.length < 64 := by simp [HD.add, hT1.1]; omega
  have hai : (D1.add ⟨D.nx, l, r, none⟩ p).a = D.a ∧ (D1.add ⟨D.nx, l, r, none⟩ p).b = D.b := ⟨hT1.2.1, hT1.2.2.1⟩
  refine Ye fun K1 r1 => ?_
  dsimp only [Zaz, Yl, Zy, Zn, Loc.set, String.reduceBEq, cond_true, cond_false, Y8]
  have ha8 := W.a8
  have hb8 := W.b8
  refine ⟨H3.instOf (by decide +kernel), H3.instOf (by decide +kernel), x, D1.add ⟨D.nx, l, r, none⟩ p, rfl, H3, by rw [hS3]; exact hinc, h64, by rw [hai.1]; exact Zy5 hai ha8, by rw [hai.1]; exact Zy4 hai ha8, by rw [hai.2]; exact Zy3 hai hb8, by rw [hai.2]; exact Zy2 hai hb8, fun m' hm' => ?_⟩
  rw [hS3, hai.1, hai.2] at hm'
  have hput : (D.S ++ [(⟨D.nx, l, r, none⟩ : Rw)]).map (Wk D.nx none) = D.S ++ [⟨D.nx, l, r, none⟩] := by
    conv => rhs; rw [← List.map_id (D.S ++ [(⟨D.nx, l, r, none⟩ : Rw)])]
    refine List.map_congr_left fun y hy => ?_
    rcases List.mem_append.1 hy with q | q
    · rw [Yv (by have := W.below y q; exact Zu4 this)]; rfl
    · rw [List.mem_singleton.1 q]; unfold Wk; rw [if_pos rfl]; rfl
  have hm100 : m' ≤ 100 := by have := Zaw hm'; simp [HD.S] at this; omega
  refine ⟨x, D1.add ⟨D.nx, l, r, none⟩ p, (⟨D.nx, l, r, none⟩, p), m', rfl, by simp [HD.add], H3, by rw [hS3]; exact hinc, h64, hm100, by rw [hS3, hput]; exact hprop, by rw [hS3]; exact hm'.all hinr _ _, by rw [hS3]; exact hm'.all hinr _ _, fun σ' D' hue other nums c H' F' hto hc1 hc2 hc3 => r1 _ _ _ (kret _ _ _ _ Sub.refl ?_)⟩
  simp only at hto
  rw [hS3, hput] at hto
  have hH := hto.hued hprop hinc (x := ⟨D.nx, l, r, none⟩) (by simp) rfl rfl rfl rfl
  have hG : Zex D'.S D.a D.b m' := W.good.come W.below (fun s => by cases s; exact hl; exact hr) rfl hm' hH
  have sz := F'.sz
  have hka : ∀ y o, σ y = some o → ¬ D.foot y → σ3 y = some o := fun y o q nf => by
    have y1 : y ≠ D.d := fun z => nf (.inl z)
    have y2 : y ≠ D1.rd := fun z => nf (.inr (.inl (z.trans hT1.2.2.2.2.2)))
    have q1 : σ1 y = some o := by rw [← hσ1, Ze y1]; exact q
    rw [← hσ3, Ze y2]; exact Zk q1 hp
  have hp0 : σ p = none := by
    cases e : σ p with
    | none => rfl
    | some o =>
      by_cases z : p = D.d
      · rw [← hσ1, z, Zd] at hp; cases hp
      · rw [← hσ1, Ze z, e] at hp; cases hp
  have hnone : ∀ y, σ3 y = none → σ y = none := fun y q => by
    cases e : σ y with
    | none => rfl
    | some o =>
      rw [← hσ3] at q
      by_cases z : y = D1.rd
      · rw [z, Zd] at q; cases q
      · rw [Ze z] at q
        by_cases z2 : y = D.d
        · have : σ1 y = some (.attrs ((Str.ofString "next_number", .int (D.nx + 1)) :: D.kvs)) := by rw [← hσ1, z2]; exact Zd
          rw [Zk this hp] at q; cases q
        · have : σ1 y = some o := by rw [← hσ1, Ze z2]; exact e
          rw [Zk this hp] at q; cases q
  have hfoot : ∀ y, (D1.add ⟨D.nx, l, r, none⟩ p).foot y → D.foot y ∨ σ y = none := fun y q => by
    rcases q with q | q | q
    · exact .inl (.inl (q.trans hT1.2.2.2.2.1))
    · exact .inl (.inr (.inl (q.trans hT1.2.2.2.2.2)))
    · simp only [HD.add, List.map_append, List.map_cons, List.map_nil, List.mem_append, List.mem_singleton, hT1.1] at q
      rcases q with q | q
      · exact .inl (.inr (.inr q))
      · exact .inr (by rw [q]; exact hp0)
  have ha' : D'.a = D.a := sz.1.trans hai.1
  have hb' : D'.b = D.b := sz.2.1.trans hai.2
  have hn' : D'.nx = D.nx + 1 := sz.2.2.trans hT1.2.2.2.1
  have hsk : D'.S.map sk = D.S.map sk ++ [(D.nx, l, r)] := by rw [hH.sk, List.map_append]; rfl
  refine h σ' D' m' hue other nums c H' ⟨by rw [ha', hb']; exact hG, by rw [ha']; exact W.a8, by rw [hb']; exact W.b8, by rw [hn']; exact Zy1 hnx hnx0 sz hn', fun y hy => ?_⟩ hn' ha' hb' (fun y o q nf => F'.keep y o (hka y o q nf) fun w => ?_) (fun y q => ?_) (fun y q => hnone y (F'.dom y q)) hsk hto (hnone c hc1) hc2 hc3
  · have : sk y ∈ D.S.map sk ++ [(D.nx, l, r)] := by rw [← hsk]; exact List.mem_map.2 ⟨y, hy, rfl⟩
    rcases List.mem_append.1 this with q | q
    · obtain ⟨z, hz, e⟩ := List.mem_map.1 q
      have e1 : z.n = y.n := by unfold sk at e; simp only [Prod.mk.injEq] at e; exact e.1
      have := W.below z hz
      exact Zy0 sz hn' e1 this
    · have e := List.mem_singleton.1 q
      unfold sk at e; simp only [Prod.mk.injEq] at e
      exact Zyz sz hn' e
  · rcases hfoot y w with v | v
    · exact nf v
    · rw [v] at q; cases q
  · rcases F'.new y q with v | v
    · exact hfoot y v
    · exact .inr (hnone y v)
theorem Zk4 (hK : (KK P).In g.b0) (N : NN g) (hX_NoPair : Znv g CP) (F_is_number : FnG g "is_number" 2 Zi8) : Xz g 3 (.ref 241) (Zeo CC CP) := by
  refine Xz.mono (Z7 (r := 2) (ps := ["self", "number"]) (hK 241 _ rfl) rfl (Zt (hK 240 _ rfl) rfl rfl) rfl (by intro vs h; obtain ⟨a0, a1, rfl⟩ := Zsn h; rfl) rfl rfl rfl (by decide +kernel)
    (Zc (Ys (Y6 (Xq (Zae (We (Zm (at_ (i := 2) rfl) F_is_number (Zb (Za (at_ (i := 1) rfl) rfl) Zf) rfl) (fun _ _ => rfl))) (Xq (Yb (Za (at_ (i := 1) rfl) rfl) (Yd hK hC CF.a_rows rfl rfl (Za (.head _) rfl)) rfl) Wa))) (Zc (Ws (at_ (i := 3) rfl) (N.n_NoPair) hX_NoPair (Zb (Zw (Yj (by decide))) Zf) rfl)
  Zh) Zh)
  Zh)) ?_
  rintro xs σ Q E ⟨x, D, v, b, rfl, H, hn, hq, he⟩
  refine Yy rfl fun K KE kret kend kexc => ?_
  dsimp only [Loc.setAll]
  refine Zs fun K1 k1 => ?_
  have bad : (∀ t ∈ D.T, v ≠ .int t.1.n) → ∀ ℓ' : Loc, KE CP ℓ' σ := fun h ℓ' => kexc _ _ _ _ Sub.refl (he h)
  dsimp only [Zat, Zi1, Yk, Yl, Zy, Zn, Zdg, Wl, Zi0, Zsg, Xo, Wn, Zax, Loc.set, String.reduceBEq, cond_true, cond_false, Zbh, Zi8]
  refine ⟨v, b, rfl, hn, ?_⟩
  cases v with
  | int e =>
    cases hn
    obtain ⟨ep, er⟩ := H.rows
    simp only [Bool.not_true, H.rowsA, inD, er]
    cases q : ((D.T.map fun t => (t.1.n, V.ref t.2)).any fun kv => kv.1 == e) with
    | true =>
      obtain ⟨kv, hkv, z⟩ := List.any_eq_true.mp q
      obtain ⟨t, ht, rfl⟩ := List.mem_map.1 hkv
      have z : t.1.n = e := by simpa using z
      subst z
      simp only [Bool.not_true]
      refine k1 _ _ ?_
      dsimp only [Zat]
      exact kend _ _ _ Sub.refl (hq t ht rfl)
    | false =>
      simp only [Bool.not_false]
      refine ⟨by simp, bad (fun t ht z => ?_) _⟩
      cases z
      have := List.any_eq_false.mp q (t.1.n, V.ref t.2) (List.mem_map.2 ⟨t, ht, rfl⟩)
      simp at this
  | ref a =>
    have eb : b = false := by
      simp only [nrS] at hn
      split at hn
      · cases hn; rfl
      · cases hn; rfl
      · cases hn
    subst eb
    exact ⟨by simp, bad (fun _ _ z => nomatch z) _⟩
  | frz _ => cases hn
  | _ => cases hn; exact ⟨by simp, bad (fun _ _ z => nomatch z) _⟩
end
section
open PySem PySem.W PyProof.Rows
variable {g : Gr} {P : Params}
theorem Ztp (hK : (KK P).In g.b0) (N : NN g) : Xz g 2 (.ref 255) (Zop CC) := by
  refine Xz.mono (Z7 (r := 1) (ps := ["self"]) (hK 255 _ rfl) rfl (Zt (hK 254 _ rfl) rfl rfl) rfl (by intro vs h; obtain ⟨a0, rfl⟩ := Zo8 h; rfl) rfl rfl rfl (by decide +kernel)
    (Zc (Zo (at_ (i := 1) rfl) rfl (Z3 Zf) (fun _ => rfl))
  (Zc (Wd (Z5 (Zm (at_ (i := 6) rfl) (Z2 N.n_sorted Zb8) (Zb (Yd hK hC CF.a_rows rfl rfl (Za (.head _) rfl)) Zf) rfl)) (.name (at_ (i := 2) rfl) rfl) (Zc (Zbm (.cons (at_ (i := 3) rfl) rfl (.cons (at_ (i := 4) rfl) rfl (.cons (at_ (i := 5) rfl) rfl .nil))) (Zj (Yd hK hC CF.a_rows rfl rfl (Za (.head _) rfl)) (Za (at_ (i := 2) rfl) rfl) (fun _ _ => rfl)) (fun _ => rfl) (fun _ => rfl))
  (Zc (Yz (Za6 (Za (at_ (i := 1) rfl) rfl) (Zb (Z0 (Zb (Za (at_ (i := 2) rfl) rfl) (Zb (Za (at_ (i := 3) rfl) rfl) (Zb (Za (at_ (i := 4) rfl) rfl) (Zb (Za (at_ (i := 5) rfl) rfl) Zf))))) Zf) rfl rfl rfl rfl) (fun _ => rfl))
  Zh)) (fun _ _ => rfl))
  (Zc (Zl (Za (at_ (i := 1) rfl) rfl))
  Zh)))) ?_
  rintro xs σ Q E ⟨x, D, rfl, H, hi, h64, h⟩
  refine Yy rfl fun K KE kret kend _ => ?_
  dsimp only [Loc.setAll]
  refine Zs fun K1 k1 => ?_
  dsimp only [Z4, Wx, Yl, List.length_nil]
  refine ⟨Yn rfl, fun b hb => k1 _ _ ?_⟩
  have s1 : Sub σ (σ.set b (.list [])) := Sub.refl.new hb
  have H1 := H.sub s1
  refine Zs fun K1 k1 => ?_
  dsimp only [Zlm, Zag, W6, Yk, Yl, Zy, Zn, Loc.set, String.reduceBEq, cond_true, cond_false, Zbh]
  simp only [H1.rowsA]
  refine Zco H1 hi h64 fun o ho => ?_
  simp only [Zd]
  have ob : o ≠ b := fun z => by rw [z, Zd] at ho; cases ho
  refine ⟨nofun, Zbr (fun xs ℓ σ' => ∀ P0 : Prop, (∀ done rest : List (Rw × Addr), (done ++ rest = D.T) → (xs = rest.map (fun t => V.int t.1.n)) → (ℓ "self" = some (.ref x)) → (ℓ "found" = some (.ref b)) → (Sub σ σ') → (σ' b = some (.list (done.map Zep))) → (σ' o = some (.list (D.T.map fun t => V.int t.1.n))) → P0) → P0) ?_ ?_
    (fun _ kI => kI ([]) (D.T) (rfl) (rfl) (rfl) (rfl) (s1.new ho) (Zk Zd ho) (Zd))⟩
  · intro ℓ σ' hI0
    refine hI0 _ fun done rest h1 h2 e1 e2 h3 h4 h5 => ?_
    obtain rfl := Xr h2
    rw [List.append_nil] at h1
    subst h1
    refine ⟨h5, k1 _ _ ?_⟩
    refine Ye fun K2 r2 => ?_
    dsimp only [Zaz, Zn]
    simp only [e2]
    exact r2 _ _ _ (kret _ _ _ _ (Zur h3 h4) (h b hb))
  · intro v xs ℓ σ' K2 k2 r2 hI0
    refine hI0 _ fun done rest h1 h2 e1 e2 h3 h4 h5 => ?_
    obtain ⟨t, rest, rfl, rfl, rfl⟩ := Xa h2
    have ht : t ∈ D.T := by rw [← h1]; simp
    refine ⟨h5, ?_⟩
    dsimp only [Xs]
    have H2 := H.sub h3
    refine Zs fun K3 k3 => ?_
    dsimp only [Zd3, Zn, Y4, Loc.set, Xs, String.reduceBEq, cond_true, cond_false, List.length_cons, List.length_nil, Zbh]
    simp only [e1, H2.rowsA]
    refine H2.item hi ht ?_
    simp only [Zci, H2.row t ht, Zg6]
    refine ⟨rfl, k3 _ _ ?_⟩
    dsimp only [Loc.setAll]
    refine Zs fun K3 k3 => ?_
    dsimp only [tDo, Xd, Ziu, Wy, Ww, Yl, Zy, Zn, Loc.set, String.reduceBEq, cond_true, cond_false, List.length_cons, List.length_nil]
    simp only [e2, h4]
    refine ⟨trivial, Yn rfl, ?_, k3 _ _ (k2 _ _ (fun _ kI => kI (done ++ [t]) (rest) (by simpa using h1) (rfl) (e1) (e2) (h3.upd hb) (?_) (?_)))⟩
    · have := congrArg List.length h1; simp [Y3] at *; exact Zyy h64 this
    · rw [Zd]; simp [Zep]
    · rw [Ze ob]; exact h5
theorem Z44 (hK : (KK P).In g.b0) (N : NN g) (M_need_pair : FnM g (KK P) CC "need_pair" 7 (Zeo CC CP)) (M_count : FnM g (KK P) CC "count" 7 (Zlu CC)) (M_hued : FnM g (KK P) CC "hued" 7 (Zqz CC)) : Xz g 8 (.ref 248) (Zq0 CC CP) := by
  refine Xz.mono (Z7 (r := 7) (ps := ["self", "number"]) (hK 248 _ rfl) rfl (Zt (hK 247 _ rfl) rfl rfl) rfl (by intro vs h; obtain ⟨a0, a1, rfl⟩ := Zsn h; rfl) rfl rfl rfl (by decide +kernel)
    (Zc (Yz (Zz hK hC M_need_pair (Za (.head _) rfl) (Zb (Za (at_ (i := 1) rfl) rfl) Zf) rfl rfl rfl rfl) (fun _ => rfl))
  (Zc (Zo (at_ (i := 2) rfl) rfl (Zz hK hC M_count (Za (.head _) rfl) Zf rfl rfl rfl rfl) (fun _ => rfl))
  (Zc (Yz (Z41 (Yd hK hC CF.a_rows rfl rfl (Za (.head _) rfl)) (Zb (Za (at_ (i := 1) rfl) rfl) Zf) rfl rfl rfl rfl) (fun _ => rfl))
  (Zc (Zo (at_ (i := 3) rfl) rfl (Zz hK hC M_count (Za (.head _) rfl) Zf rfl rfl rfl rfl) (fun _ => rfl))
  (Zc (Zo (at_ (i := 4) rfl) rfl (Z3 Zf) (fun _ => rfl))
  (Zc (Ys (Yb (Za (at_ (i := 3) rfl) rfl) (Za (at_ (i := 2) rfl) rfl) rfl) (Zc (Wd (Z5 (Zm (at_ (i := 6) rfl) (Z2 N.n_sorted Zb8) (Zb (Yd hK hC CF.a_rows rfl rfl (Za (.head _) rfl)) Zf) rfl)) (.name (at_ (i := 5) rfl) rfl) (Zc (Ys (Yb (Zj (Zj (Yd hK hC CF.a_rows rfl rfl (Za (.head _) rfl)) (Za (at_ (i := 5) rfl) rfl) (fun _ _ => rfl)) Zg (fun _ _ => rfl)) (Za (at_ (i := 3) rfl) rfl) rfl) (Zc (Yz (Za6 (Za (at_ (i := 4) rfl) rfl) (Zb (Zz hK hC M_hued (Za (.head _) rfl) (Zb (Za (at_ (i := 5) rfl) rfl) (Zb (Zj (Zj (Yd hK hC CF.a_rows rfl rfl (Za (.head _) rfl)) (Za (at_ (i := 5) rfl) rfl) (fun _ _ => rfl)) Zg (fun _ _ => rfl)) (Zb (Zj (Zj (Yd hK hC CF.a_rows rfl rfl (Za (.head _) rfl)) (Za (at_ (i := 5) rfl) rfl) (fun _ _ => rfl)) Zg (fun _ _ => rfl)) (Zb (Za (at_ (i := 3) rfl) rfl) Zf)))) rfl rfl rfl rfl) Zf) rfl rfl rfl rfl) (fun _ => rfl))
  Zh) Zh)
  Zh) (fun _ _ => rfl))
  Zh) Zh)
  (Zc (Zl (Za (at_ (i := 4) rfl) rfl))
  Zh)))))))) ?_
  rintro xs σ Q E hsp
  rcases hsp with hg | hbd
  case inr =>
    obtain ⟨x, D, v, b, rfl, H, hn, hv, he⟩ := hbd
    refine Yy rfl fun K KE kret kend kexc => ?_
    dsimp only [Loc.setAll]
    refine Zs fun K1 k1 => ?_
    dsimp only [tDo, Yl, Zy, Zn, Loc.set, String.reduceBEq, cond_true, cond_false, Y8]
    exact ⟨H.instOf (by decide +kernel), x, D, v, b, rfl, H, hn, fun t ht e => absurd e (hv t ht), fun _ => kexc _ _ _ _ Sub.refl he⟩
  obtain ⟨x, D, m, t, rfl, ht, H, W, h64, h⟩ := hg
  refine Yy rfl fun K KE kret kend _ => ?_
  dsimp only [Loc.setAll]
  have ha8 := W.a8
  have hb8 := W.b8
  have hi := W.good.inc
  refine Yp fun K1 k1 r1 => ?_
  dsimp only [tDo, Yl, Zy, Zn, Loc.set, String.reduceBEq, cond_true, cond_false, Y8]
  refine ⟨H.instOf (by decide +kernel), x, D, .int t.1.n, true, rfl, H, rfl, fun _ _ _ => k1 _ _ ?_, fun z => absurd rfl (z t ht)⟩
  refine Yp fun K1 k1 r1 => ?_
  dsimp only [Z4, Yl, Zn, Loc.set, String.reduceBEq, cond_true, cond_false, Y8]
  refine ⟨H.instOf (by decide +kernel), x, D, rfl, H, hi, h64, by exact Zm9 ha8, by exact Zq7 ha8, by exact Zm9 hb8, by exact Zq7 hb8, fun m0 hm0 => k1 _ _ ?_⟩
  have : m0 = m := hm0.uniq W.good.cnt
  subst this
  refine Yp fun K1 k1 r1 => ?_
  obtain ⟨ep, er⟩ := H.rows
  dsimp only [tDo, Xd, Ziu, Yl, Zy, Zn, Loc.set, String.reduceBEq, cond_true, cond_false, Zbh]
  simp only [H.rowsA, er, Zwm]
  refine ⟨trivial, _, Zlz hi ht, fun ep2 => k1 _ _ ?_⟩
  have H1 := H.dropRow t.1.n ep2
  generalize hσ1 : σ.set D.rd (.dictI ((D.T.map fun t => (t.1.n, V.ref t.2)).filter fun kv => decide (kv.1 ≠ t.1.n)) ep2) = σ1 at H1
  have hS1 : (D.drop t.1.n).S = drp t.1.n D.S := HD.drop_S
  have hi1 : Inc (D.drop t.1.n).S := by rw [hS1]; exact hi.filter _
  have h641 : (D.drop t.1.n).T.length < 64 := Nat.lt_of_le_of_lt (List.length_filter_le _ _) h64
  have F1 : Frm σ σ1 D (D.drop t.1.n) := by
    refine ⟨fun y o q nf => by rw [← hσ1, Ze fun z => nf (.inr (.inl z))]; exact q, fun y q => ?_, ⟨rfl, rfl, rfl⟩, fun y q => ?_⟩
    · rcases q with q | q | q
      · exact .inl (.inl q)
      · exact .inl (.inr (.inl q))
      · obtain ⟨u, hu, rfl⟩ := List.mem_map.1 q
        exact .inl (.inr (.inr (List.mem_map.2 ⟨u, (List.mem_filter.1 hu).1, rfl⟩)))
    · rw [← hσ1] at q
      by_cases z : y = D.rd
      · rw [z, Zd] at q; cases q
      · rw [Ze z] at q; exact q
  refine Yp fun K1 k1 r1 => ?_
  dsimp only [Z4, Yl, Zn, Loc.set, String.reduceBEq, cond_true, cond_false, Y8]
  refine ⟨H1.instOf (by decide +kernel), x, D.drop t.1.n, rfl, H1, hi1, h641, by show 0 ≤ D.a; exact Zm9 ha8, by show D.a ≤ 1000; exact Zq7 ha8, by show 0 ≤ D.b; exact Zm9 hb8, by show D.b ≤ 1000; exact Zq7 hb8, fun m' hm' => k1 _ _ ?_⟩
  rw [hS1] at hm'
  have hm' : Zao (drp t.1.n D.S) D.a D.b m' := hm'
  obtain ⟨hle, hsame, hless⟩ := W.good.go hm'
  refine Yp fun K1 k1 r1 => ?_
  dsimp only [Z4, Wx, Yl, List.length_nil]
  refine ⟨Yn rfl, fun b hb => k1 _ _ ?_⟩
  have hb0 : σ b = none := F1.dom b hb
  have hdn : ∀ n ∈ (drp t.1.n D.S).map Rw.n, n ∈ D.S.map Rw.n := fun n hn => by
    obtain ⟨y, hy, rfl⟩ := List.mem_map.1 hn
    exact List.mem_map.2 ⟨y, (List.mem_filter.1 hy).1, rfl⟩
  have Zct : ∀ {σ' : AH} {D' : HD} {b : Addr}, Zv σ' CC x D' → σ' b = none → ¬ D'.foot b := fun {σ' D' b} H' hb q => by
    rcases q with q | q | q
    · have := H'.attrs; rw [← q, hb] at this; cases this
    · obtain ⟨_, this⟩ := H'.rows; rw [← q, hb] at this; cases this
    · obtain ⟨u, hu, rfl⟩ := List.mem_map.1 q
      have := H'.row u hu; rw [hb] at this; cases this
  refine Yp fun K1 k1 r1 => ?_
  dsimp only [Zat, Zi1, Zn, Wn, Zax, Loc.set, String.reduceBEq, cond_true, cond_false]
  by_cases hlt : m' < m0
  case neg =>
    have e : decide ((m' : Int) < (m0 : Int)) = false := by rw [decide_eq_false_iff_not]; exact Zyx hle hlt
    simp only [e]
    refine k1 _ _ ?_
    refine Ye fun K1 r1 => ?_
    dsimp only [Zaz, Zn, Loc.set, String.reduceBEq, cond_true, cond_false]
    have hg := hsame (by exact Zyw hle hlt)
    have hnone : ((drp t.1.n D.S).filter fun x => x.h == some (m' : Int)) = [] := by
      rw [List.filter_eq_nil_iff]
      intro y hy
      obtain ⟨h', e', _, hl'⟩ := hg.hues y hy
      rw [e']; simp; exact Zyv hl'
    refine r1 _ _ _ (kret _ _ _ _ Sub.refl (h _ (D.drop t.1.n) m' b [] (H1.sub (Sub.refl.new hb)) (W.of_sk (by rw [hS1]; exact hg) ⟨rfl, rfl, rfl⟩ (by rw [hS1]; exact hdn)) (F1.setNew hb0) (by rw [hS1]) hm' (by rw [hS1]; exact .nil) (by rw [hnone]; rfl) hb0 (Zct H1 hb) Zd fun e he => absurd he (by simp)))
  case pos =>
    have e : decide ((m' : Int) < (m0 : Int)) = true := by rw [decide_eq_true_iff]; exact Zyu hlt
    simp only [e]
    have hpend := hless hlt
    have H2 := H1.sub (Sub.refl.new (o := .list []) hb)
    refine Zs fun K2 k2 => ?_
    dsimp only [Zlm, Zag, W6, Yk, Yl, Zy, Zn, Loc.set, String.reduceBEq, cond_true, cond_false, Zbh]
    simp only [H2.rowsA]
    refine Zco H2 hi1 h641 fun o ho => ?_
    simp only [Zd]
    have hob : o ≠ b := fun z => by rw [z, Zd] at ho; cases ho
    have ho1 : σ1 o = none := (Sub.refl.new hb).none ho
    refine ⟨nofun, Zbr (fun xs ℓ σ' => ∀ P0 : Prop, (∀ (rest : List Int) (Dc : HD) (log : List Zb6) (pre post : List Rw), (drp t.1.n D.S = pre ++ post) → (rest = post.map Rw.n) → (log.map Zb6.k = (pre.filter fun x => x.h == some (m' : Int)).map Rw.n) → ((∀ y ∈ Dc.S, ∀ x ∈ post, x.n = y.n → (y.h == some (m' : Int)) = (x.h == some (m' : Int)))) → (xs = rest.map V.int) → (Zv σ' CC x Dc) → (Frm σ1 σ' (D.drop t.1.n) Dc) → (Zqj Dc.S D.a D.b m' rest) → (Dc.S.map sk = (drp t.1.n D.S).map sk) → ((∀ k ∈ rest, k ∈ (drp t.1.n D.S).map Rw.n)) → (Zeg m' (drp t.1.n D.S) log Dc.S) → (σ' b = some (.list (log.map Zb6.v))) → (¬ Dc.foot b) → (σ' o = some (.list ((D.drop t.1.n).T.map fun t => V.int t.1.n))) → (¬ Dc.foot o) → ((∀ e ∈ log, σ' e.c = some (.list (e.nums.map V.int)) ∧ σ e.c = none ∧ ¬ Dc.foot e.c ∧ e.c ≠ b)) → (ℓ "self" = some (.ref x)) → (ℓ "many" = some (.int (m' : Nat))) → (ℓ "found" = some (.ref b)) → (log.length + rest.length ≤ 64) → P0) → P0) ?_ ?_
      (fun _ kI => kI ((drp t.1.n D.S).map Rw.n) (D.drop t.1.n) ([]) ([]) (drp t.1.n D.S) (rfl) (rfl) (rfl) ((fun y hy x hx e => by rw [hS1] at hy; rw [(hi.filter _).inj hx hy e])) (?_) (H2.sub (Sub.refl.new ho)) (⟨fun y p q _ => Zk (Zk q hb) ho, fun y q => .inl q, ⟨rfl, rfl, rfl⟩, fun y q => (Sub.refl.new hb).none ((Sub.refl.new ho).none q)⟩) (by rw [hS1]; exact hpend) (by rw [hS1]) (fun k hk => hk) (by rw [hS1]; exact .nil) (Zk Zd ho) (Zct H1 hb) (Zd) (Zct H1 ho1) (fun e he => absurd he (by simp)) (rfl) (rfl) (rfl) (?_))⟩
    · intro ℓ σ' hI0
      refine hI0 _ fun rest Dc log pre post p1 p2 p3 p4 h1 Hc Fc hP hsk hks hlog hb2 nfb ho2 nfo hlc e1 e2 e3 hll => ?_
      obtain rfl := Xr h1
      have hpo : post = [] := by cases post with | nil => rfl | cons _ _ => simp at p2
      subst hpo
      rw [List.append_nil] at p1
      subst p1
      refine ⟨ho2, k2 _ _ ?_⟩
      dsimp only [Zat]
      refine k1 _ _ ?_
      refine Ye fun K1 r1 => ?_
      dsimp only [Zaz, Zn]
      simp only [e3]
      exact r1 _ _ _ (kret _ _ _ _ Sub.refl (h σ' Dc m' b log Hc (W.of_sk hP.done (Fc.sz) (by rw [Zon hsk]; exact hdn)) (F1.trans Fc) hsk hm' hlog p3 hb0 nfb hb2 fun e he => let ⟨a, b, c, _⟩ := hlc e he; ⟨a, b, c⟩))
    · intro v xs ℓ σ' K3 k3 r3 hI0
      refine hI0 _ fun rest Dc log pre post p1 p2 p3 p4 h1 Hc Fc hP hsk hks hlog hb2 nfb ho2 nfo hlc e1 e2 e3 hll => ?_
      obtain ⟨k, rest, rfl, rfl, rfl⟩ := Xa h1
      obtain ⟨x0, post, rfl, hx0, p2'⟩ : ∃ x0 post', post = x0 :: post' ∧ x0.n = k ∧ rest = post'.map Rw.n := by
        cases post with
        | nil => simp at p2
        | cons a l => simp only [List.map_cons, List.cons.injEq] at p2; exact ⟨a, l, rfl, p2.1.symm, p2.2⟩
      refine ⟨ho2, ?_⟩
      dsimp only [Xs]
      have hk := hks k (.head _)
      rw [← Zon hsk] at hk
      obtain ⟨y, hy, rfl⟩ := List.mem_map.1 hk
      obtain ⟨u, hu, rfl⟩ := Ztg hy
      have hic := hP.inc
      have hq0 := p4 u.1 hy x0 (.head _) hx0
      refine Zs fun K4 k4 => ?_
      dsimp only [Zat, Zi1, Zq, Zn, Wn, Zax, Y4, Loc.set, String.reduceBEq, cond_true, cond_false, Zbh]
      simp only [e1, e2, Hc.rowsA]
      refine Hc.item hic hu (Hc.item2 hu (Zpr ?_))
      cases q : (u.1.h == some (m' : Int)) with
      | false =>
        simp only
        exact k4 _ _ (k3 _ _ (fun _ kI => kI (rest) (Dc) (log) (pre ++ [x0]) (post) (by simpa using p1) (p2') ((by rw [List.filter_append, List.map_append, ← p3, List.filter_cons_of_neg (by rw [← hq0, q]; simp)]; simp)) (fun y' hy' x hx e => p4 y' hy' x (.tail _ hx) e) (rfl) (Hc) (Fc) (hP.skip hy rfl (by simpa using q)) (hsk) (fun k' hk' => hks k' (.tail _ hk')) (hlog) (hb2) (nfb) (ho2) (nfo) (hlc) (e1) (e2) (e3) (by simp at hll; exact Zyt hll)))
      | true =>
        simp only
        have hum : u.1.h = some (m' : Int) := by simpa using q
        refine Zs fun K5 k5 => ?_
        dsimp only [tDo, Xd, Ziu, Wy, Yl, Zy, Zq, Zn, Y4, Loc.set, String.reduceBEq, cond_true, cond_false, Zbh, Y8]
        simp only [e1, e2, e3, hb2, Hc.rowsA]
        refine ⟨trivial, Hc.instOf (by decide +kernel), Hc.item hic hu (Hc.item0 hu (Hc.item hic hu (Hc.item1 hu ?_)))⟩
        have hT : Dc.T.length < 64 := by
          have := congrArg List.length hsk
          simp [HD.S] at this
          rw [this]
          exact Nat.lt_of_le_of_lt (List.length_filter_le _ _) (by simpa [HD.S] using h64)
        have hm100 : m' ≤ 100 := by
          have := Zaw hP.cnt; simp [HD.S] at this; exact Zys hT this
        refine ⟨x, Dc, u, m', rfl, hu, Hc, hic, hT, hm100, Y7 hP.proper, hP.cnt.all hP.inr _ _, hP.cnt.all hP.inr _ _, fun σ3 D3 hue other nums c H3 F3 hto hc1 hc2 hc3 => ?_⟩
        have nfb3 : ¬ D3.foot b := fun z => by
          rcases F3.new b z with w | w
          · exact nfb w
          · rw [hb2] at w; cases w
        have nfo3 : ¬ D3.foot o := fun z => by
          rcases F3.new o z with w | w
          · exact nfo w
          · rw [ho2] at w; cases w
        have b3 : σ3 b = some (.list (log.map Zb6.v)) := F3.keep b _ hb2 nfb
        have o3 : σ3 o = some (.list ((D.drop t.1.n).T.map fun t => V.int t.1.n)) := F3.keep o _ ho2 nfo
        simp only [b3]
        have p4' : ∀ y ∈ D3.S, ∀ x ∈ post, x.n = y.n → (y.h == some (m' : Int)) = (x.h == some (m' : Int)) := fun y' hy' x hx e => by
          have hlt : x0.n < x.n := by
            have hinc : Inc (drp t.1.n D.S) := hi.filter _
            rw [p1] at hinc
            exact (List.pairwise_cons.1 (List.pairwise_append.1 hinc).2.1).1 x hx
          obtain ⟨y0, hy0, e0, e1⟩ := hto.tag hP.proper hic hy rfl rfl rfl y' hy' (by exact Zyr hx0 e hlt)
          rw [e1]; exact p4 y0 hy0 x (.tail _ hx) (by rw [e0, e])
        have hcb : c ≠ b := fun z => by rw [z, hb2] at hc1; cases hc1
        refine ⟨by simp [Y3]; simp at hll; exact Zyq hll, k5 _ _ (k4 _ _ (k3 _ _ (fun _ kI => kI (rest) (D3) (log ++ [⟨u.1.n, hue, other, nums, c⟩]) (pre ++ [x0]) (post) (by simpa using p1) (p2') ((by rw [List.filter_append, List.map_append, List.map_append, ← p3, List.filter_cons_of_pos (by rw [← hq0, q])]; simp [hx0])) (p4') (rfl) (H3.setList b3 fun z => nfb3 (.inr (.inr z))) ((Fc.trans F3).setNew (by exact hb)) (?_) (?_) (fun k' hk' => hks k' (.tail _ hk')) (?_) (?_) (nfb3) (?_) (nfo3) (fun e he => ?_) (e1) (e2) (e3) (by simp at hll ⊢; exact Zyp hll))))⟩
        · refine hP.step (hto.hued (Y7 hP.proper) (Za9 (fun _ => Xv) hic) (x := Wk u.1.n none u.1) (List.mem_map.2 ⟨u.1, hy, rfl⟩) Xv (Wb rfl) ?_ ?_)
          · unfold Wk; rw [if_pos rfl]
          · unfold Wk; rw [if_pos rfl]
        · have hh := hto.hued (Y7 hP.proper) (Za9 (fun _ => Xv) hic) (x := Wk u.1.n none u.1) (List.mem_map.2 ⟨u.1, hy, rfl⟩) Xv (Wb rfl) (by unfold Wk; rw [if_pos rfl]) (by unfold Wk; rw [if_pos rfl])
          rw [hh.sk, Zg2 fun _ => Zfp]; exact hsk
        · exact .snoc hlog hy rfl hum hto
        · rw [Zd]; simp [Zb6.v]
        · rw [Ze hob]; exact o3
        · rcases List.mem_append.1 he with w | w
          · obtain ⟨a1, a2, a3, a4⟩ := hlc e w
            refine ⟨by rw [Ze a4]; exact F3.keep _ _ a1 a3, a2, fun z => ?_, a4⟩
            rcases F3.new _ z with v | v
            · exact a3 v
            · rw [a1] at v; cases v
          · rw [List.mem_singleton.1 w]
            exact ⟨by rw [Ze hcb]; exact hc3, F1.dom _ (Fc.dom _ hc1), hc2, hcb⟩
    · unfold HD.drop
      simp only [drp, HD.S, List.filter_map, List.map_map]
      rfl
    · simp only [List.length_nil, List.length_map]
      have := List.length_filter_le (fun x : Rw => x.n != t.1.n) D.S
      unfold drp
      simp [HD.S] at *; exact Zyo h64 this
end
section
open PySem PySem.W PyProof.Rows
variable {g : Gr} {P : Params}
theorem Zpm (hK : (KK P).In g.b0) (N : NN g) : Xz g 2 (.ref 342) Zkl := by
  refine Xz.mono (Z7 (r := 1) (ps := ["_law_script", "_law_k"]) (hK 342 _ rfl) rfl (Zt (hK 341 _ rfl) rfl rfl) rfl (by intro vs h; obtain ⟨a0, a1, rfl⟩ := Zsn h; rfl) rfl rfl rfl (by decide +kernel)
    (Zc (Ys (Yb (Za (at_ (i := 1) rfl) rfl) (Zm (at_ (i := 2) rfl) (Z2 N.n_len Xi) (Zb (Za (.head _) rfl) Zf) rfl) rfl) (Zc (Zl (Zj (Za (.head _) rfl) (Za (at_ (i := 1) rfl) rfl) (fun _ _ => rfl)))
  Zh) Zh)
  (Zc (Zl Zg)
  Zh))) ?_
  rintro xs σ Q E ⟨ns, k, rfl, h⟩
  refine Yy rfl fun K KE kret _ _ => ?_
  dsimp only [Loc.setAll]
  refine Yp fun K1 k1 r1 => ?_
  dsimp only [Zat, Zi1, Yk, Zhz, Ziv, Yl, Zy, Zn, Wn, Zax, Loc.set, String.reduceBEq, cond_true, cond_false]
  simp only [List.length_map]
  by_cases hk : (k : Int) < (ns.length : Int)
  · simp only [decide_eq_true hk]
    refine Ye fun K2 r2 => ?_
    dsimp only [Zaz, Zn, Y4, Loc.set, String.reduceBEq, cond_true, cond_false]
    simp only [Za8, Zsk (r := ns) (show k < ns.length by exact Z2b hk)]
    exact r2 _ _ _ (r1 _ _ _ (kret _ _ _ _ Sub.refl (h _)))
  · simp only [decide_eq_false hk]
    refine k1 _ _ ?_
    refine Ye fun K2 r2 => ?_
    dsimp only [Zaz, Zq]
    exact r2 _ _ _ (kret _ _ _ _ Sub.refl (h _))
theorem Ztq (hK : (KK P).In g.b0) (N : NN g) : Xz g 2 (.ref 349) Zor := by
  refine Xz.mono (Z7 (r := 1) (ps := ["_law_cell", "_law_k"]) (hK 349 _ rfl) rfl (Zt (hK 348 _ rfl) rfl rfl) rfl (by intro vs h; obtain ⟨a0, a1, rfl⟩ := Zsn h; rfl) rfl rfl rfl (by decide +kernel)
    (Zc (Zl (Zp (Zp (Zp (Zp (Zp (Za (.head _) rfl) Zg) (Zp (Zp Zg (Za (at_ (i := 1) rfl) rfl)) (Za (at_ (i := 1) rfl) rfl))) (Zp Zg (Za (at_ (i := 1) rfl) rfl))) Zg) Zg))
  Zh)) ?_
  rintro xs σ Q E ⟨c, k, rfl, h0, h1, h⟩
  refine Yy rfl fun K KE kret _ _ => ?_
  dsimp only [Loc.setAll]
  refine Ye fun K1 r1 => ?_
  dsimp only [Zaz, Zq, Zn, Zdm, Zcj, Loc.set, String.reduceBEq, cond_true, cond_false]
  have hb : Builtin.Int.intBits k ≤ 64 := intBits_le_64 (by exact Zyn h0 h1) (by exact Zym h0 h1)
  refine ⟨.of_right (by decide), .of_right hb, .of_right hb, .of_right hb, by decide, by decide, r1 _ _ _ (kret _ _ _ _ Sub.refl (h _ ?_))⟩
  exact Int.fdiv_nonneg (Int.fmod_nonneg_of_pos _ (by decide)) (by decide)
theorem Zng (hK : (KK P).In g.b0) (N : NN g) : Xz g 2 (.ref 363) Zh7 := by
  refine Xz.mono (Z7 (r := 1) (ps := ["_law_cell"]) (hK 363 _ rfl) rfl (Zt (hK 362 _ rfl) rfl rfl) rfl (by intro vs h; obtain ⟨a0, rfl⟩ := Zo8 h; rfl) rfl rfl rfl (by decide +kernel)
    (Zc (Zo (at_ (i := 1) rfl) rfl (Z3 (Zb (Z0 (Zb Zg (Zb Zg (Zb Zg Zf)))) (Zb (Z0 (Zb Zg (Zb Zg (Zb Zg Zf)))) (Zb (Z0 (Zb Zg (Zb Zg (Zb Zg Zf)))) (Zb (Z0 (Zb Zg (Zb Zg (Zb Zg Zf)))) (Zb (Z0 (Zb Zg (Zb Zg (Zb Zg Zf)))) (Zb (Z0 (Zb Zg (Zb Zg (Zb Zg Zf)))) (Zb (Z0 (Zb Zg (Zb Zg (Zb Zg Zf)))) (Zb (Z0 (Zb Zg (Zb Zg (Zb Zg Zf)))) Zf))))))))) (fun _ => rfl))
  (Zc (Zl (Zj (Zp (Za (at_ (i := 1) rfl) rfl) (Z3 (Zb (Z0 (Zb (Zp Zg (Zp (Zp (Za (.head _) rfl) Zg) Zg)) (Zb (Zp Zg (Zp (Zp (Za (.head _) rfl) Zg) Zg)) (Zb (Zp Zg (Zp (Zp (Za (.head _) rfl) Zg) Zg)) Zf)))) (Zb (Z0 (Zb Zg (Zb Zg (Zb Zg Zf)))) Zf)))) (Zp (Za (.head _) rfl) Zg) (fun _ _ => rfl)))
  Zh))) ?_
  rintro xs σ Q E ⟨c, rfl, h⟩
  refine Yy rfl fun K KE kret _ _ => ?_
  dsimp only [Loc.setAll]
  refine Yp fun K1 k1 r1 => ?_
  dsimp only [Z4, Wx, Ww, Yl, Zy, Zq, List.length_cons, List.length_nil]
  have fits3 : Y3 (0 + 1 + 1 + 1) := by simp [Y3]
  refine ⟨fits3, fits3, fits3, fits3, fits3, fits3, fits3, fits3, Yn rfl, fun a ha => k1 _ _ ?_⟩
  refine Ye fun K1 r1 => ?_
  dsimp only [Zaz, Wx, Ww, Yl, Zy, Zq, Zn, Zdm, Zcj, Y4, Loc.set, String.reduceBEq, cond_true, cond_false, List.length_cons, List.length_nil]
  refine ⟨by decide, by decide, by decide, by decide, by decide, by decide, fits3, fits3, Yn rfl, fun b hb => ⟨_, _, Zk Zd hb, Zd, Yn rfl, fun d hd => ⟨by decide, ?_⟩⟩⟩
  have h10 := Int.fmod_nonneg_of_pos c (show (0 : Int) < 10 by decide)
  have h11 := Int.fmod_lt_of_pos c (show (0 : Int) < 10 by decide)
  have hq : ∀ z : Int, 1 ≤ 1 + z.fmod 8 ∧ 1 + z.fmod 8 ≤ 8 := fun z => by
    have a := Int.fmod_nonneg_of_pos z (show (0 : Int) < 8 by decide)
    have b := Int.fmod_lt_of_pos z (show (0 : Int) < 8 by decide)
    exact Zyl a b
  obtain ⟨v, hv, hm⟩ := Zdv (xs := [V.tup [V.int 8, V.int 8, V.int 2], V.tup [V.int 7, V.int 8, V.int 2], V.tup [V.int 6, V.int 6, V.int 3], V.tup [V.int 8, V.int 8, V.int 3], V.tup [V.int 4, V.int 4, V.int 3], V.tup [V.int 3, V.int 3, V.int 40], V.tup [V.int 2, V.int 5, V.int 40], V.tup [V.int 5, V.int 5, V.int 2]] ++
    [V.tup [V.int (1 + (c.fdiv 10).fmod 8), V.int (1 + (c.fdiv 80).fmod 8), V.int (2 + (c.fdiv 640).fmod 7)], V.tup [V.int 8, V.int 8, V.int 40]]) h10 (by simpa using h11)
  refine Zdt Zd hv (r1 _ _ _ (kret _ _ _ _ (((Sub.refl.new ha).new hb).new hd) ?_))
  have q1 := hq (c.fdiv 10)
  have q2 := hq (c.fdiv 80)
  simp only [List.cons_append, List.nil_append, List.mem_cons, List.not_mem_nil, or_false] at hm
  rcases hm with rfl | rfl | rfl | rfl | rfl | rfl | rfl | rfl | rfl | rfl <;> exact h _ _ _ (by omega) (by omega) (by omega) (by omega)
end
section
open PySem PySem.W PyProof.Rows
variable {g : Gr} {P : Params}
noncomputable abbrev CL : Addr := 128
theorem Zk3 (hK : (KK P).In g.b0) (N : NN g) (hX_BadLine : Znv g CL) : Xz g 2 (.ref 308) (Zfq CL) := by
  refine Xz.mono (Z7 (r := 1) (ps := ["word"]) (hK 308 _ rfl) rfl (Zt (hK 307 _ rfl) rfl rfl) rfl (by intro vs h; obtain ⟨a0, rfl⟩ := Zo8 h; rfl) rfl rfl rfl (by decide +kernel)
    (Zc (Ys (Y6 (Xq (Zae (Zfo Zg (Zm (at_ (i := 1) rfl) (Z2 N.n_len Zi4) (Zb (Za (.head _) rfl) Zf) rfl) (Z6 (at_ (i := 2) rfl) (N.n_MOST_FIGURES) (fun _ => Zx.mpr ⟨_, rfl⟩)) rfl)) (Xq (Zae (We (Zm (at_ (i := 3) rfl) (Z2 N.n_all Zh2) (Zb (Y5 (by decide +kernel) (Zoe (Za (.head _) rfl)) (.name (at_ (i := 1) rfl) rfl) (by decide +kernel) Xp (Zol (Za (at_ (i := 1) rfl) rfl) (Z6 (at_ (i := 2) rfl) (N.n_FIGURES) (fun _ => Z8.mpr ⟨Yj (by decide), _, rfl⟩)) rfl) (fun _ _ => rfl)) Zf) rfl) (fun _ _ => rfl))) Wa))) (Zc (Ws (at_ (i := 4) rfl) (N.n_BadLine) hX_BadLine (Zb (Zw (Yj (by decide))) Zf) rfl)
  Zh) Zh)
  (Zc (Ys (Y6 (Zai (Yb (Zm0 (Za (.head _) rfl) Zg (fun _ _ => rfl)) (Zw (Yj (by decide))) rfl) (Zai (Yb (Za (.head _) rfl) (Zw (Yj (by decide))) rfl) Zav))) (Zc (Ws (at_ (i := 4) rfl) (N.n_BadLine) hX_BadLine (Zb (Zw (Yj (by decide))) Zf) rfl)
  Zh) Zh)
  (Zc (Zl (Zm (at_ (i := 5) rfl) (Zan N.n_int Zoj) (Zb (Za (.head _) rfl) Zf) rfl))
  Zh)))) ?_
  rintro xs σ Q E ⟨w, rfl, ha, hl, h1, h2⟩
  refine Yy rfl fun K KE kret _ kexc => ?_
  dsimp only [Loc.setAll]
  refine Zs fun K1 k1 => ?_
  dsimp only [Zat, Zi1, Yk, Zhz, Ziv, Yu, Zau, Yl, Zy, Zq, Zn, Zdg, Wl, Zi0, Zsg, Xo, Zlo, Zax, Loc.set, String.reduceBEq, cond_true, Zqp, Zsh]
  have hr : ∀ {x : Str} {ℓ' : Loc} {σ' : AH} {Kx : Fl → Loc → AH → Prop}, okW w = false → Sub σ σ' → Zsf (Ziz CL (Zy (Zq (V.str x)) Yl)) Zat ℓ' σ' Kx KE := fun hn hs => by
    refine Zs fun _ _ => ?_
    dsimp only [Yl, Zy, Zq, List.length_cons, List.length_nil, Ziz]
    exact ⟨by simp, kexc _ _ _ _ hs (h2 (Zvl hn))⟩
  by_cases l1 : (1 : Int) ≤ (w.length : Int)
  · simp only [decide_eq_true l1]
    by_cases l2 : (w.length : Int) ≤ 30
    · simp only [decide_eq_true l2, Bool.not_true]
      refine ⟨ha, fun h => (nomatch h), ?_⟩
      refine Wu (fun ch => V.str ⟨#[ch]⟩) (fun ch => V.bool (Zl8 ch)) trivial (sg w) (fun ch _ => ⟨_, fun P h => h, fun Qv h => ?_⟩) fun a han => ?_
      · dsimp only [Zq, Zn, Zax, Loc.set, Loc.bare, String.reduceBEq, cond_true, cond_false, Zuq, Zwv]
        rw [Zil]; exact h
      · refine ⟨a, (sg w).map Zl8, rfl, ?_, ?_⟩
        · rw [Zd, List.map_map]; rfl
        · cases hall : ((sg w).map Zl8).all id with
          | false =>
            refine hr ?_ (Sub.refl.new han)
            have : (sg w).all Zl8 = false := by rw [← hall, List.all_map]; rfl
            unfold okW; rw [this]; simp
          | true =>
            have hal : (sg w).all Zl8 = true := by rw [← hall, List.all_map]; rfl
            refine k1 _ _ ?_
            refine Zs fun K2 k2 => ?_
            dsimp only [Zat, Zi1, Zq, Zn, Zkg, Xo, Wn, Zax, Loc.set, String.reduceBEq, cond_true, Zsi, Ztl]
            obtain ⟨ch, rest, ew⟩ := Zn0 (w := w) (by exact Zte hl l1 l2)
            have hok := Zvj (by exact Zte hl l1 l2) (by exact Zu3 hl l1 l2) hal ew
            have hch : ch < 128 := Zab.mp ha ch (by rw [ew]; exact .head _)
            have hint := Zkx (w := w) (by exact Zte hl l1 l2) (by exact Zu3 hl l1 l2) (List.all_eq_true.mp hal)
            have fin : okW w = true → Zsf (Zaz (Yk (Zy (Zn "word") Yl) Zun)) Zat (Loc.empty.set "word" (V.str w)) (σ.set a (AO.list (List.map (fun ch => V.bool (Zl8 ch)) (sg w)))) K KE := fun q => by
              refine Ye fun K3 r3 => ?_
              dsimp only [Zaz, Yk, Yl, Zy, Zn, Loc.set, String.reduceBEq, cond_true]
              exact ⟨w, Zt5 w, rfl, hint, by exact Zyk hl l1 l2, r3 _ _ _ (kret _ _ _ _ (Sub.refl.new han) (h1 _ (Zvk q)))⟩
            refine ⟨ch, Zne ew, ?_⟩
            rw [Zqk]
            refine Zaa (Zv9 hch) (by decide +kernel) ?_
            rw [Zr3]
            by_cases hz : ch = 48
            · simp only [decide_eq_true hz]
              refine Zaa (Zb2 ha) (by decide +kernel) ?_
              cases hw : (w == Zmo) with
              | true => simp only [Bool.not_true]; exact k2 _ _ (fin (by rw [hok, hw]; simp))
              | false => simp only [Bool.not_false]; exact hr (by rw [hok, hw, decide_eq_true hz]; rfl) (Sub.refl.new han)
            · simp only [decide_eq_false hz]
              exact k2 _ _ (fin (by rw [hok, decide_eq_false hz]; rfl))
    · simp only [decide_eq_false l2, Bool.not_false]
      refine hr ?_ Sub.refl
      unfold okW; rw [decide_eq_false (p := w.length ≤ 30) (by exact Zyj hl l1 l2)]; simp
  · simp only [decide_eq_false l1, Bool.not_false]
    refine hr ?_ Sub.refl
    unfold okW; rw [decide_eq_false (p := 1 ≤ w.length) (by exact Zyi hl l1)]; simp
end
section
open PySem PySem.W PyProof.Rows
variable {g : Gr} {P : Params}
theorem Zpl (hK : (KK P).In g.b0) (N : NN g) (hX_BadLine : Znv g CL) (hZ : Zew g 303) (F_number_of : FnG g "number_of" 2 (Zfq CL)) : Xz g 3 (.ref 313) (Zkk CL) := by
  refine Xz.mono (Z7 (r := 2) (ps := ["line"]) (hK 313 _ rfl) rfl (Zt (hK 312 _ rfl) rfl rfl) rfl (by intro vs h; obtain ⟨a0, rfl⟩ := Zo8 h; rfl) rfl rfl rfl (by decide +kernel)
    (Zc (Ys (Zae (We (Zh3 (at_ (i := 2) rfl) (N.n_isinstance) (at_ (i := 3) rfl) (N.n_str) (Za (.head _) rfl) rfl) (fun _ _ => rfl))) (Zc (Ws (at_ (i := 4) rfl) (N.n_BadLine) hX_BadLine (Zb (Zw (Yj (by decide))) Zf) rfl)
  Zh) Zh)
  (Zc (Zo (at_ (i := 1) rfl) rfl (Zvn (Za (.head _) rfl) (Zb (Zw (Yj (by decide))) Zf) rfl rfl rfl rfl) (fun _ => rfl))
  (Zc (Ys (Y6 (Xq (Zkj (at_ (i := 5) rfl) (N.n_SIZES) hZ (Zj (Za (at_ (i := 1) rfl) rfl) Zg (fun _ _ => rfl))) (Xq (Yb (Zm (at_ (i := 6) rfl) (Z2 N.n_len Zi4) (Zb (Za (at_ (i := 1) rfl) rfl) Zf) rfl) (Zi5 (at_ (i := 5) rfl) (N.n_SIZES) hZ (Zj (Za (at_ (i := 1) rfl) rfl) Zg (fun _ _ => rfl)) (fun _ _ => rfl)) rfl) Wa))) (Zc (Ws (at_ (i := 4) rfl) (N.n_BadLine) hX_BadLine (Zb (Zw (Yj (by decide))) Zf) rfl)
  Zh) Zh)
  (Zc (Zl (Zm (at_ (i := 7) rfl) (Zan N.n_tuple Zi2) (Zb (Zp (Z3 (Zb (Zj (Za (at_ (i := 1) rfl) rfl) Zg (fun _ _ => rfl)) Zf)) (Y5 (by decide +kernel) (Z5 (Zgz (Za (at_ (i := 1) rfl) rfl) (Zfm Zg) Zod)) (.name (at_ (i := 1) rfl) rfl) (by decide +kernel) Xp (Zm (at_ (i := 2) rfl) F_number_of (Zb (Za (at_ (i := 1) rfl) rfl) Zf) rfl) (fun _ _ => rfl))) Zf) rfl))
  Zh))))) ?_
  rintro xs σ Q E hh
  have hlen : ∃ v, xs = [v] := by cases hh with | text t e => exact ⟨_, e⟩ | none v e => exact ⟨_, e⟩
  obtain ⟨v, rfl⟩ := hlen
  refine Yy rfl fun K KE kret _ kexc => ?_
  dsimp only [Loc.setAll]
  refine Zs fun K1 k1 => ?_
  dsimp only [Zat, Zi1, Zn, Zdg, Wl, Zi0, Loc.set, String.reduceBEq, cond_true, Zwo]
  have hr : ∀ {x : Str} {ℓ' : Loc} {σ' : AH} {Kx : Fl → Loc → AH → Prop}, E CL σ → Sub σ σ' → Zsf (Ziz CL (Zy (Zq (V.str x)) Yl)) Zat ℓ' σ' Kx KE := fun hn hs => by
    refine Zs fun _ _ => ?_
    dsimp only [Yl, Zy, Zq, List.length_cons, List.length_nil, Ziz]
    exact ⟨by simp, kexc _ _ _ _ hs hn⟩
  cases hh with
  | none v' e hn h2 =>
    cases e
    rw [show Zub v σ = some false from hn]
    exact hr h2 Sub.refl
  | text t e ha hl h1 h2 =>
    cases e
    simp only [Zub, Bool.not_true]
    refine k1 _ _ ?_
    refine Zs fun K2 k2 => ?_
    dsimp only [Z4, Xd, Ziu, Yl, Zy, Zq, Zn, Loc.set, String.reduceBEq, cond_true]
    refine ⟨trivial, t, _, rfl, Zqr, hl, fun a han => k2 _ _ ?_⟩
    obtain ⟨w0, ws, ew⟩ := Zmp t
    have es : Txt.split t (Str.ofString " ") = w0 :: ws := by rw [Zqr]; exact ew
    simp only [es]
    refine Zs fun K3 k3 => ?_
    dsimp only [Zat, Zi1, Yk, Zhz, Ziv, Yl, Zy, Zq, Zn, Zsg, Xo, Wn, Zax, Y4, Loc.set, String.reduceBEq, cond_true, cond_false, Zqp, Zn6, Zll]
    have hat : atV ((w0 :: ws).map V.str) 0 = some (.str w0) := Yt (i := 0) rfl
    have hs := (Sub.refl (σ := σ)).new (o := AO.list ((w0 :: ws).map V.str)) han
    refine Zdt Zd hat ⟨w0, rfl, ?_⟩
    have hdue : due? t = if sizeOf? w0 = some (ws.length + 1) then (Zck ws).map fun ns => (w0, ns) else none := by unfold due?; rw [ew]
    cases hz : sizeOf? w0 with
    | none =>
      simp only [Option.isSome_none, Bool.not_false]
      exact hr (h2 (by rw [hdue, hz, if_neg (by simp)])) hs
    | some k =>
      simp only [Option.isSome_some, Bool.not_true, Zd]
      refine Zdt Zd hat ⟨w0, k, rfl, hz, ?_⟩
      refine Zga ?_
      have hn : ((((w0 :: ws).map V.str).length : Nat) : Int) = ((ws.length + 1 : Nat) : Int) := by simp
      rw [hn]
      by_cases hk : ws.length + 1 = k
      · have hb : ((((ws.length + 1 : Nat) : Int)) == ((k : Nat) : Int)) = true := by rw [hk]; simp
        rw [hb]
        simp only [Bool.not_true]
        refine k3 _ _ ?_
        refine Ye fun K4 r4 => ?_
        dsimp only [Zaz, Zag, W6, Yk, Yu, Zau, Wx, Yl, Zy, Zq, Zn, Zdm, Zcj, Y4, Zn5, Zlp, Zj3, Loc.set, String.reduceBEq, cond_true, cond_false, List.length_cons, List.length_nil]
        have hasc : ∀ w ∈ ws, Zei w ∧ w.length ≤ 1000 := fun w hw => have hm : w ∈ Wm t := by rw [ew]; exact .tail _ hw
          ⟨Znz ha hm, Nat.le_trans (Ziw hm) hl⟩
        have hcnt : ws.length ≤ 1001 := by have := Zfh t; rw [ew] at this; simp at this; exact Zyh hl hk this
        have hdue' : due? t = (Zck ws).map fun ns => (w0, ns) := by rw [hdue, hz, if_pos (by rw [hk])]
        refine Zdt Zd hat ⟨Yn rfl, fun a1 ha1 => ⟨by simp [Zb4], trivial, ?_⟩⟩
        simp only [Zk Zd ha1]
        intro a3 ha3
        simp only [Zd]
        rw [show Zfg (some 1) none ((w0 :: ws).map V.str) = ws.map V.str from rfl]
        have hs3 := (hs.new (o := AO.list [V.str w0]) ha1).new (o := AO.list (ws.map V.str)) ha3
        refine ⟨fun h => (nomatch h), ?_⟩
        refine Zj1 CL V.str (fun w => (num? w).map V.int) Zd ws [] (fun w hw => ⟨_, fun P h => h, fun Qv hv he => ?_⟩) (fun vs hvs a5 ha5 => ?_) (fun hnone => ?_)
        · dsimp only [Yk, Yl, Zy, Zn, Loc.set, Loc.bare, String.reduceBEq, cond_true, cond_false]
          exact ⟨w, rfl, (hasc w hw).1, (hasc w hw).2, fun n hn => hv _ (by rw [hn]; rfl), fun hn => he (by rw [hn]; rfl)⟩
        · rw [Zeq] at hvs
          obtain ⟨ns, hns, rfl⟩ := Option.map_eq_some_iff.mp hvs
          have hnl : ns.length = ws.length := Zcf hns
          refine ⟨[V.str w0], ns.map V.int, ?_, rfl, by simp only [Y3, List.length_cons, List.length_nil, List.length_map]; exact Zyg hk hcnt hnl, fun a7 ha7 => ⟨a7, _, rfl, Zd, r4 _ _ _ (kret _ _ _ _ ((hs3.new ha5).new ha7) (h1 w0 ns ?_))⟩⟩
          · rw [Zk _ ha5]
            exact Zk Zd ha3
          · rw [hdue', hns]; rfl
        · rw [Zeq, Option.map_eq_none_iff] at hnone
          exact kexc _ _ _ _ hs3 (h2 (by rw [hdue', hnone]; rfl))
      · have hb : ((((ws.length + 1 : Nat) : Int)) == ((k : Nat) : Int)) = false := by rw [beq_eq_false_iff_ne]; exact Zyf hk
        rw [hb]
        simp only [Bool.not_false]
        exact hr (h2 (by rw [hdue, hz, if_neg (by simp; exact Zye hk)])) hs
end
section
open PySem PySem.W PyProof.Rows
variable {g : Gr} {P : Params}
theorem Zk1 (hK : (KK P).In g.b0) (N : NN g) : Xz g 2 (.ref 318) Zby := by
  refine Xz.mono (Z7 (r := 1) (ps := ["row"]) (hK 318 _ rfl) rfl (Zt (hK 317 _ rfl) rfl rfl) rfl (by intro vs h; obtain ⟨a0, rfl⟩ := Zo8 h; rfl) rfl rfl rfl (by decide +kernel)
    (Zc (Zbm (.cons (at_ (i := 1) rfl) rfl (.cons (at_ (i := 2) rfl) rfl (.cons (at_ (i := 3) rfl) rfl (.cons (at_ (i := 4) rfl) rfl .nil)))) (Za (.head _) rfl) (fun _ => rfl) (fun _ => rfl))
  (Zc (Zo (at_ (i := 5) rfl) rfl (Z3 (Zb (Za (at_ (i := 1) rfl) rfl) (Zb (Za (at_ (i := 2) rfl) rfl) Zf))) (fun _ => rfl))
  (Zc (Ys (Yb (Za (at_ (i := 3) rfl) rfl) Za2 rfl) (Zc (Zo (at_ (i := 5) rfl) rfl (Zp (Zp (Za (at_ (i := 5) rfl) rfl) (Z3 (Zb (Za (at_ (i := 3) rfl) rfl) Zf))) (Za (at_ (i := 4) rfl) rfl)) (fun _ => rfl))
  Zh) Zh)
  (Zc (Zl (Zvo (Zw (Yj (by decide))) (Zb (Y5 (by decide +kernel) (Z5 (Za (at_ (i := 5) rfl) rfl)) (.name (at_ (i := 1) rfl) rfl) (by decide +kernel) Xp (Zm (at_ (i := 2) rfl) (Zan N.n_str Zbw) (Zb (Za (at_ (i := 1) rfl) rfl) Zf) rfl) (fun _ _ => rfl)) Zf) rfl rfl rfl rfl))
  Zh))))) ?_
  rintro xs σ Q E ⟨k, hue, other, nums, c, rfl, hc, hs, hq⟩
  refine Yy rfl fun K KE kret _ _ => ?_
  dsimp only [Loc.setAll]
  refine Zs fun K1 k1 => ?_
  dsimp only [Zd3, Zn, Loc.set, Xs, String.reduceBEq, cond_true, List.length_cons, List.length_nil]
  simp only [Zmt, Zci]
  refine ⟨rfl, k1 _ _ ?_⟩
  dsimp only [Loc.setAll]
  refine Zs fun K1 k1 => ?_
  dsimp only [Z4, Wx, Yl, Zy, Zn, Loc.set, String.reduceBEq, cond_true, cond_false, List.length_cons, List.length_nil]
  refine ⟨Yn rfl, fun pa hpa => k1 _ _ ?_⟩
  have s1 : Sub σ (σ.set pa (.list [V.int k, V.int hue])) := Sub.refl.new hpa
  have hpa1 : (σ.set pa (.list [V.int k, V.int hue])) pa = some (.list [V.int k, V.int hue]) := Zd
  generalize σ.set pa (.list [V.int k, V.int hue]) = σ1 at s1 hpa1 ⊢
  refine Zs fun K1 k1 => ?_
  have fin : ∀ (ℓ2 : Loc) (σ2 : AH) (pb : Addr), Sub σ σ2 → σ2 pb = some (.list ((k :: hue :: Zfs other nums).map V.int)) → ℓ2 "parts" = some (.ref pb) → K1 .next ℓ2 σ2 := by
    intro ℓ2 σ2 pb s2 hpb e1
    refine k1 _ _ ?_
    refine Ye fun K2 r2 => ?_
    dsimp only [Zaz, Zag, W6, Xd, Ziu, Yu, Zau, Yl, Zy, Zq, Zn]
    simp only [e1, hpb]
    have hlr : (Zfs other nums).length ≤ 1001 := by have := hs.len; cases other <;> simp [Zfs] <;> omega
    refine ⟨trivial, nofun, Wu V.int (fun n => V.str (Zbi n)) hpb (k :: hue :: Zfs other nums) (fun n hn => ⟨_, fun P h => h, fun Qv h => ?_⟩) fun b hb => ?_⟩
    · dsimp only [Yk, Yl, Zy, Zn, Loc.set, Loc.bare, String.reduceBEq, cond_true, cond_false, Zmu, Zqq]
      have := hs.le n hn
      exact ⟨_, _, rfl, if_pos ⟨by exact Zu2 this, by exact Zo1 this⟩, h⟩
    · refine ⟨_, b, (k :: hue :: Zfs other nums).map Zbi, rfl, by rw [Zd, List.map_map]; rfl, ?_, ?_⟩
      · have := Zlx (ns := k :: hue :: Zfs other nums) fun n hn => by have := hs.le n hn; exact Zu6 this
        rw [show (Str.ofString " ").length = 1 from by decide +kernel]
        simp only [List.length_map, List.length_cons] at this ⊢
        exact Zyd hlr this
      · rw [Zqr, List.map_cons, Ziy, ← Zek]
        exact r2 _ _ _ (kret _ _ _ _ (s2.new hb) hq)
  refine Zap fun KB kt kf => ?_
  dsimp only [Zq, Zn, Wn, Zax, Loc.set, String.reduceBEq, cond_true, cond_false]
  cases other with
  | none =>
    refine kf _ ?_
    dsimp only [Zat]
    exact fin _ _ pa s1 (by rw [hpa1, hs.no rfl]; rfl) rfl
  | some o =>
    refine kt _ ?_
    refine Zs fun K2 k2 => ?_
    dsimp only [Z4, Wx, Yl, Zy, Zn, Zdm, Zcj, Loc.set, String.reduceBEq, cond_true, cond_false, List.length_cons, List.length_nil]
    refine ⟨Yn rfl, fun q0 hq0 => ?_⟩
    refine ⟨_, _, Zk hpa1 hq0, Zd, Yn rfl, fun q1 hq1 => ?_⟩
    have s2 := (s1.new (o := .list [V.int o]) hq0).new (o := .list ([V.int k, V.int hue] ++ [V.int o])) hq1
    refine ⟨_, _, Zd, s2 _ _ hc, by have := hs.len; simp [Y3]; exact Zyc this, fun q2 hq2 => k2 _ _ ?_⟩
    dsimp only [Zat]
    exact fin _ _ q2 (s2.new hq2) (by rw [Zd]; rfl) rfl
theorem Zv1 (hK : (KK P).In g.b0) (N : NN g) (F_deed_of : FnG g "deed_of" 9 (Zkk CL)) (F_told_text : FnG g "told_text" 9 Zby) (M_come : FnM g (KK P) CC "come" 9 (Zlv CC CB CT)) (M_go : FnM g (KK P) CC "go" 9 (Zq0 CC CP)) : Xz g 10 (.ref 323) (Zou CC CB CT CP CL) := by
  refine Xz.mono (Z7 (r := 9) (ps := ["hall", "line"]) (hK 323 _ rfl) rfl (Zt (hK 322 _ rfl) rfl rfl) rfl (by intro vs h; obtain ⟨a0, a1, rfl⟩ := Zsn h; rfl) rfl rfl rfl (by decide +kernel)
    (Zc (Zo (at_ (i := 2) rfl) rfl (Zm (at_ (i := 3) rfl) F_deed_of (Zb (Za (at_ (i := 1) rfl) rfl) Zf) rfl) (fun _ => rfl))
  (Zc (Ys (Yb (Zj (Za (at_ (i := 2) rfl) rfl) Zg (fun _ _ => rfl)) (Zw (Yj (by decide))) rfl) (Zc (Zl (Z3 (Zb (Zm (at_ (i := 4) rfl) F_told_text (Zb (Zz hK hC M_come (Za (.head _) rfl) (Zb (Zj (Za (at_ (i := 2) rfl) rfl) Zg (fun _ _ => rfl)) (Zb (Zj (Za (at_ (i := 2) rfl) rfl) Zg (fun _ _ => rfl)) Zf)) rfl rfl rfl rfl) Zf) rfl) Zf)))
  Zh) Zh)
  (Zc (Zl (Y5 (by decide +kernel) (Z5 (Zz hK hC M_go (Za (.head _) rfl) (Zb (Zj (Za (at_ (i := 2) rfl) rfl) Zg (fun _ _ => rfl)) Zf) rfl rfl rfl rfl)) (.name (at_ (i := 1) rfl) rfl) (by decide +kernel) Xp (Zm (at_ (i := 2) rfl) F_told_text (Zb (Za (at_ (i := 1) rfl) rfl) Zf) rfl) (fun _ _ => rfl)))
  Zh)))) ?_
  rintro xs σ Q E ⟨x, D, a, b, S, nx, t, rfl, hP, hlow, hasc, hlen, hq, he⟩
  refine Yy rfl fun K KE kret _ kexc => ?_
  dsimp only [Loc.setAll]
  obtain ⟨H, ⟨m, W⟩, few, hnn, rfl, rfl, rfl, rfl⟩ := hP
  refine Yp fun K1 k1 r1 => ?_
  dsimp only [Z4, Yk, Yl, Zy, Zn, Loc.set, String.reduceBEq, cond_true, cond_false]
  refine .text t rfl hasc hlen (fun kk ns hd => k1 _ _ ?_) (fun hd => kexc _ _ _ _ Sub.refl (he CL _ .line (by rw [hd]; exact .bad)))
  rw [hd] at hq he
  rcases Zps hd with ⟨l, r, rfl, rfl⟩ | ⟨n, rfl, rfl⟩
  · refine Yp fun K1 k1 r1 => ?_
    refine Zap fun KB kt kf => ?_
    dsimp only [Zq, Zn, Wn, Zax, Y4, Loc.set, String.reduceBEq, cond_true, cond_false]
    refine Wp (xs := [V.str Xb, V.int l, V.int r]) (Yt (i := 0) rfl) (Zaa (by decide +kernel) (by decide +kernel) ?_)
    rw [show (Xb == Str.ofString "come") = true from by decide +kernel]
    refine kt _ ?_
    refine Ye fun K2 r2 => ?_
    dsimp only [Zaz, Yk, Wx, Yl, Zy, Zq, Zn, Y4, Loc.set, String.reduceBEq, cond_true, cond_false, List.length_cons, List.length_nil, Y8]
    refine ⟨H.instOf (by decide +kernel), Wp (xs := [V.str Xb, V.int l, V.int r]) (Yt (i := 1) rfl) (Wp (xs := [V.str Xb, V.int l, V.int r]) (Yt (i := 2) rfl) ⟨x, D, .int l, .int r, m, true, true, rfl, H, W, by exact Int.lt_of_lt_of_le hlow (by decide), few, rfl, rfl, fun z => ?_, fun z1 z2 => ?_, fun l' r' q1 q2 hl hr hlt σ5 D5 m5 hue other nums c H5 W5 hn5 ha5 hb5 keep5 new5 dom5 hsk5 hHT hc0 nfc hc5 => ?_⟩)⟩
    · exact kexc _ _ _ _ Sub.refl (he CB _ .end_ (.badEnd l r (by rw [Zl6]; exact z)))
    · exact kexc _ _ _ _ Sub.refl (he CT _ .many (.many l r (by rw [Zl6]; exact z1) (by simpa [HD.S] using z2)))
    cases q1; cases q2
    obtain ⟨hsm, hA⟩ := Zmc W hnn (by exact Zu1 hlow hn5) few hlt hl hr H5 W5 hn5 ha5 hb5 keep5 new5 dom5 hsk5 hHT
    exact ⟨D.nx, hue, other, nums, c, rfl, hc5, hsm, ⟨Yn rfl, fun ob hob => r2 _ _ _ (r1 _ _ _ (kret _ _ _ _ Sub.refl (hq _ ob (hA ob hob))))⟩⟩
  · refine Yp fun K1 k1 r1 => ?_
    refine Zap fun KB kt kf => ?_
    dsimp only [Zq, Zn, Wn, Zax, Y4, Loc.set, String.reduceBEq, cond_true, cond_false]
    refine Wp (xs := [V.str Ze4, V.int n]) (Yt (i := 0) rfl) (Zaa (by decide +kernel) (by decide +kernel) ?_)
    rw [show (Ze4 == Str.ofString "come") = false from by decide +kernel]
    refine kf _ ?_
    dsimp only [Zat]
    refine k1 _ _ ?_
    refine Ye fun K2 r2 => ?_
    dsimp only [Zaz, Zag, W6, Yu, Zau, Yl, Zy, Zq, Zn, Y4, Loc.set, String.reduceBEq, cond_true, cond_false, Y8]
    refine ⟨H.instOf (by decide +kernel), Wp (xs := [V.str Ze4, V.int n]) (Yt (i := 1) rfl) ?_⟩
    by_cases hex : ∃ t ∈ D.T, t.1.n = n
    · obtain ⟨t', ht', rfl⟩ := hex
      refine .inl ⟨x, D, m, t', rfl, ht', H, W, by exact Nat.lt_of_le_of_lt few (by decide), fun σ5 D5 m5 fb log H5 W5 F5 hsk5 hcnt5 hlog5 hkeys5 hfb nffb hfb5 hlc5 => ?_⟩
      obtain ⟨hsm, hA⟩ := Zss W hnn few ht' H5 W5 F5 hsk5 hcnt5 hlog5 hkeys5
      simp only [hfb5]
      refine ⟨nofun, Wu Zb6.v (fun e => V.str e.t) hfb5 log (fun e hel => ⟨_, fun P h => h, fun Qv h => ?_⟩) fun ob hob => r2 _ _ _ (kret _ _ _ _ Sub.refl (hq _ ob (hA ob hob)))⟩
      dsimp only [Yk, Yl, Zy, Zn, Loc.set, Loc.bare, String.reduceBEq, cond_true, cond_false]
      exact ⟨e.k, e.hue, e.other, e.nums, e.c, rfl, (hlc5 e hel).1, hsm e hel, h⟩
    · exact .inr ⟨x, D, .int n, true, rfl, H, rfl, fun t' ht' e => hex ⟨t', ht', (by cases e; rfl)⟩, kexc _ _ _ _ Sub.refl (he CP _ .pair (.noPair n fun y hy e => hex (let ⟨t', ht', ey⟩ := List.mem_map.1 hy; ⟨t', ht', by rw [ey]; exact e⟩)))⟩
end
section
open PySem PySem.W PyProof.Rows
variable {g : Gr} {P : Params}
noncomputable def Zuh (C T : Addr) : Option Bool := if C ∈ [CB, CT, CP, CL] ∧ T ∈ [CB, CT, CP, CL] then some (C == T) else none
theorem hT (C T : Addr) (b : Bool) (h : Zuh C T = some b) : exmOne (KK P) (.ref C) (.ref T) = some b := by
  unfold Zuh at h
  split at h
  · rename_i hc
    obtain ⟨h1, h2⟩ := hc
    simp only [List.mem_cons, List.not_mem_nil, or_false] at h1 h2
    rcases h1 with rfl | rfl | rfl | rfl <;> rcases h2 with rfl | rfl | rfl | rfl <;> (cases h; kernel_rfl)
  · cases h
theorem Zrs (hK : (KK P).In g.b0) (N : NN g) (F_done : FnG g "done" 10 (Zou CC CB CT CP CL)) : Xz g 11 (.ref 330) (Zh8 CC) := by
  refine Xz.mono (Z7 (r := 10) (ps := ["hall", "line"]) (hK 330 _ rfl) rfl (Zt (hK 329 _ rfl) rfl rfl) rfl (by intro vs h; obtain ⟨a0, a1, rfl⟩ := Zsn h; rfl) rfl rfl rfl (by decide +kernel)
    (Zc (Zoc hK hT (Zc (Zl (Zm (at_ (i := 2) rfl) F_done (Zb (Za (.head _) rfl) (Zb (Za (at_ (i := 1) rfl) rfl) Zf)) rfl))
  Zh)
  (.cons (at_ (i := 3) rfl) (N.n_BadEnd) (Zc (Zl (Z3 (Zb (Zw (Yj (by decide))) Zf)))
  Zh)
  (.cons (at_ (i := 4) rfl) (N.n_TooMany) (Zc (Zl (Z3 (Zb (Zw (Yj (by decide))) Zf)))
  Zh)
  (.cons (at_ (i := 5) rfl) (N.n_NoPair) (Zc (Zl (Z3 (Zb (Zw (Yj (by decide))) Zf)))
  Zh)
  (.cons (at_ (i := 6) rfl) (N.n_BadLine) (Zc (Zl (Z3 (Zb (Zw (Yj (by decide))) Zf)))
  Zh)
  .nil)))))
  Zh)) ?_
  rintro xs σ Q E ⟨x, D, a, b, S, nx, t, rfl, hP, hlow, hasc, hlen, hq⟩
  refine Yy rfl fun K KE kret _ _ => ?_
  dsimp only [Loc.setAll]
  refine Ye fun K1 r1 => ?_
  dsimp only [Zuj]
  refine Ye fun K2 r2 => ?_
  dsimp only [Zaz, Yk, Yl, Zy, Zn, Loc.set, String.reduceBEq, cond_true, cond_false]
  refine ⟨x, D, a, b, S, nx, t, rfl, hP, hlow, hasc, hlen, fun σ' ob hA => r2 _ _ _ (r1 _ _ _ (kret _ _ _ _ Sub.refl (hq _ _ hA))), fun X o hX hA => ?_⟩
  have fin : ∀ {ℓ' : Loc} {KE' : Addr → Loc → AH → Prop}, Zsf (Zaz (Wx (Zy (Zq (V.str o)) Yl))) Zat ℓ' σ K1 KE' := by
    intro ℓ' KE'
    refine Ye fun K3 r3 => ?_
    dsimp only [Zaz, Wx, Yl, Zy, Zq, List.length_cons, List.length_nil]
    exact ⟨Yn rfl, fun ob hob => r3 _ _ _ (r1 _ _ _ (kret _ _ _ _ Sub.refl (hq _ ob (.same hP hA (Sub.refl.new hob) hob Zd))))⟩
  cases hX with
  | end_ => exact fin
  | many => exact fin
  | pair => exact fin
  | line => exact fin
theorem Zvx (hK : (KK P).In g.b0) (N : NN g) (F_Hall : Zdb g 11 (.ref CC) (Zt6 CC (Zls CC CX))) (F_answer : FnG g "answer" 11 (Zh8 CC)) : Xz g 12 (.ref 335) Ztb := by
  refine Xz.mono (Z7 (r := 11) (ps := ["lefts", "rights", "lines"]) (hK 335 _ rfl) rfl (Zt (hK 334 _ rfl) rfl rfl) rfl (by intro vs h; obtain ⟨a0, a1, a2, rfl⟩ := Zsm h; rfl) rfl rfl rfl (by decide +kernel)
    (Zc (Zo (at_ (i := 3) rfl) rfl (Zg1 hK (at_ (i := 4) rfl) (N.n_Hall) Zpc F_Hall (Zb (Za (.head _) rfl) (Zb (Za (at_ (i := 1) rfl) rfl) Zf)) rfl) (fun _ => rfl))
  (Zc (Zl (Y5 (by decide +kernel) (Z5 (Za (at_ (i := 2) rfl) rfl)) (.name (at_ (i := 1) rfl) rfl) (by decide +kernel) Xp (Zm (at_ (i := 2) rfl) F_answer (Zb (Za (at_ (i := 3) rfl) rfl) (Zb (Za (at_ (i := 1) rfl) rfl) Zf)) rfl) (fun _ _ => rfl)))
  Zh))) ?_
  rintro xs σ Q E ⟨a, b, lb, ts, rfl, ha, hb, hl, hlen, hasc, hq⟩
  refine Yy rfl fun K KE kret _ _ => ?_
  dsimp only [Loc.setAll]
  refine Zs fun K1 k1 => ?_
  dsimp only [Z4, Yk, Yl, Zy, Zn, Loc.set, String.reduceBEq, cond_true, cond_false, Zt6]
  refine fun x d hx hd hxd => ⟨x, d, .int a, .int b, true, true, rfl, rfl, rfl, Zd, by rw [Ze (Ne.symm hxd)]; exact Zd, fun z => ?_, fun a' b' e1 e2 ha' hb' σ1 D0 H0 hT0 hDa hDb hDn hDd hrd kp => ⟨rfl, k1 _ _ ?_⟩⟩
  · simp [okC, ha, hb] at z
  cases e1; cases e2
  have ne0 : ∀ {y o}, σ y = some o → y ≠ x ∧ y ≠ d := fun {y o} q => ⟨(fun z => by rw [z, hx] at q; cases q), (fun z => by rw [z, hd] at q; cases q)⟩
  have s0 : Sub σ σ1 := fun y o q => kp _ _ (by rw [Ze (ne0 q).1, Ze (ne0 q).2]; exact q) (ne0 q).2
  have f0 : ∀ y, D0.foot y → σ y = none := fun y h => by
    rcases h with rfl | rfl | h
    · rw [hDd]; exact hd
    · exact ((Sub.refl.new hd).new (by rw [Ze hxd]; exact hx)).none hrd
    · rw [hT0] at h; cases h
  have hS0 : D0.S = [] := by unfold HD.S; rw [hT0]; rfl
  have W0 : Zmh D0 0 := ⟨by rw [hS0]; exact Zex.empty, by rw [hDa]; exact ha, by rw [hDb]; exact hb, by rw [hDn]; decide, fun y hy => by rw [hS0] at hy; cases hy⟩
  have P0 : Zch σ1 CC x D0 a b [] 0 := ⟨H0, ⟨0, W0⟩, by rw [hT0]; decide, (fun y hy => by rw [hS0] at hy; cases hy), hDa, hDb, hS0, hDn⟩
  refine Ye fun K2 r2 => ?_
  dsimp only [Zaz, Zag, W6, Yu, Zau, Zn, Loc.set, String.reduceBEq, cond_true, cond_false]
  simp only [s0 _ _ hl]
  refine ⟨nofun, Zj0 (fun xs acc σ' => ∃ (ts1 ts2 : List Str) (os : List (List Str)) (S : List Rw) (nx : Int) (D : HD) (obs : List Addr), ts = ts1 ++ ts2 ∧ xs = ts2.map V.str ∧ acc = obs.map V.ref ∧ Zde a b ts1 os S nx ∧ Zch σ' CC x D a b S nx ∧ Zuf σ σ' D obs os) ?_ ?_ (ts.map V.str) [] σ1 ⟨[], ts, [], [], 0, D0, [], rfl, rfl, rfl, .nil, P0, ⟨s0, f0, rfl, fun i ob o h1 _ => (by cases h1), fun ob h => absurd h List.not_mem_nil⟩⟩⟩
  · rintro acc σ' ⟨ts1, ts2, os, S, nx, D, obs, e1, e2, rfl, hR, hP, hO⟩
    have : ts2 = [] := Xr e2
    subst this
    rw [List.append_nil] at e1
    subst e1
    exact ⟨hO.sub _ _ hl, fun fb hfb => r2 _ _ _ (kret _ _ _ _ Sub.refl (hq _ fb obs os S nx hR (hO.sub.new hfb) (hO.sub.none hfb) Zd (hO.outs hfb)))⟩
  · rintro v xs acc σ' K3 ⟨ts1, ts2, os, S, nx, D, obs, e1, e2, rfl, hR, hP, hO⟩ k3
    obtain ⟨t, ts2, rfl, rfl, rfl⟩ := Xa e2
    refine ⟨hO.sub _ _ hl, ?_⟩
    dsimp only [Xs]
    dsimp only [Yk, Yl, Zy, Zn, Loc.set, Loc.bare, String.reduceBEq, cond_true, cond_false]
    obtain ⟨_, _, hn, _⟩ := hR.good
    have ht := hasc t (by rw [e1]; simp)
    have hl1 : ts1.length ≤ 200 := by have := congrArg List.length e1; simp at this; omega
    refine ⟨x, D, a, b, S, nx, t, rfl, hP, by omega, ht.1, ht.2, fun σ2 ob hA => ?_⟩
    obtain ⟨D', o, S', nx', hA', hP', hO'⟩ := hO.snoc hA
    exact k3 _ _ ⟨ts1 ++ [t], ts2, os ++ [o], S', nx', D', obs ++ [ob], by rw [e1]; simp, rfl, by simp, hR.snoc hA', hP', hO'⟩
end
section
open PySem PySem.W PyProof.Rows
variable {g : Gr} {P : Params}
theorem Zv0 (hK : (KK P).In g.b0) (N : NN g) : Xz g 3 (.ref 368) Zos := by
  refine Xz.mono (Z7 (r := 2) (ps := ["_law_cell", "_law_sizes", "_law_rows"]) (hK 368 _ rfl) rfl (Zt (hK 367 _ rfl) rfl rfl) rfl (by intro vs h; obtain ⟨a0, a1, a2, rfl⟩ := Zsm h; rfl) rfl rfl rfl (by decide +kernel)
    (Zc (Zo (at_ (i := 3) rfl) rfl (Z3 Zf) (fun _ => rfl))
  (Zc (Wd (W7 (at_ (i := 8) rfl) (N.n_range) Zg rfl) (.name (at_ (i := 4) rfl) rfl) (Zc (X9 (at_ (i := 5) rfl) rfl (by decide +kernel) (Zkh (Za (at_ (i := 2) rfl) rfl) rfl rfl) (.name (at_ (i := 1) rfl) rfl) (by decide +kernel) Xp (Zj (Za (at_ (i := 1) rfl) rfl) (Za (at_ (i := 2) rfl) rfl) (fun _ _ => rfl)) (fun _ _ => rfl))
  (Zc (Zo (at_ (i := 6) rfl) rfl (Zgo (at_ (i := 9) rfl) (N.n_list) (at_ (i := 8) rfl) (N.n_range) (Zj (Za (at_ (i := 1) rfl) rfl) (Za (at_ (i := 4) rfl) rfl) (fun _ _ => rfl)) rfl) (fun _ => rfl))
  (Zc (Zo (at_ (i := 7) rfl) rfl (Zb9 (Zs7 (Y5 (by decide +kernel) (Z5 (Za (at_ (i := 6) rfl) rfl)) (.name (at_ (i := 1) rfl) rfl) (by decide +kernel) (Zd5 (Yb (Zvp (Za (at_ (i := 3) rfl) rfl) (Zb (Za (at_ (i := 1) rfl) rfl) Zf) rfl rfl rfl rfl) (Zj (Za (at_ (i := 2) rfl) rfl) Zg (fun _ _ => rfl)) rfl)) (Za (at_ (i := 1) rfl) rfl) (fun _ _ => rfl)) (Zfc (Za (at_ (i := 6) rfl) rfl)))) (fun _ => rfl))
  (Zc (Yz (Za6 (Za (at_ (i := 3) rfl) rfl) (Zb (Zj (Za (at_ (i := 7) rfl) rfl) (Zp (Zp (Za (.head _) rfl) (Zj (Z3 (Zb Zg (Zb Zg Zf))) (Za (at_ (i := 4) rfl) rfl) (fun _ _ => rfl))) (Zm (at_ (i := 10) rfl) (Z2 N.n_len Xi) (Zb (Za (at_ (i := 7) rfl) rfl) Zf) rfl)) (fun _ _ => rfl)) Zf) rfl rfl rfl rfl) (fun _ => rfl))
  Zh)))) (fun _ _ => rfl))
  (Zc (Zl (Z0 (Zb (Zj (Za (at_ (i := 3) rfl) rfl) Zg (fun _ _ => rfl)) (Zb (Zj (Za (at_ (i := 3) rfl) rfl) Zg (fun _ _ => rfl)) Zf))))
  Zh)))) ?_
  rintro xs σ Q E ⟨c, a, b, k, ed, kvs, L, tl, ep, rfl, hed, hvals, ha1, ha2, hb1, hb2, h⟩
  refine Yy rfl fun K KE kret _ _ => ?_
  dsimp only [Loc.setAll]
  refine Zs fun K1 k1 => ?_
  dsimp only [Z4, Wx, Yl, List.length_nil]
  refine ⟨Yn rfl, fun f hf => k1 _ _ ?_⟩
  refine Zs fun K1 k1 => ?_
  dsimp only [Zlm, Zdl, Zq]
  refine ⟨by decide, Yn rfl, nofun, ?_⟩
  have hsz : ∀ i : Nat, i < 2 → ∃ n : Int, atV [V.int a, V.int b, V.int k] (i : Int) = some (.int n) ∧ n = (if i = 0 then a else b) ∧ 1 ≤ n ∧ n ≤ 8 := fun i hi => by
    rcases (show i = 0 ∨ i = 1 by exact Zyb hi) with rfl | rfl
    · exact ⟨a, Yt rfl, rfl, ha1, ha2⟩
    · exact ⟨b, Yt rfl, rfl, hb1, hb2⟩
  refine Zcu (fun i ℓ σ' => ∀ P0 : Prop, (∀ fs : List Int, (fs.length = i) → ((∀ (j : Nat) v, fs[j]? = some v → 0 ≤ v ∧ v < if j = 0 then a else b)) → (Sub σ σ') → (σ' f = some (.list (fs.map V.int))) → (ℓ "_law_found" = some (.ref f)) → (ℓ "_law_cell" = some (.int c)) → (ℓ "_law_sizes" = some (.tup [.int a, .int b, .int k])) → (ℓ "_law_rows" = some (.ref ed)) → P0) → P0) ?_ ?_
    (fun _ kI => kI ([]) (rfl) (fun j v e => absurd e (by simp)) (Sub.refl.new hf) (Zd) (rfl) (rfl) (rfl) (rfl))
  · intro ℓ σ' hI0
    refine hI0 _ fun fs h1 h2 h3 h4 e1 e2 e3 e4 => ?_
    refine ⟨trivial, k1 _ _ ?_⟩
    obtain ⟨l, r, rfl⟩ : ∃ l r, fs = [l, r] := by
      match fs, h1 with
      | [l, r], _ => exact ⟨l, r, rfl⟩
    have hl := h2 0 l rfl
    have hr := h2 1 r rfl
    refine Ye fun K2 r2 => ?_
    dsimp only [Zaz, Ww, Yl, Zy, Zq, Zn, Y4, List.length_cons, List.length_nil]
    simp only [e1]
    exact Zdt h4 (Wj (by decide) rfl) (Zdt h4 (Wj (by decide) rfl) ⟨Yn rfl, r2 _ _ _ (kret _ _ _ _ h3 (h l r hl.1 (by simpa using hl.2) hr.1 (by simpa using hr.2)))⟩)
  · intro i ℓ σ' K2 hi k2 r2 hI0
    refine hI0 _ fun fs h1 h2 h3 h4 e1 e2 e3 e4 => ?_
    have hi2 : i < 2 := hi
    refine ⟨trivial, ?_⟩
    dsimp only [Xs]
    obtain ⟨n, hn1, hn2, hn3, hn4⟩ := hsz i hi2
    refine Zs fun K3 k3 => ?_
    dsimp only [Wo, Zau, Zn, Loc.set, String.reduceBEq, cond_false, Zn4]
    simp only [e4, h3 _ _ hed]
    refine ⟨nofun, ?_⟩
    rw [hvals]
    refine Zbf (Zv8 tl) (fun p => V.int (if i = 0 then p.l else p.r)) L (fun σ2 s2 => s2 _ _ (h3 _ _ hed)) (fun p _ => ⟨_, fun _ _ P h => h, fun σ2 s2 Qv hQ => ?_⟩) fun σ2 s2 tk htk => ?_
    · dsimp only [Zn, Y4, Loc.set, Loc.bare, String.reduceBEq, cond_true, cond_false]
      refine Wp (xs := V.int p.l :: V.int p.r :: tl p) (x := V.int (if i = 0 then p.l else p.r)) ?_ (hQ _ Sub.refl)
      rcases (show i = 0 ∨ i = 1 by exact Zu0 h1 hi2) with rfl | rfl
      · exact Yt rfl
      · exact Yt rfl
    have hmap : (L.map fun p => V.int (if i = 0 then p.l else p.r)) = (L.map fun p => if i = 0 then p.l else p.r).map V.int := by rw [List.map_map]; rfl
    rw [hmap]
    generalize htn : (L.map fun p => if i = 0 then p.l else p.r) = tn
    refine k3 _ _ ?_
    have s3 : Sub σ' (σ2.set tk (.list (tn.map V.int))) := s2.new htk
    have ht3 : (σ2.set tk (.list (tn.map V.int))) tk = some (.list (tn.map V.int)) := Zd
    generalize σ2.set tk (.list (tn.map V.int)) = σ3 at s3 ht3
    refine Zs fun K3 k3 => ?_
    dsimp only [Z4, Zn, Y4, Loc.set, String.reduceBEq, cond_true, cond_false, Zgx]
    simp only [e3]
    refine Wp hn1 ⟨by exact Zya hn2 hn3 hn4, by unfold Y3; exact Zx9 hn2 hn3 hn4, fun ev hev => k3 _ _ ?_⟩
    rw [Zc7]
    have s4 : Sub σ' (σ3.set ev (.list ((Zd7 n.toNat).map V.int))) := s3.new hev
    have ht4 : (σ3.set ev (.list ((Zd7 n.toNat).map V.int))) tk = some (.list (tn.map V.int)) := Zk ht3 hev
    have hev4 : (σ3.set ev (.list ((Zd7 n.toNat).map V.int))) ev = some (.list ((Zd7 n.toNat).map V.int)) := Zd
    generalize σ3.set ev (.list ((Zd7 n.toNat).map V.int)) = σ4 at s4 ht4 hev4
    refine Zs fun K3 k3 => ?_
    dsimp only [Z4, Zag, W6, Yu, Zau, Zn, Wl, tOr, Loc.set, String.reduceBEq, cond_true, cond_false]
    simp only [hev4]
    refine ⟨nofun, Zbe V.int (fun e => decide (((tn.count e : Nat) : Int) < k)) V.int (Zd7 n.toNat) (fun σ5 s5 => s5 _ _ hev4) (fun e _ σ5 s5 => ⟨_, fun P h => h, fun Qb hQ => ?_, fun _ σ6 s6 Qv hQ => ?_⟩) fun σ5 s5 so hso => ?_⟩
    · dsimp only [Xd, Ziu, Zln, Yl, Zy, Zq, Zn, Wn, Zax, Y4, Loc.set, Loc.bare, String.reduceBEq, cond_true, cond_false]
      simp only [s5 _ _ ht4, Zc9, Zjp, e3]
      exact ⟨trivial, Wp (Wj (by decide) rfl) (hQ _ Sub.refl)⟩
    · dsimp only [Zn, Loc.set, Loc.bare, String.reduceBEq, cond_true, cond_false]
      exact hQ _ Sub.refl
    have fin : ∀ (so : Addr) (Z : List Int) (σ6 : AH) (ℓ6 : Loc), Sub σ4 σ6 → σ6 so = some (.list (Z.map V.int)) → Z ≠ [] → (∀ e ∈ Z, 0 ≤ e ∧ e < n) → ℓ6 "_law_some" = some (.ref so) → (∀ z, z ≠ "_law_some" → ℓ6 z = (((ℓ.set "_law_side" (V.int (i : Int))).set "_law_taken" (V.ref tk)).set "_law_every" (V.ref ev)) z) → K3 .next ℓ6 σ6 := by
      intro so Z σ6 ℓ6 s6 hso6 hL hLn l1 l2
      refine k3 _ _ ?_
      have g1 : ℓ6 "_law_found" = some (.ref f) := by rw [l2 _ (by decide)]; simp [Loc.set, e1]
      have g2 : ℓ6 "_law_cell" = some (.int c) := by rw [l2 _ (by decide)]; simp [Loc.set, e2]
      have g3 : ℓ6 "_law_sizes" = some (.tup [.int a, .int b, .int k]) := by rw [l2 _ (by decide)]; simp [Loc.set, e3]
      have g4 : ℓ6 "_law_rows" = some (.ref ed) := by rw [l2 _ (by decide)]; simp [Loc.set, e4]
      have g5 : ℓ6 "_law_side" = some (.int (i : Int)) := by rw [l2 _ (by decide)]; simp [Loc.set]
      have f6 : σ6 f = some (.list (fs.map V.int)) := s6 _ _ (s4 _ _ h4)
      have hpos : (0 : Int) < (Z.length : Int) := by have := List.length_pos_iff.mpr hL; exact Zx8 this
      refine Zs fun K4 k4 => ?_
      dsimp only [tDo, Xd, Ziu, Wy, Yk, Zhz, Ziv, Wx, Yl, Zy, Zq, Zn, Zdm, Zcj, Y4, List.length_cons, List.length_nil]
      simp only [g1, g2, g5, l1, f6]
      refine ⟨trivial, Yn rfl, fun d hd => ?_⟩
      obtain ⟨q, hq1, hq2⟩ : ∃ q : Int, atV [V.int 1, V.int 40] (i : Int) = some (.int q) ∧ q ≠ 0 := by
        rcases (show i = 0 ∨ i = 1 by exact Zu0 h1 hi2) with rfl | rfl
        · exact ⟨1, Yt rfl, by decide⟩
        · exact ⟨40, Yt rfl, by decide⟩
      refine Zdt Zd hq1 ⟨hq2, ?_⟩
      simp only [Zk hso6 hd, List.length_map]
      refine ⟨by exact Zx7 hpos, ?_⟩
      obtain ⟨v, hv, hm⟩ := Zdv (xs := Z.map V.int) (Int.fmod_nonneg_of_pos (c.fdiv q) hpos) (by rw [List.length_map]; exact Int.fmod_lt_of_pos (c.fdiv q) hpos)
      obtain ⟨e, he, rfl⟩ := List.mem_map.1 hm
      refine Zdt (Zk hso6 hd) hv ?_
      simp only [Zk f6 hd]
      refine ⟨by simp [Y3]; exact Zx6 h1 hi2, k4 _ _ (k2 _ _ (fun _ kI => kI (fs ++ [e]) (by simp [h1]) (fun j v hj => ?_) (((h3.trans (s4.trans s6)).new hd).upd (by exact hf)) (by rw [Zd]; simp) (g1) (g2) (g3) (g4)))⟩
      rcases Nat.lt_trichotomy j fs.length with w | w | w
      · rw [List.getElem?_append_left w] at hj; exact h2 j v hj
      · subst w
        simp at hj; subst hj
        rw [h1, ← hn2]; exact hLn e he
      · rw [List.getElem?_append_right (by exact Zve w), List.getElem?_eq_none (by simp; exact Zvd w)] at hj; cases hj
    simp only [Zd, List.isEmpty_map]
    generalize hL : (Zd7 n.toNat).filter (fun e => decide (((tn.count e : Nat) : Int) < k)) = Z at hso ⊢
    have hLn : ∀ e ∈ Z, 0 ≤ e ∧ e < n := fun e he => by
      rw [← hL] at he
      have := Zc6.1 (List.mem_filter.1 he).1
      exact Zuz hn2 hn3 hn4 this
    cases Z with
    | nil =>
      simp only [List.isEmpty_nil, Bool.not_true]
      refine fin ev (Zd7 n.toNat) _ _ (s5.new hso) (Zk (s5 _ _ hev4) hso) (fun z => ?_) (fun e he => by have := Zc6.1 he; exact Zuz hn2 hn3 hn4 this) rfl (fun z hz => Zhq hz)
      have := congrArg List.length z
      rw [Za5] at this; simp at this; exact Zx5 hn2 hn3 hn4 this
    | cons e Z =>
      simp only [List.isEmpty_cons, Bool.not_false]
      exact fin so (e :: Z) _ _ (s5.new hso) Zd (by simp) hLn rfl (fun z hz => Zhq hz)
theorem Zv2 (hK : (KK P).In g.b0) (N : NN g) (F_law_ends : FnG g "_law_ends" 3 Zos) : Xz g 4 (.ref 375) Zov := by
  refine Xz.mono (Z7 (r := 3) (ps := ["_law_cell", "_law_sizes", "_law_rows", "_law_most"]) (hK 375 _ rfl) rfl (Zt (hK 374 _ rfl) rfl rfl) rfl (by intro vs h; obtain ⟨a0, a1, a2, a3, rfl⟩ := Ztj h; rfl) rfl rfl rfl (by decide +kernel)
    (Zc (Ys (Y6 (Xq (Y6 (Zai (Yb (Zp (Za (.head _) rfl) Zg) Zg rfl) (Zai (Zi6 (Za (at_ (i := 2) rfl) rfl)) Zav))) (Xq (Yb (Zm (at_ (i := 4) rfl) (Z2 N.n_len Xi) (Zb (Za (at_ (i := 2) rfl) rfl) Zf) rfl) (Za (at_ (i := 3) rfl) rfl) rfl) Wa))) (Zc (Zl (Z0 (Zb (Zw (Yj (by decide))) (Zb (Zj (Zm (at_ (i := 5) rfl) (Z2 N.n_sorted Zb8) (Zb (Za (at_ (i := 2) rfl) rfl) Zf) rfl) (Zp (Zp (Za (.head _) rfl) Zg) (Zm (at_ (i := 4) rfl) (Z2 N.n_len Xi) (Zb (Za (at_ (i := 2) rfl) rfl) Zf) rfl)) (fun _ _ => rfl)) Zf))))
  Zh) Zh)
  (Zc (Zl (Zp (Z0 (Zb (Zw (Yj (by decide))) Zf)) (Zm (at_ (i := 6) rfl) F_law_ends (Zb (Zp (Za (.head _) rfl) Zg) (Zb (Za (at_ (i := 1) rfl) rfl) (Zb (Za (at_ (i := 2) rfl) rfl) Zf))) rfl)))
  Zh))) ?_
  rintro xs σ Q E ⟨c, a, b, k, mx, ed, kvs, L, tl, ep, rfl, hed, hvals, ha1, ha2, hb1, hb2, hlen, hmx, hgo, hcome⟩
  refine Yy rfl fun K KE kret _ _ => ?_
  dsimp only [Loc.setAll]
  refine Yp fun K1 k1 r1 => ?_
  refine Zap fun KB kt kf => ?_
  have yes : ∀ σ', Sub σ σ' → kvs ≠ [] → KB true σ' := by
    intro σ' s' hne
    refine kt _ ?_
    refine Ye fun K2 r2 => ?_
    dsimp only [Zaz, Yk, Zhz, Ziv, Ww, Yl, Zy, Zq, Zn, Zdm, Zcj, Y4, Loc.set, String.reduceBEq, cond_true, cond_false, List.length_cons, List.length_nil]
    simp only [Zfk, Zfe, s' _ _ hed]
    refine ⟨by simp; exact Zx4 hlen hmx, fun ks d hp _ hd => ?_⟩
    have hkl : ks.length = kvs.length := by have := hp.length_eq; simpa using this
    have hpos : (0 : Int) < (kvs.length : Int) := by have := List.length_pos_iff.mpr hne; exact Zx3 hkl this
    refine ⟨by decide, ?_⟩
    simp only [Zk (s' _ _ hed) hd]
    refine ⟨by exact Zx2 hkl hpos, ?_⟩
    obtain ⟨v, hv, hm⟩ := Zdv (xs := ks.map V.int) (Int.fmod_nonneg_of_pos (c.fdiv 16) hpos) (by rw [List.length_map, hkl]; exact Int.fmod_lt_of_pos (c.fdiv 16) hpos)
    obtain ⟨n, hn, rfl⟩ := List.mem_map.1 hm
    refine Zdt Zd hv ⟨Yn rfl, r2 _ _ _ (r1 _ _ _ (kret _ _ _ _ (s'.new hd) (hgo n (hp.mem_iff.1 hn))))⟩
  have no : ∀ σ', Sub σ σ' → (kvs.length : Int) < mx → KB false σ' := by
    intro σ' s' hlt
    refine kf _ ?_
    dsimp only [Zat]
    refine k1 _ _ ?_
    refine Ye fun K2 r2 => ?_
    dsimp only [Zaz, Yk, Ww, Yl, Zy, Zq, Zn, Zdm, Zcj, Loc.set, String.reduceBEq, cond_true, cond_false, List.length_cons, List.length_nil]
    refine ⟨Yn rfl, by decide, _, a, b, k, ed, kvs, L, tl, ep, rfl, s' _ _ hed, hvals, ha1, ha2, hb1, hb2, fun l r hl1 hl2 hr1 hr2 => ⟨Yn rfl, r2 _ _ _ (kret _ _ _ _ s' (hcome hlt l r hl1 hl2 hr1 hr2))⟩⟩
  have last : ∀ σ', Sub σ σ' → KB (decide ((kvs.length : Int) = mx)) σ' := by
    intro σ' s'
    by_cases hz : (kvs.length : Int) = mx
    · rw [decide_eq_true hz]; exact yes σ' s' (fun z => by rw [z] at hz; simp at hz; exact Zx1 hmx hz)
    · rw [decide_eq_false hz]; exact no σ' s' (by exact Zx0 hlen hz)
  have last' : ∀ σ', Sub σ σ' → (match ((kvs.length : Int) == mx) with | true => KB true σ' | false => KB false σ') := by
    intro σ' s'
    have := last σ' s'
    have e : ((kvs.length : Int) == mx) = decide ((kvs.length : Int) = mx) := by rw [Bool.eq_iff_iff]; simp
    rw [e]
    generalize decide ((kvs.length : Int) = mx) = z at this
    cases z <;> exact this
  dsimp only [Yk, Zhz, Ziv, Yl, Zy, Zq, Zn, Zkg, Zsg, Xo, Wn, Zax, Zdm, Zcj, Loc.set, String.reduceBEq, cond_true, cond_false, Zlk]
  refine ⟨by decide, ?_⟩
  cases decide (Int.fmod c 16 < 5) with
  | false =>
    simp only [hed, eqD]
    exact last' σ Sub.refl
  | true =>
    simp only
    refine ⟨ed, _, ep, rfl, hed, fun d ep' hd => ?_⟩
    cases hk : kvs with
    | nil =>
      subst hk
      simp only [List.isEmpty_nil, Bool.not_true]
      have s1 : Sub σ (σ.set d (.dictI [] ep')) := Sub.refl.new hd
      simp only [s1 _ _ hed, eqD]
      exact last' _ s1
    | cons p kvs' =>
      simp only [List.isEmpty_cons, Bool.not_false]
      exact yes _ (Sub.refl.new hd) (by rw [hk]; simp)
end
section
open PySem PySem.W PyProof.Rows
variable {g : Gr} {P : Params}
theorem Zto (hK : (KK P).In g.b0) (N : NN g) : Xz g 2 (.ref 382) Zby := by
  refine Xz.mono (Z7 (r := 1) (ps := ["_law_told"]) (hK 382 _ rfl) rfl (Zt (hK 381 _ rfl) rfl rfl) rfl (by intro vs h; obtain ⟨a0, rfl⟩ := Zo8 h; rfl) rfl rfl rfl (by decide +kernel)
    (Zc (Zbm (.cons (at_ (i := 1) rfl) rfl (.cons (at_ (i := 2) rfl) rfl (.cons (at_ (i := 3) rfl) rfl (.cons (at_ (i := 4) rfl) rfl .nil)))) (Za (.head _) rfl) (fun _ => rfl) (fun _ => rfl))
  (Zc (Zo (at_ (i := 5) rfl) rfl (Zp (Zp (Zm (at_ (i := 7) rfl) (Zan N.n_str Zbw) (Zb (Za (at_ (i := 1) rfl) rfl) Zf) rfl) (Zw (Yj (by decide)))) (Zm (at_ (i := 7) rfl) (Zan N.n_str Zbw) (Zb (Za (at_ (i := 2) rfl) rfl) Zf) rfl)) (fun _ => rfl))
  (Zc (Ys (Yb (Za (at_ (i := 3) rfl) rfl) Za2 rfl) (Zc (Zo (at_ (i := 5) rfl) rfl (Zp (Zp (Za (at_ (i := 5) rfl) rfl) (Zw (Yj (by decide)))) (Zm (at_ (i := 7) rfl) (Zan N.n_str Zbw) (Zb (Za (at_ (i := 3) rfl) rfl) Zf) rfl)) (fun _ => rfl))
  Zh) Zh)
  (Zc (Wd (Z5 (Za (at_ (i := 4) rfl) rfl)) (.name (at_ (i := 6) rfl) rfl) (Zc (Zo (at_ (i := 5) rfl) rfl (Zp (Zp (Za (at_ (i := 5) rfl) rfl) (Zw (Yj (by decide)))) (Zm (at_ (i := 7) rfl) (Zan N.n_str Zbw) (Zb (Za (at_ (i := 6) rfl) rfl) Zf) rfl)) (fun _ => rfl))
  Zh) (fun _ _ => rfl))
  (Zc (Zl (Za (at_ (i := 5) rfl) rfl))
  Zh)))))) ?_
  rintro xs σ Q E ⟨k, hue, other, nums, c, rfl, hc, hs, hq⟩
  refine Yy rfl fun K KE kret _ _ => ?_
  dsimp only [Loc.setAll]
  refine Zs fun K1 k1 => ?_
  dsimp only [Zd3, Zn, Loc.set, Xs, String.reduceBEq, cond_true, List.length_cons, List.length_nil]
  simp only [Zmt, Zci]
  refine ⟨rfl, k1 _ _ ?_⟩
  dsimp only [Loc.setAll]
  refine Zs fun K1 k1 => ?_
  dsimp only [Z4, Yk, Yl, Zy, Zq, Zn, Zdm, Zcj, Loc.set, String.reduceBEq, cond_true, cond_false, Zmu, Zqq]
  have hk := hs.le k (.head _)
  have hh := hs.le hue (.tail _ (.head _))
  refine ⟨_, _, rfl, Zc4 hk, ?_, _, _, rfl, Zc4 hh, ?_, k1 _ _ ?_⟩
  · have := Za0 hk; rw [Zob]; unfold Y3; exact Zxz this
  · have h1 := Za0 hk; have h2 := Za0 hh; unfold Y3; rw [Str.length_append, Zob]; exact Zxy h1 h2
  rw [Zqr, show Zbi k ++ spS ++ Zbi hue = Xg (Zbi k) [hue] from rfl]
  refine Zs fun K1 k1 => ?_
  have fin : ∀ (ℓ2 : Loc), ℓ2 "_law_found" = some (.str (Xg (Zbi k) (hue :: other.toList))) → ℓ2 "_law_numbers" = some (.ref c) → K1 .next ℓ2 σ := by
    intro ℓ2 e1 e2
    refine k1 _ _ ?_
    refine Zs fun K2 k2 => ?_
    dsimp only [Zlm, Zag, W6, Zn]
    simp only [e2, hc]
    refine ⟨nofun, Zbr (fun xs ℓ σ' => ∀ P0 : Prop, (∀ as bs : List Int, (nums = as ++ bs) → (xs = bs.map V.int) → (σ' = σ) → (ℓ "_law_found" = some (.str (Xg (Zbi k) ((hue :: other.toList) ++ as)))) → P0) → P0) ?_ ?_ (fun _ kI => kI ([]) (nums) (rfl) (rfl) (rfl) (by rw [List.append_nil]; exact e1))⟩
    · intro ℓ σ' hI0
      refine hI0 _ fun as bs h1 h2 hrf4 h3 => ?_
      obtain rfl := hrf4
      have : bs = [] := Xr h2
      subst this
      rw [List.append_nil] at h1
      subst h1
      refine ⟨hc, k2 _ _ ?_⟩
      refine Ye fun K3 r3 => ?_
      dsimp only [Zaz, Zn]
      simp only [h3]
      refine r3 _ _ _ (kret _ _ _ _ Sub.refl ?_)
      rw [show (hue :: other.toList) ++ nums = hue :: Zfs other nums from by cases other <;> rfl, ← Zek]
      exact hq
    · intro v xs ℓ σ' K3 k3 r3 hI0
      refine hI0 _ fun as bs h1 h2 hrf4 h3 => ?_
      obtain rfl := hrf4
      obtain ⟨n, bs, rfl, rfl, rfl⟩ := Xa h2
      refine ⟨hc, ?_⟩
      dsimp only [Xs]
      refine Zs fun K4 k4 => ?_
      dsimp only [Z4, Yk, Yl, Zy, Zq, Zn, Zdm, Zcj, Loc.set, String.reduceBEq, cond_true, cond_false, Zmu, Zqq]
      simp only [h3]
      have hmem : ∀ z ∈ k :: ((hue :: other.toList) ++ as), 0 ≤ z ∧ z ≤ 1000 := fun z hz => hs.le z (by
        rcases List.mem_cons.1 hz with rfl | hz
        · exact .head _
        · refine .tail _ ?_
          rw [show hue :: Zfs other nums = (hue :: other.toList) ++ nums from by cases other <;> rfl, h1]
          rcases List.mem_append.1 hz with w | w
          · exact List.mem_append_left _ w
          · exact List.mem_append_right _ (List.mem_append_left _ w))
      have hn : 0 ≤ n ∧ n ≤ 1000 := hs.le n (.tail _ (by rw [show hue :: Zfs other nums = (hue :: other.toList) ++ nums from by cases other <;> rfl, h1]; exact List.mem_append_right _ (List.mem_append_right _ (.head _))))
      have hl := Zlj hmem
      have hln := Za0 hn
      have hal : ((hue :: other.toList) ++ as).length ≤ 1002 := by
        have h4 := hs.len
        rw [h1] at h4
        simp only [List.length_append, List.length_cons] at h4 ⊢
        have : other.toList.length ≤ 1 := by cases other <;> simp
        exact Zxx h4 this
      refine ⟨by unfold Y3; rw [Zh0]; exact Zxw hl hal, _, _, rfl, Zc4 hn, by unfold Y3; rw [Str.length_append, Zh0]; exact Zxv hl hln hal, k4 _ _ ?_⟩
      dsimp only [Zat]
      exact k3 _ _ (fun _ kI => kI (as ++ [n]) (bs) (by rw [h1]; simp) (rfl) (rfl) (by rw [← List.append_assoc, Zfi]; rfl))
  refine Zap fun KB kt kf => ?_
  dsimp only [Zq, Zn, Wn, Zax, Loc.set, String.reduceBEq, cond_true, cond_false]
  cases other with
  | none =>
    refine kf _ ?_
    dsimp only [Zat]
    exact fin _ rfl rfl
  | some o =>
    refine kt _ ?_
    refine Zs fun K2 k2 => ?_
    dsimp only [Z4, Yk, Yl, Zy, Zq, Zn, Zdm, Zcj, Loc.set, String.reduceBEq, cond_true, cond_false, Zmu, Zqq]
    have ho := hs.le o (.tail _ (.tail _ (.head _)))
    have hl := Zlj (k := k) (ns := [hue]) fun z hz => hs.le z (by
      rcases List.mem_cons.1 hz with rfl | hz
      · exact .head _
      · rw [List.mem_singleton.1 hz]; exact .tail _ (.head _))
    have hln := Za0 ho
    simp only [List.length_singleton] at hl
    refine ⟨by unfold Y3; rw [Zh0]; exact Zxu hl, _, _, rfl, Zc4 ho, by unfold Y3; rw [Str.length_append, Zh0]; exact Zxt hl hln, k2 _ _ ?_⟩
    dsimp only [Zat]
    exact fin _ rfl rfl
end
section
open PySem PySem.W PyProof.Rows
variable {g : Gr} {P : Params}
noncomputable def exs : List Addr := [CB, CT, CP]
noncomputable def Zsp (X C : Addr) : Option Bool := if C ∈ exs then some (decide (C = X)) else none
theorem exK : ∀ C ∈ exs, Zny (KK P) C := fun C h => by
  simp only [exs, List.mem_cons, List.not_mem_nil, or_false] at h
  rcases h with rfl | rfl | rfl <;> exact ⟨by kernel_rfl, by kernel_rfl, by kernel_rfl, by kernel_rfl, by kernel_rfl, by kernel_rfl⟩
theorem Ztm {X : Addr} {cv : Value} (h : (exs.all fun C => decide (kitOne (KK P) (.ref C) cv = some (decide (C = X)))) = true) : ∀ C b, Zsp X C = some b → Zny (KK P) C ∧ kitOne (KK P) (.ref C) cv = some b := fun C b e => by
  unfold Zsp at e
  split at e
  · rename_i hC
    cases e
    exact ⟨exK C hC, of_decide_eq_true (List.all_eq_true.mp h C hC)⟩
  · cases e
theorem Zpj : ∀ C b, Zsp CB C = some b → Zny (KK P) C ∧ kitOne (KK P) (.ref C) (.ref CB) = some b := Ztm (by kernel_rfl)
theorem Znd : ∀ C b, Zsp CT C = some b → Zny (KK P) C ∧ kitOne (KK P) (.ref C) (.ref CT) = some b := Ztm (by kernel_rfl)
theorem Zpi : ∀ C b, Zsp CP C = some b → Zny (KK P) C ∧ kitOne (KK P) (.ref C) (.ref CP) = some b := Ztm (by kernel_rfl)
theorem hP : ∀ C, C ∈ exs → exmOne (KK P) (.ref C) (.ref 31) = some true := fun C h => by
  simp only [exs, List.mem_cons, List.not_mem_nil, or_false] at h
  rcases h with rfl | rfl | rfl <;> kernel_rfl
theorem Zqo {n : String} {P : Addr → Prop} {tb th : TS} {ℓ : Loc} {σ : AH} {Q : Fl → Loc → AH → Prop} {E : Addr → Loc → AH → Prop} (h : ∀ KX : Addr → Loc → AH → Prop, (∀ C ℓ' σ', P C → (∀ a, σ' a = none → th (ℓ'.set n (.ref a)) (σ'.set a (.exc C)) (fun f _ σ'' => Q f Loc.empty σ'') fun _ _ _ => False) → KX C ℓ' σ') → tb ℓ σ Q KX) : Zsd n P tb th ℓ σ Q E :=
  h _ fun _ _ _ p q => ⟨p, q⟩
theorem Zpn (hK : (KK P).In g.b0) (N : NN g) (F_law_text : FnG g "_law_text" 10 Zby) (M_come : FnM g (KK P) CC "come" 10 (Zlv CC CB CT)) (M_go : FnM g (KK P) CC "go" 10 (Zq0 CC CP)) : Xz g 11 (.ref 387) (Zh9 CC) := by
  refine Xz.mono (Z7 (r := 10) (ps := ["_law_hall", "_law_deed_here"]) (hK 387 _ rfl) rfl (Zt (hK 386 _ rfl) rfl rfl) rfl (by intro vs h; obtain ⟨a0, a1, rfl⟩ := Zsn h; rfl) rfl rfl rfl (by decide +kernel)
    (Zc (Zmw hK (at_ (i := 5) rfl) (N.n_PairError) hP (at_ (i := 2) rfl) (Zc (Ys (Yb (Zj (Za (at_ (i := 1) rfl) rfl) Zg (fun _ _ => rfl)) (Zw (Yj (by decide))) rfl) (Zc (Zl (Z3 (Zb (Zm (at_ (i := 4) rfl) F_law_text (Zb (Zz hK hC M_come (Za (.head _) rfl) (Zb (Zj (Za (at_ (i := 1) rfl) rfl) Zg (fun _ _ => rfl)) (Zb (Zj (Za (at_ (i := 1) rfl) rfl) Zg (fun _ _ => rfl)) Zf)) rfl rfl rfl rfl) Zf) rfl) Zf)))
  Zh) Zh)
  (Zc (Zl (Y5 (by decide +kernel) (Z5 (Zz hK hC M_go (Za (.head _) rfl) (Zb (Zj (Za (at_ (i := 1) rfl) rfl) Zg (fun _ _ => rfl)) Zf) rfl rfl rfl rfl)) (.name (at_ (i := 1) rfl) rfl) (by decide +kernel) Xp (Zm (at_ (i := 2) rfl) F_law_text (Zb (Za (at_ (i := 1) rfl) rfl) Zf) rfl) (fun _ _ => rfl)))
  Zh))
  (Zc (Zo (at_ (i := 3) rfl) rfl (Zp (Zcp (Z3 (Zb (Zw (Yj (by decide))) Zf)) (Zen (at_ (i := 6) rfl) (Zik N.n_int Zel) (Zb (Zfn hK Zpj (at_ (i := 7) rfl) (N.n_isinstance) (at_ (i := 8) rfl) (N.n_BadEnd) (Za (at_ (i := 2) rfl) rfl) rfl) Zf) rfl)) (Zcp (Z3 (Zb (Zw (Yj (by decide))) Zf)) (Zen (at_ (i := 6) rfl) (Zik N.n_int Zel) (Zb (Zfn hK Znd (at_ (i := 7) rfl) (N.n_isinstance) (at_ (i := 9) rfl) (N.n_TooMany) (Za (at_ (i := 2) rfl) rfl) rfl) Zf) rfl))) (fun _ => rfl))
  (Zc (Zl (Zp (Za (at_ (i := 3) rfl) rfl) (Zcp (Z3 (Zb (Zw (Yj (by decide))) Zf)) (Zen (at_ (i := 6) rfl) (Zik N.n_int Zel) (Zb (Zfn hK Zpi (at_ (i := 7) rfl) (N.n_isinstance) (at_ (i := 10) rfl) (N.n_NoPair) (Za (at_ (i := 2) rfl) rfl) rfl) Zf) rfl))))
  Zh)))
  Zh)) ?_
  rintro xs σ Q E ⟨x, D, a, b, S, nx, k, ns, rfl, hd, hP', hlow, hq⟩
  refine Yy rfl fun K KE kret _ _ => ?_
  dsimp only [Loc.setAll]
  obtain ⟨H, ⟨m, W⟩, few, hnn, rfl, rfl, rfl, rfl⟩ := id hP'
  refine Ye fun K1 r1 => ?_
  refine Zqo fun KX kx => ?_
  have bad : ∀ (X : Addr) (o : Str) (ℓ' : Loc), X ∈ exs → Znu CB CT CP CL X o → Ans D.a D.b D.S D.nx (some (k, ns)) [o] D.S D.nx → KX X ℓ' σ := by
    intro X o ℓ' hX hE hA
    refine kx _ _ _ hX fun e he => ?_
    refine Zs fun K2 k2 => ?_
    dsimp only [Z4, Yk, Wx, Yl, Zy, Zq, Zn, Zdm, Zcj, Loc.set, String.reduceBEq, cond_true, List.length_cons, List.length_nil, Zhx, Zs5]
    have b0 : ∀ b : Bool, (0 : Int) ≤ if b then 1 else 0 := fun b => by cases b <;> decide
    have b1 : ∀ b : Bool, Y3 (if b then (1 : Int) else 0).toNat := fun b => by cases b <;> simp [Y3]
    have b2 : ∀ (b : Bool) (v : V), Y3 ([v].length * (if b then (1 : Int) else 0).toNat) := fun b v => by cases b <;> simp [Y3]
    have i1 : Zsp CB X = some (decide (X = CB)) := if_pos hX
    have i2 : Zsp CT X = some (decide (X = CT)) := if_pos hX
    have i3 : Zsp CP X = some (decide (X = CP)) := if_pos hX
    have ln : ∀ (b : Bool) (v : V), (List.replicate (if b then (1 : Int) else 0).toNat [v]).flatten.length ≤ 1 := fun b v => by cases b <;> simp
    refine ⟨Yn rfl, fun a1 h1 => ⟨e, X, _, rfl, Zk Zd h1, i1, _, rfl, a1, _, _, rfl, Zd, rfl, b0 _, b1 _, b2 _ _, fun d1 hd1 => ⟨Yn rfl, fun a2 h2 => ⟨e, X, _, rfl, Zk (Zk (Zk Zd h1) hd1) h2, i2, _, rfl, a2, _, _, rfl, Zd, rfl, b0 _, b1 _, b2 _ _, fun d2 hd2 => ⟨_, _, Zk (Zk Zd h2) hd2, Zd, ?_, fun d3 hd3 => k2 _ _ ?_⟩⟩⟩⟩⟩
    · have q1 := ln (decide (X = CB)) (V.str (Str.ofString "bad end")); have q2 := ln (decide (X = CT)) (V.str (Str.ofString "too many")); unfold Y3; exact Zxs q1 q2
    refine Ye fun K3 r3 => ?_
    dsimp only [Zaz, Yk, Wx, Yl, Zy, Zq, Zn, Zdm, Zcj, Loc.set, String.reduceBEq, cond_true, cond_false, List.length_cons, List.length_nil, Zhx, Zs5]
    refine ⟨Yn rfl, fun a3 h3 => ⟨e, X, _, rfl, Zk (Zk (Zk (Zk (Zk (Zk Zd h1) hd1) h2) hd2) hd3) h3, i3, _, rfl, a3, _, _, rfl, Zd, rfl, b0 _, b1 _, b2 _ _, fun d4 hd4 => ⟨_, _, Zk (Zk Zd h3) hd4, Zd, ?_, fun d5 hd5 => r3 _ _ _ (r1 _ _ _ ?_)⟩⟩⟩
    · have q1 := ln (decide (X = CB)) (V.str (Str.ofString "bad end")); have q2 := ln (decide (X = CT)) (V.str (Str.ofString "too many")); have q3 := ln (decide (X = CP)) (V.str (Str.ofString "no pair")); unfold Y3; rw [List.length_append]; exact Zxr q1 q2 q3
    have s := (((((((Sub.refl (σ := σ)).new (o := .exc X) he).new h1).new hd1).new h2).new hd2).new hd3).new (o := .list [V.str (Str.ofString "no pair")]) h3
    refine kret _ _ _ _ Sub.refl (hq _ d5 (.same hP' hA ((s.new hd4).new hd5) ((s.new hd4).none hd5) (Zd.trans ?_)))
    cases hE with
    | end_ => rfl
    | many => rfl
    | pair => rfl
    | line => exact absurd hX (by decide)
  rcases hd with ⟨l, r, rfl, rfl⟩ | ⟨n, rfl, rfl⟩
  · refine Yp fun K2 k2 r2 => ?_
    refine Zap fun KB kt kf => ?_
    dsimp only [Zq, Zn, Wn, Zax, Y4, Loc.set, String.reduceBEq, cond_true, cond_false]
    refine Wp (xs := [V.str Xb, V.int l, V.int r]) (Yt (i := 0) rfl) (Zaa (by decide +kernel) (by decide +kernel) ?_)
    rw [show (Xb == Str.ofString "come") = true from by decide +kernel]
    refine kt _ ?_
    refine Ye fun K3 r3 => ?_
    dsimp only [Zaz, Yk, Wx, Yl, Zy, Zq, Zn, Y4, Loc.set, String.reduceBEq, cond_true, cond_false, List.length_cons, List.length_nil, Y8]
    refine ⟨H.instOf (by decide +kernel), Wp (xs := [V.str Xb, V.int l, V.int r]) (Yt (i := 1) rfl) (Wp (xs := [V.str Xb, V.int l, V.int r]) (Yt (i := 2) rfl) ⟨x, D, .int l, .int r, m, true, true, rfl, H, W, by exact Int.lt_of_lt_of_le hlow (by decide), few, rfl, rfl, fun z => ?_, fun z1 z2 => ?_, fun l' r' q1 q2 hl hr hlt σ5 D5 m5 hue other nums c H5 W5 hn5 ha5 hb5 keep5 new5 dom5 hsk5 hHT hc0 nfc hc5 => ?_⟩)⟩
    · exact bad CB _ _ (by decide) .end_ (.badEnd l r (by rw [Zl6]; exact z))
    · exact bad CT _ _ (by decide) .many (.many l r (by rw [Zl6]; exact z1) (by simpa [HD.S] using z2))
    cases q1; cases q2
    obtain ⟨hsm, hA⟩ := Zmc W hnn (by exact Zu1 hlow hn5) few hlt hl hr H5 W5 hn5 ha5 hb5 keep5 new5 dom5 hsk5 hHT
    exact ⟨D.nx, hue, other, nums, c, rfl, hc5, hsm, ⟨Yn rfl, fun ob hob => r3 _ _ _ (r2 _ _ _ (r1 _ _ _ (kret _ _ _ _ Sub.refl (hq _ ob (hA ob hob)))))⟩⟩
  · refine Yp fun K2 k2 r2 => ?_
    refine Zap fun KB kt kf => ?_
    dsimp only [Zq, Zn, Wn, Zax, Y4, Loc.set, String.reduceBEq, cond_true, cond_false]
    refine Wp (xs := [V.str Ze4, V.int n]) (Yt (i := 0) rfl) (Zaa (by decide +kernel) (by decide +kernel) ?_)
    rw [show (Ze4 == Str.ofString "come") = false from by decide +kernel]
    refine kf _ ?_
    dsimp only [Zat]
    refine k2 _ _ ?_
    refine Ye fun K3 r3 => ?_
    dsimp only [Zaz, Zag, W6, Yu, Zau, Yl, Zy, Zq, Zn, Y4, Loc.set, String.reduceBEq, cond_true, cond_false, Y8]
    refine ⟨H.instOf (by decide +kernel), Wp (xs := [V.str Ze4, V.int n]) (Yt (i := 1) rfl) ?_⟩
    by_cases hex : ∃ t ∈ D.T, t.1.n = n
    · obtain ⟨t', ht', rfl⟩ := hex
      refine .inl ⟨x, D, m, t', rfl, ht', H, W, by exact Nat.lt_of_le_of_lt few (by decide), fun σ5 D5 m5 fb log H5 W5 F5 hsk5 hcnt5 hlog5 hkeys5 hfb nffb hfb5 hlc5 => ?_⟩
      obtain ⟨hsm, hA⟩ := Zss W hnn few ht' H5 W5 F5 hsk5 hcnt5 hlog5 hkeys5
      simp only [hfb5]
      refine ⟨nofun, Wu Zb6.v (fun e => V.str e.t) hfb5 log (fun e hel => ⟨_, fun P h => h, fun Qv h => ?_⟩) fun ob hob => r3 _ _ _ (r1 _ _ _ (kret _ _ _ _ Sub.refl (hq _ ob (hA ob hob))))⟩
      dsimp only [Yk, Yl, Zy, Zn, Loc.set, Loc.bare, String.reduceBEq, cond_true, cond_false]
      exact ⟨e.k, e.hue, e.other, e.nums, e.c, rfl, (hlc5 e hel).1, hsm e hel, h⟩
    · exact .inr ⟨x, D, .int n, true, rfl, H, rfl, fun t' ht' e => hex ⟨t', ht', (by cases e; rfl)⟩, bad CP _ _ (by decide) .pair (.noPair n fun y hy e => hex (let ⟨t', ht', ey⟩ := List.mem_map.1 hy; ⟨t', ht', by rw [ey]; exact e⟩))⟩
end
section
open PySem PySem.W PyProof.Rows
variable {g : Gr} {P : Params}
theorem Ztr (hK : (KK P).In g.b0) (N : NN g) (F_law_deed : FnG g "_law_deed" 4 Zov) : Xz g 5 (.ref 394) Zot := by
  refine Xz.mono (Z7 (r := 4) (ps := ["_law_cell", "_law_sizes", "_law_ends_here", "_law_came"]) (hK 394 _ rfl) rfl (Zt (hK 393 _ rfl) rfl rfl) rfl (by intro vs h; obtain ⟨a0, a1, a2, a3, rfl⟩ := Ztj h; rfl) rfl rfl rfl (by decide +kernel)
    (Zc (Ys (Yb (Zp (Za (.head _) rfl) Zg) Zg rfl) (Zc (Zl (Zj (Z3 (Zb (Zw (Yj (by decide))) (Zb (Zw (Yj (by decide))) (Zb (Zw (Yj (by decide))) (Zb (Zw (Yj (by decide))) (Zb (Zw (Yj (by decide))) (Zb (Zw (Yj (by decide))) (Zb (Zw (Yj (by decide))) (Zb (Zw (Yj (by decide))) Zf))))))))) (Zp (Zp (Za (.head _) rfl) Zg) Zg) (fun _ _ => rfl)))
  Zh) Zh)
  (Zc (Zo (at_ (i := 4) rfl) rfl (Zm (at_ (i := 5) rfl) F_law_deed (Zb (Zp (Za (.head _) rfl) Zg) (Zb (Za (at_ (i := 1) rfl) rfl) (Zb (Za (at_ (i := 2) rfl) rfl) (Zb Zg Zf)))) rfl) (fun _ => rfl))
  (Zc (Ys (Y6 (Zai (Yb (Zj (Za (at_ (i := 4) rfl) rfl) Zg (fun _ _ => rfl)) (Zw (Yj (by decide))) rfl) (Zai (Yb (Zp (Zp (Za (.head _) rfl) Zg) Zg) Zg rfl) Zav))) (Zc (Zl (Zj (Z3 (Zb (Z0 (Zb (Zw (Yj (by decide))) (Zb (Zj (Za (at_ (i := 1) rfl) rfl) Zg (fun _ _ => rfl)) (Zb (Zj (Za (at_ (i := 4) rfl) rfl) Zg (fun _ _ => rfl)) Zf)))) (Zb (Z0 (Zb (Zw (Yj (by decide))) (Zb (Zj (Za (at_ (i := 4) rfl) rfl) Zg (fun _ _ => rfl)) (Zb (Zj (Za (at_ (i := 1) rfl) rfl) Zg (fun _ _ => rfl)) Zf)))) (Zb (Z0 (Zb (Zw (Yj (by decide))) (Zb (Zp Zg Zg) (Zb Zg Zf)))) Zf)))) (Zp (Zp (Za (.head _) rfl) Zg) Zg) (fun _ _ => rfl)))
  Zh) Zh)
  (Zc (Ys (Y6 (Zai (Yb (Zj (Za (at_ (i := 4) rfl) rfl) Zg (fun _ _ => rfl)) (Zw (Yj (by decide))) rfl) (Zai (Yb (Zp (Zp (Za (.head _) rfl) Zg) Zg) Zg rfl) Zav))) (Zc (Zl (Z0 (Zb (Zw (Yj (by decide))) (Zb (Zj (Z3 (Zb (Za (at_ (i := 3) rfl) rfl) (Zb (Zp (Za (at_ (i := 3) rfl) rfl) Zg) (Zb (Zp Zg Zg) (Zb Zg Zf))))) (Zp (Zp (Za (.head _) rfl) Zg) Zg) (fun _ _ => rfl)) Zf))))
  Zh) Zh)
  (Zc (Zl (Za (at_ (i := 4) rfl) rfl))
  Zh)))))) ?_
  rintro xs σ Q E ⟨c, a, b, k, came, ed, kvs, L, ep, rfl, hed, hv, ha, hb, hl, hk, hc, hq⟩
  refine Yy rfl fun K KE kret _ _ => ?_
  dsimp only [Loc.setAll]
  refine Yp fun K1 k1 r1 => ?_
  refine Zap fun KB kt kf => ?_
  dsimp only [Zq, Zn, Wn, Zax, Zdm, Zcj, Loc.set, String.reduceBEq, cond_true, cond_false]
  refine ⟨by decide, Zga ?_⟩
  cases (c.fmod 17 == 3) with
  | true =>
    refine kt _ ?_
    refine Ye fun K2 r2 => ?_
    dsimp only [Zaz, Wx, Yl, Zy, Zq, Zn, Zdm, Zcj, Y4, Loc.set, String.reduceBEq, cond_true, cond_false, List.length_cons, List.length_nil]
    have w0 := Int.fmod_nonneg_of_pos (c.fdiv 17) (show (0 : Int) < 8 by decide)
    have w1 := Int.fmod_lt_of_pos (c.fdiv 17) (show (0 : Int) < 8 by decide)
    obtain ⟨v, hv', hm⟩ := Zdv (xs := Z15.map V.str) w0 w1
    exact ⟨Yn rfl, fun q hq' => ⟨by decide, by decide, Zdt Zd hv' (r2 _ _ _ (r1 _ _ _ (kret _ _ _ _ (Sub.refl.new hq') (hq v (Zwb hm)))))⟩⟩
  | false =>
  refine kf _ ?_
  dsimp only [Zat]
  refine k1 _ _ ?_
  refine Yp fun K1 k1 r1 => ?_
  dsimp only [Z4, Yk, Yl, Zy, Zq, Zn, Zdm, Zcj, Loc.set, String.reduceBEq, cond_true, cond_false]
  have big : (0 : Int) ≤ 10 ^ 12 ∧ (10 : Int) ^ 12 < 10 ^ 30 := by decide
  have go : ∀ n ∈ kvs.map (·.1), K1 .next ((((((Loc.empty.set "_law_cell" (.int c)).set "_law_sizes" (.tup [.int a, .int b, .int k])).set "_law_ends_here" (.ref ed)).set "_law_came" (.int came))).set "_law_deed_here" (.tup [.str goS, .int n])) σ := by
    intro n hn
    have hn1 := hk n hn
    refine k1 _ _ ?_
    refine Yp fun K2 k2 r2 => ?_
    refine Zap fun KB kt kf => ?_
    dsimp only [Zq, Zn, Zkg, Xo, Wn, Zax, Zdm, Zcj, Y4, Loc.set, String.reduceBEq, cond_true, cond_false]
    refine Wp (Yt (i := 0) rfl) (Zaa Zro Zip ?_)
    rw [show (goS == Str.ofString "come") = false from Ztn]
    refine kf _ ?_
    dsimp only [Zat]
    refine k2 _ _ ?_
    refine Yp fun K2 k2 r2 => ?_
    refine Zap fun KB kt kf => ?_
    dsimp only [Zq, Zn, Zkg, Xo, Wn, Zax, Zdm, Zcj, Y4, Loc.set, String.reduceBEq, cond_true, cond_false]
    refine Wp (Yt (i := 0) rfl) (Zaa Zro Zro ?_)
    rw [show (goS == Str.ofString "go") = true from BEq.rfl]
    refine ⟨by decide, by decide, Zga ?_⟩
    cases ((c.fdiv 3).fmod 6 == 1) with
    | false =>
      refine kf _ ?_
      dsimp only [Zat]
      refine k2 _ _ ?_
      refine Ye fun K3 r3 => ?_
      dsimp only [Zaz, Zn, Loc.set, String.reduceBEq, cond_true, cond_false]
      exact r3 _ _ _ (kret _ _ _ _ Sub.refl (hq _ (.go n ⟨hn1.1, by exact Zo1 hn1⟩)))
    | true =>
      refine kt _ ?_
      refine Ye fun K3 r3 => ?_
      dsimp only [Zaz, Wx, Ww, Yl, Zy, Zq, Zn, Zdm, Zcj, Y4, Loc.set, String.reduceBEq, cond_true, cond_false, List.length_cons, List.length_nil]
      refine ⟨⟨by decide, by decide, by decide⟩, Yn rfl, fun q hq' => ⟨by decide, by decide, ?_⟩⟩
      have w0 := Int.fmod_nonneg_of_pos (c.fdiv 30) (show (0 : Int) < 4 by decide)
      have w1 := Int.fmod_lt_of_pos (c.fdiv 30) (show (0 : Int) < 4 by decide)
      obtain ⟨v, hv', hm⟩ := Zdv (xs := [V.int came, V.int (came + 7), V.int (10 ^ Int.toNat 12), V.int 0]) w0 w1
      obtain ⟨z, rfl, hz⟩ : ∃ z : Int, v = .int z ∧ 0 ≤ z ∧ z < 10 ^ 30 := by
        simp only [List.mem_cons, List.not_mem_nil, or_false] at hm
        rcases hm with rfl | rfl | rfl | rfl
        · exact ⟨_, rfl, by exact Zu2 hc, by exact Zo1 hc⟩
        · exact ⟨_, rfl, by exact Zxq hc, by exact Zxp hc⟩
        · exact ⟨_, rfl, by decide, by decide⟩
        · exact ⟨_, rfl, by decide, by decide⟩
      exact Zdt Zd hv' ⟨Yn rfl, r3 _ _ _ (r2 _ _ _ (kret _ _ _ _ (Sub.refl.new hq') (hq _ (.go z hz))))⟩
  refine ⟨by decide, _, a, b, k, 41, ed, kvs, L, _, ep, rfl, hed, hv, ha.1, ha.2, hb.1, hb.2, by exact Zxo hl, by decide, go, fun hlt l r hl1 hl2 hr1 hr2 => ?_⟩
  refine k1 _ _ ?_
  refine Yp fun K2 k2 r2 => ?_
  refine Zap fun KB kt kf => ?_
  dsimp only [Zq, Zn, Zkg, Xo, Wn, Zax, Zdm, Zcj, Y4, Loc.set, String.reduceBEq, cond_true, cond_false]
  refine Wp (Yt (i := 0) rfl) (Zaa Zip Zip ?_)
  rw [show (Znn == Str.ofString "come") = true from BEq.rfl]
  refine ⟨by decide, by decide, Zga ?_⟩
  cases ((c.fdiv 3).fmod 10 == 1) with
  | true =>
    refine kt _ ?_
    refine Ye fun K3 r3 => ?_
    dsimp only [Zaz, Wx, Ww, Yl, Zy, Zq, Zn, Zdm, Zcj, Y4, Loc.set, String.reduceBEq, cond_true, cond_false, List.length_cons, List.length_nil]
    refine Wp (Yt (i := 0) rfl) (Wp (Yt (i := 2) rfl) ⟨Yn rfl, Wp (Yt (i := 1) rfl) (Wp (Yt (i := 1) rfl) ⟨Yn rfl, ⟨by decide, by decide, by decide⟩, Yn rfl, Yn rfl, fun q hq' => ⟨by decide, by decide, ?_⟩⟩)⟩)
    have w0 := Int.fmod_nonneg_of_pos (c.fdiv 30) (show (0 : Int) < 3 by decide)
    have w1 := Int.fmod_lt_of_pos (c.fdiv 30) (show (0 : Int) < 3 by decide)
    obtain ⟨v, hv', hm⟩ := Zdv (xs := [V.tup [.str (Str.ofString "come"), .int a, .int r], V.tup [.str (Str.ofString "come"), .int l, .int b], V.tup [.str (Str.ofString "come"), .int (10 ^ Int.toNat 12), .int 0]]) w0 w1
    refine Zdt Zd hv' (r3 _ _ _ (r2 _ _ _ (kret _ _ _ _ (Sub.refl.new hq') (hq v ?_))))
    simp only [List.mem_cons, List.not_mem_nil, or_false] at hm
    rcases hm with rfl | rfl | rfl
    · exact .come a r ⟨by exact Zm9 ha, by exact Zuy ha⟩ ⟨by exact Zq6 hr1, by exact Zq5 hb hr2⟩
    · exact .come l b ⟨by exact Zq6 hl1, by exact Zq5 ha hl2⟩ ⟨by exact Zm9 hb, by exact Zuy hb⟩
    · exact .come _ 0 (by decide) (by decide)
  | false =>
    refine kf _ ?_
    dsimp only [Zat]
    refine k2 _ _ ?_
    refine Yp fun K2 k2 r2 => ?_
    refine Zap fun KB kt kf => ?_
    dsimp only [Zq, Zn, Zkg, Xo, Wn, Zax, Zdm, Zcj, Y4, Loc.set, String.reduceBEq, cond_true, cond_false]
    refine Wp (Yt (i := 0) rfl) (Zaa Zip Zro ?_)
    rw [show (Znn == Str.ofString "go") = false from Ztu]
    refine kf _ ?_
    dsimp only [Zat]
    refine k2 _ _ ?_
    refine Ye fun K3 r3 => ?_
    dsimp only [Zaz, Zn, Loc.set, String.reduceBEq, cond_true, cond_false]
    exact r3 _ _ _ (kret _ _ _ _ Sub.refl (hq _ (.come l r ⟨by exact Zq6 hl1, by exact Zq5 ha hl2⟩ ⟨by exact Zq6 hr1, by exact Zq5 hb hr2⟩)))
end
section
open PySem PySem.W PyProof.Rows
variable {g : Gr} {P : Params}
theorem Z13 (hK : (KK P).In g.b0) (N : NN g) (F_Hall : Zdb g 13 (.ref CC) (Zt6 CC (Zls CC CX))) (F_law_cell_at : FnG g "_law_cell_at" 13 Zkl) (F_law_mixed : FnG g "_law_mixed" 13 Zor) (F_law_sizes_by : FnG g "_law_sizes_by" 13 Zh7) (F_law_drawn : FnG g "_law_drawn" 13 Zot) (F_law_answer : FnG g "_law_answer" 13 (Zh9 CC)) (F_play : FnG g "play" 13 Ztb)
    (M_pairs : FnM g (KK P) CC "pairs" 13 (Zop CC)) : Xz g 14 (.ref 399) Zut := by
  refine Xz.mono (Z7 (r := 13) (ps := ["_law_script"]) (hK 399 _ rfl) rfl (Zt (hK 398 _ rfl) rfl rfl) rfl (by intro vs h; obtain ⟨a0, rfl⟩ := Zo8 h; rfl) rfl rfl rfl (by decide +kernel)
    (Zc (Zo (at_ (i := 1) rfl) rfl (Zm (at_ (i := 18) rfl) F_law_cell_at (Zb (Za (.head _) rfl) (Zb Zg Zf)) rfl) (fun _ => rfl))
  (Zc (Zo (at_ (i := 2) rfl) rfl (Zm (at_ (i := 19) rfl) F_law_sizes_by (Zb (Za (at_ (i := 1) rfl) rfl) Zf) rfl) (fun _ => rfl))
  (Zc (Zo (at_ (i := 3) rfl) rfl (Zg1 hK (at_ (i := 20) rfl) (N.n_Hall) Zpc F_Hall (Zb (Zj (Za (at_ (i := 2) rfl) rfl) Zg (fun _ _ => rfl)) (Zb (Zj (Za (at_ (i := 2) rfl) rfl) Zg (fun _ _ => rfl)) Zf)) rfl) (fun _ => rfl))
  (Zc (Zo (at_ (i := 4) rfl) rfl Zem (fun _ => rfl))
  (Zc (Zo (at_ (i := 5) rfl) rfl (Z3 Zf) (fun _ => rfl))
  (Zc (Zo (at_ (i := 6) rfl) rfl (Z3 Zf) (fun _ => rfl))
  (Zc (X9 (at_ (i := 8) rfl) rfl (by decide +kernel) (W7 (at_ (i := 21) rfl) (N.n_range) (Zp Zg (Zm (at_ (i := 22) rfl) (Zan N.n_int Zok) (Zb (Zh4 (Zp (Zp (Za (at_ (i := 1) rfl) rfl) Zg) Zg) Zg rfl) Zf) rfl)) rfl) (.name (at_ (i := 1) rfl) rfl) (by decide +kernel) Xp (Z0 (Zb (Zw (Yj (by decide))) (Zb (Zp (Za (at_ (i := 1) rfl) rfl) (Zj (Za (at_ (i := 2) rfl) rfl) Zg (fun _ _ => rfl))) (Zb (Zp (Zp (Za (at_ (i := 1) rfl) rfl) Zg) (Zj (Za (at_ (i := 2) rfl) rfl) Zg (fun _ _ => rfl))) Zf)))) (fun _ _ => rfl))
  (Zc (Wd (W7 (at_ (i := 21) rfl) (N.n_range) (Zp (Zm (at_ (i := 23) rfl) (Z2 N.n_len Xi) (Zb (Za (at_ (i := 8) rfl) rfl) Zf) rfl) (Zm (at_ (i := 24) rfl) (Z2 N.n_min Zog) (Zb Zg (Zb (Zm (at_ (i := 25) rfl) (Z2 N.n_max Zoh) (Zb Zg (Zb (Zp (Zm (at_ (i := 23) rfl) (Z2 N.n_len Xi) (Zb (Za (.head _) rfl) Zf) rfl) Zg) Zf)) rfl) Zf)) rfl)) rfl) (.name (at_ (i := 7) rfl) rfl) (Zc (Ys (Yb (Za (at_ (i := 7) rfl) rfl) (Zm (at_ (i := 23) rfl) (Z2 N.n_len Xi) (Zb (Za (at_ (i := 8) rfl) rfl) Zf) rfl) rfl) (Zc (Zo (at_ (i := 9) rfl) rfl (Zm (at_ (i := 26) rfl) F_law_mixed (Zb (Zj (Za (.head _) rfl) (Zp (Zp Zg (Za (at_ (i := 7) rfl) rfl)) (Zm (at_ (i := 23) rfl) (Z2 N.n_len Xi) (Zb (Za (at_ (i := 8) rfl) rfl) Zf) rfl)) (fun _ _ => rfl)) (Zb (Za (at_ (i := 7) rfl) rfl) Zf)) rfl) (fun _ => rfl))
  (Zc (Zo (at_ (i := 10) rfl) rfl (Zm (at_ (i := 27) rfl) F_law_drawn (Zb (Za (at_ (i := 9) rfl) rfl) (Zb (Za (at_ (i := 2) rfl) rfl) (Zb (Za (at_ (i := 4) rfl) rfl) (Zb (Zm (at_ (i := 23) rfl) (Z2 N.n_len Xi) (Zb (Y5 (by decide +kernel) (Z5 (Za (at_ (i := 6) rfl) rfl)) (.name (at_ (i := 1) rfl) rfl) (by decide +kernel) (Zd5 (We (Zj (Za (at_ (i := 1) rfl) rfl) Zg (fun _ _ => rfl)) (fun _ _ => rfl))) (Za (at_ (i := 1) rfl) rfl) (fun _ _ => rfl)) Zf) rfl) Zf)))) rfl) (fun _ => rfl))
  Zh)) (Zc (Zo (at_ (i := 10) rfl) rfl (Zj (Za (at_ (i := 8) rfl) rfl) (Za (at_ (i := 7) rfl) rfl) (fun _ _ => rfl)) (fun _ => rfl))
  Zh))
  (Zc (Ys (We (Zh3 (at_ (i := 28) rfl) (N.n_isinstance) (at_ (i := 29) rfl) (N.n_str) (Za (at_ (i := 10) rfl) rfl) rfl) (fun _ _ => rfl)) (Zc (Yz (Za6 (Za (at_ (i := 5) rfl) rfl) (Zb (Za (at_ (i := 10) rfl) rfl) Zf) rfl rfl rfl rfl) (fun _ => rfl))
  (Zc (Yz (Za6 (Za (at_ (i := 6) rfl) rfl) (Zb (Z0 (Zb (Z3 (Zb (Zw (Yj (by decide))) Zf)) (Zb Zd6 Zf))) Zf) rfl rfl rfl rfl) (fun _ => rfl))
  Zh)) (Zc (Yz (Za6 (Za (at_ (i := 5) rfl) rfl) (Zb (Zvo (Zw (Yj (by decide))) (Zb (Y5 (by decide +kernel) (Z5 (Za (at_ (i := 10) rfl) rfl)) (.name (at_ (i := 1) rfl) rfl) (by decide +kernel) Xp (Zm (at_ (i := 2) rfl) (Zan N.n_str Zbw) (Zb (Za (at_ (i := 1) rfl) rfl) Zf) rfl) (fun _ _ => rfl)) Zf) rfl rfl rfl rfl) Zf) rfl rfl rfl rfl) (fun _ => rfl))
  (Zc (Zo (at_ (i := 11) rfl) rfl (Zm (at_ (i := 23) rfl) (Z2 N.n_len Xi) (Zb (Zz hK hC M_pairs (Za (at_ (i := 3) rfl) rfl) Zf rfl rfl rfl rfl) Zf) rfl) (fun _ => rfl))
  (Zc (Zo (at_ (i := 12) rfl) rfl (Zm (at_ (i := 30) rfl) F_law_answer (Zb (Za (at_ (i := 3) rfl) rfl) (Zb (Za (at_ (i := 10) rfl) rfl) Zf)) rfl) (fun _ => rfl))
  (Zc (Yz (Za6 (Za (at_ (i := 6) rfl) rfl) (Zb (Z0 (Zb (Za (at_ (i := 12) rfl) rfl) (Zb (Zb9 (Zh1 (Zh4 (Zj (Za (at_ (i := 10) rfl) rfl) Zg (fun _ _ => rfl)) (Zw (Yj (by decide))) rfl) (Zfc (Zh4 (Zm (at_ (i := 23) rfl) (Z2 N.n_len Xi) (Zb (Zz hK hC M_pairs (Za (at_ (i := 3) rfl) rfl) Zf rfl rfl rfl rfl) Zf) rfl) (Za (at_ (i := 11) rfl) rfl) rfl)))) Zf))) Zf) rfl rfl rfl rfl) (fun _ => rfl))
  Zh)))))
  (Zc (Zo (at_ (i := 4) rfl) rfl (Zm (at_ (i := 31) rfl) (Zan N.n_dict Zmy) (Zb (Y5 (by decide +kernel) (Z5 (Zz hK hC M_pairs (Za (at_ (i := 3) rfl) rfl) Zf rfl rfl rfl rfl)) (.name (at_ (i := 1) rfl) rfl) (by decide +kernel) Xp (Z0 (Zb (Zj (Za (at_ (i := 1) rfl) rfl) Zg (fun _ _ => rfl)) (Zb (Zgz (Za (at_ (i := 1) rfl) rfl) (Zfm Zg) (Zfm Zg)) Zf))) (fun _ _ => rfl)) Zf) rfl) (fun _ => rfl))
  Zh))) (fun _ _ => rfl))
  (Zc (Zo (at_ (i := 13) rfl) rfl (Zm (at_ (i := 32) rfl) (Zan N.n_list Zi3) (Zb (Za (at_ (i := 5) rfl) rfl) Zf) rfl) (fun _ => rfl))
  (Zc (X9 (at_ (i := 14) rfl) rfl (by decide +kernel) (Z5 (Za (at_ (i := 6) rfl) rfl)) (.name (at_ (i := 1) rfl) rfl) (by decide +kernel) Xp (Zj (Za (at_ (i := 1) rfl) rfl) Zg (fun _ _ => rfl)) (fun _ _ => rfl))
  (Zc (Wd (W7 (at_ (i := 21) rfl) (N.n_range) Zg rfl) (.name (at_ (i := 15) rfl) rfl) (Zc (Zo (at_ (i := 16) rfl) rfl (Zm (at_ (i := 33) rfl) F_play (Zb (Zj (Za (at_ (i := 2) rfl) rfl) Zg (fun _ _ => rfl)) (Zb (Zj (Za (at_ (i := 2) rfl) rfl) Zg (fun _ _ => rfl)) (Zb (Za (at_ (i := 13) rfl) rfl) Zf))) rfl) (fun _ => rfl))
  (Zc (Ys (Y6 (Xq (Zae (We (Wz (k := .list) (at_ (i := 28) rfl) (N.n_isinstance) (at_ (i := 32) rfl) (N.n_list) (Za (at_ (i := 16) rfl) rfl) rfl) (fun _ _ => rfl))) (Xq (Yb (Za (at_ (i := 16) rfl) rfl) (Za (at_ (i := 14) rfl) rfl) rfl) (Xq (Yb (Za (at_ (i := 13) rfl) rfl) (Za (at_ (i := 5) rfl) rfl) rfl) Wa)))) (Zc (Zl Zd6)
  Zh) Zh)
  (Zc (Ys (Zae (We (Zm (at_ (i := 34) rfl) (Z2 N.n_all Zh2) (Zb (Y5 (by decide +kernel) (Z5 (Za (at_ (i := 16) rfl) rfl)) (.name (at_ (i := 1) rfl) rfl) (by decide +kernel) Xp (Zb9 (Zh1 (Wz (k := .list) (at_ (i := 2) rfl) (N.n_isinstance) (at_ (i := 3) rfl) (N.n_list) (Za (at_ (i := 1) rfl) rfl) rfl) (Zfc (Zm (at_ (i := 4) rfl) (Z2 N.n_all Zh2) (Zb (Y5 (by decide +kernel) (Z5 (Za (at_ (i := 1) rfl) rfl)) (.name (at_ (i := 1) rfl) rfl) (by decide +kernel) Xp (Zh3 (at_ (i := 2) rfl) (N.n_isinstance) (at_ (i := 3) rfl) (N.n_str) (Za (at_ (i := 1) rfl) rfl) rfl) (fun _ _ => rfl)) Zf) rfl)))) (fun _ _ => rfl)) Zf) rfl) (fun _ _ => rfl))) (Zc (Zl Zd6)
  Zh) Zh)
  (Zc (Wd (Z5 (Za (at_ (i := 16) rfl) rfl)) (.name (at_ (i := 17) rfl) rfl) (Zc (Yz (Za6 (Za (at_ (i := 17) rfl) rfl) (Zb (Zw (Yj (by decide))) Zf) rfl rfl rfl rfl) (fun _ => rfl))
  Zh) (fun _ _ => rfl))
  Zh)))) (fun _ _ => rfl))
  (Zc (Zl Zd6)
  Zh))))))))))))) ?_
  rintro xs σ Q E ⟨ns, rfl, hns, hq⟩
  refine Yy rfl fun K KE kret _ _ => ?_
  dsimp only [Loc.setAll]
  refine Zs fun K1 k1 => ?_
  dsimp only [Z4, Yk, Yl, Zy, Zq, Zn, Loc.set, String.reduceBEq, cond_true]
  refine ⟨ns, 0, rfl, fun c0 => k1 _ _ ?_⟩
  refine Zs fun K1 k1 => ?_
  dsimp only [Z4, Yk, Yl, Zy, Zn, Loc.set, String.reduceBEq, cond_true, cond_false]
  refine ⟨c0, rfl, fun a b kk ha1 ha2 hb1 hb2 => k1 _ _ ?_⟩
  refine Zs fun K1 k1 => ?_
  dsimp only [Z4, Yk, Yl, Zy, Zq, Zn, Y4, Loc.set, String.reduceBEq, cond_true, cond_false, Zt6]
  refine Wp (Wj (by decide) rfl) (Wp (Wj (by decide) rfl) fun x d hx hd hxd => ⟨x, d, .int a, .int b, true, true, rfl, rfl, rfl, Zd, by rw [Ze (Ne.symm hxd)]; exact Zd, fun z => ?_, fun a' b' q1 q2 ha hb σ1 D0 H0 hT0 hDa hDb hDn hDd hrd kp => ⟨rfl, k1 _ _ ?_⟩⟩)
  · simp [okC, ha1, ha2, hb1, hb2] at z
  cases q1; cases q2
  have hS0 : D0.S = [] := by unfold HD.S; rw [hT0]; rfl
  have W0 : Zmh D0 0 := ⟨by rw [hS0]; exact Zex.empty, by rw [hDa]; exact ha, by rw [hDb]; exact hb, by rw [hDn]; decide, fun y hy => by rw [hS0] at hy; cases hy⟩
  have P0 : Zch σ1 CC x D0 a b [] 0 := ⟨H0, ⟨0, W0⟩, by rw [hT0]; decide, (fun y hy => by rw [hS0] at hy; cases hy), hDa, hDb, hS0, hDn⟩
  refine Zs fun K1 k1 => ?_
  dsimp only [Z4, Zn7]
  refine fun ed0 ep0 hed0 => k1 _ _ ?_
  have s1 : Sub σ1 (σ1.set ed0 (.dictI [] ep0)) := Sub.refl.new hed0
  have hed1 : (σ1.set ed0 (.dictI [] ep0)) ed0 = some (.dictI [] ep0) := Zd
  generalize σ1.set ed0 (.dictI [] ep0) = σ2 at s1 hed1 ⊢
  refine Zs fun K1 k1 => ?_
  dsimp only [Z4, Wx, Yl, List.length_nil]
  refine ⟨Yn rfl, fun lb hlb => k1 _ _ ?_⟩
  have s2 : Sub σ2 (σ2.set lb (.list [])) := Sub.refl.new hlb
  have elb : (σ2.set lb (.list [])) lb = some (.list (([] : List Str).map V.str)) := Zd
  have nlb : ¬ D0.foot lb := Zct (H0.sub s1) hlb
  generalize σ2.set lb (.list []) = σ3 at s2 elb ⊢
  refine Zs fun K1 k1 => ?_
  dsimp only [Z4, Wx, Yl, List.length_nil]
  refine ⟨Yn rfl, fun ub hub => k1 _ _ ?_⟩
  have s3 : Sub σ3 (σ3.set ub (.list [])) := Sub.refl.new hub
  have eub : (σ3.set ub (.list [])) ub = some (.list (([] : List (Addr × Bool)).map Zpt)) := Zd
  have nub : ¬ D0.foot ub := Zct ((H0.sub s1).sub s2) hub
  have lu : lb ≠ ub := fun z => by rw [z, hub] at elb; cases elb
  generalize σ3.set ub (.list []) = σ4 at s3 eub ⊢
  have Λ0 : Led σ4 D0 lb ub [] [] [] := ⟨s3 _ _ elb, eub, rfl, fun i p o h => (by cases h), fun p h => absurd h List.not_mem_nil, nlb, nub, lu, fun t h => absurd h List.not_mem_nil⟩
  have P4 := P0.sub ((s1.trans s2).trans s3)
  have hed4 := s3 _ _ (s2 _ _ hed1)
  refine Zs fun K1 k1 => ?_
  dsimp only [Wo, Zdl, Yk, Zau, Yl, Zy, Zq, Zn, Zwz, Zax, Zdm, Zcj, Loc.set, String.reduceBEq, cond_true, cond_false]
  refine ⟨by decide, by decide, Zga ⟨_, rfl, ?_⟩⟩
  obtain ⟨nd, hnd, hnd40⟩ : ∃ nd : Nat, (40 : Int) * (if ((c0.fdiv 5120).fmod 9 == 1) then 1 else 0) = nd ∧ nd ≤ 40 := by
    cases ((c0.fdiv 5120).fmod 9 == 1)
    · exact ⟨0, rfl, by decide⟩
    · exact ⟨40, rfl, by decide⟩
  refine ⟨.of_left (by decide), ?_⟩
  rw [hnd]
  refine ⟨by exact Zxn hnd hnd40, by simp [Y3]; exact Zxm hnd hnd40, nofun, ?_⟩
  rw [Zc7]
  refine Wu V.int (fun k => V.tup [.str (Str.ofString "come"), .int (k.fmod a), .int ((k.fdiv 3).fmod b)]) trivial (Zd7 (nd : Int).toNat) (fun k _ => ⟨_, fun P h => h, fun Qv h => ?_⟩) fun db hdb => k1 _ _ ?_
  · dsimp only [Ww, Yl, Zy, Zq, Zn, Zdm, Zcj, Y4, Loc.set, Loc.bare, String.reduceBEq, cond_true, cond_false, List.length_cons, List.length_nil]
    exact Wp (Wj (by decide) rfl) ⟨by exact Zux ha1 ha2 hDa, by decide, Wp (Wj (by decide) rfl) ⟨by exact Zux hb1 hb2 hDb, Yn rfl, h⟩⟩
  have hdv : ∀ v ∈ ((Zd7 (nd : Int).toNat).map fun k => V.tup [.str (Str.ofString "come"), .int (k.fmod a), .int ((k.fdiv 3).fmod b)]), Drawn v := fun v hv => by
    obtain ⟨k, _, rfl⟩ := List.mem_map.1 hv
    have h1 := Int.fmod_nonneg_of_pos k (show 0 < a by exact Zq4 ha1 ha2 hDa)
    have h2 := Int.fmod_lt_of_pos k (show 0 < a by exact Zq4 ha1 ha2 hDa)
    have h3 := Int.fmod_nonneg_of_pos (k.fdiv 3) (show 0 < b by exact Zq4 hb1 hb2 hDb)
    have h4 := Int.fmod_lt_of_pos (k.fdiv 3) (show 0 < b by exact Zq4 hb1 hb2 hDb)
    exact .come _ _ ⟨h1, by exact Zuw ha1 ha2 hDa h2⟩ ⟨h3, by exact Zuw hb1 hb2 hDb h4⟩
  have hdl : ((Zd7 (nd : Int).toNat).map fun k => V.tup [.str (Str.ofString "come"), .int (k.fmod a), .int ((k.fdiv 3).fmod b)]).length = nd := by simp [Zd7]
  generalize ((Zd7 (nd : Int).toNat).map fun k => V.tup [.str (Str.ofString "come"), .int (k.fmod a), .int ((k.fdiv 3).fmod b)]) = dvs at hdv hdl hdb ⊢
  have s5 : Sub σ4 (σ4.set db (.list dvs)) := Sub.refl.new hdb
  have edb : (σ4.set db (.list dvs)) db = some (.list dvs) := Zd
  have ndb : ¬ D0.foot db := Zct P4.hall hdb
  have dl : db ≠ lb := fun z => by rw [z, Λ0.eL] at hdb; cases hdb
  have du : db ≠ ub := fun z => by rw [z, Λ0.eU] at hdb; cases hdb
  generalize σ4.set db (.list dvs) = σ5 at s5 edb ⊢
  refine Zs fun K1 k1 => ?_
  dsimp only [Zlm, Zdl, Yk, Zhz, Ziv, Yl, Zy, Zq, Zn, Zdm, Zcj, Loc.set, String.reduceBEq, cond_true, cond_false, Zul, Zuk]
  simp only [edb, hdl, List.length_map]
  refine ⟨_, _, rfl, _, _, rfl, ?_⟩
  obtain ⟨T, hT, hT1, hT2⟩ : ∃ T : Nat, (nd : Int) + (if (if (0 : Int) < (ns.length : Int) - 1 then (ns.length : Int) - 1 else 0) < 30 then (if (0 : Int) < (ns.length : Int) - 1 then (ns.length : Int) - 1 else 0) else 30) = T ∧ T ≤ nd + 30 ∧ T ≤ nd + (ns.length - 1) := ⟨nd + min 30 (ns.length - 1), by split <;> split <;> omega, by exact Zxl, by exact Zxk hns⟩
  rw [hT]
  refine ⟨by exact Zw0, by simp [Y3]; exact Zxj hnd hnd40 hT1, nofun, ?_⟩
  refine Zcu (fun i ℓ σ' => ∀ P0 : Prop, (∀ (D : HD) (S : List Rw) (nx : Int) (ts : List Str) (os : List (List Str)) (obs : List (Addr × Bool)) (ed : Addr) (ep : Nat), (Zch σ' CC x D a b S nx) → (Zde a b ts os S nx) → (ts.length = i) → (Led σ' D lb ub ts os obs) → (σ' db = some (.list dvs)) → (¬ D.foot db) → (σ' ed = some (.dictI (Zam S) ep)) → (ℓ "_law_script" = some (.frz (ns.map V.int))) → (ℓ "_law_sizes" = some (.tup [.int a, .int b, .int kk])) → (ℓ "_law_hall" = some (.ref x)) → (ℓ "_law_ends_here" = some (.ref ed)) → (ℓ "_law_lines" = some (.ref lb)) → (ℓ "_law_due" = some (.ref ub)) → (ℓ "_law_deeds" = some (.ref db)) → P0) → P0) ?_ ?_
    (fun _ kI => kI (D0) ([]) (0) ([]) ([]) ([]) (ed0) (ep0) (P4.sub s5) (.nil) (rfl) (⟨s5 _ _ Λ0.eL, s5 _ _ Λ0.eU, rfl, fun i p o h => (by cases h), fun p h => absurd h List.not_mem_nil, nlb, nub, lu, fun t h => absurd h List.not_mem_nil⟩) (edb) (ndb) (s5 _ _ hed4) (rfl) (rfl) (rfl) (rfl) (rfl) (rfl) (rfl))
  · intro ℓ σ' hI0
    refine hI0 _ fun D S nx ts os obs ed ep hP hR hti Λ hdb' nfd hed e1 e2 e3 e4 e5 e6 e7 => ?_
    refine ⟨trivial, k1 _ _ ?_⟩
    refine Zs fun K1 k1 => ?_
    dsimp only [Z4, Yk, Zhy, Yl, Zy, Zn]
    simp only [e5, Zci, Λ.eL]
    refine fun hb' hhb => k1 _ _ ?_
    have s1 : Sub σ' (σ'.set hb' (.list (ts.map V.str))) := Sub.refl.new hhb
    have ehb : (σ'.set hb' (.list (ts.map V.str))) hb' = some (.list (ts.map V.str)) := Zd
    generalize σ'.set hb' (.list (ts.map V.str)) = σ1 at s1 ehb ⊢
    have Λ1 := Λ.sub s1
    refine Zs fun K1 k1 => ?_
    dsimp only [Wo, Zag, W6, Zau, Zn, Loc.set, String.reduceBEq, cond_false]
    simp only [e6, Λ1.eU]
    refine ⟨nofun, Wu Zpt (fun p => V.ref p.1) Λ1.eU obs (fun p _ => ⟨_, fun P h => h, fun Qv h => ?_⟩) fun tb htb => k1 _ _ ?_⟩
    · dsimp only [Zq, Zn, Y4, Loc.set, Loc.bare, String.reduceBEq, cond_true, cond_false]
      exact Wp (xs := [V.ref p.1, V.bool p.2]) (Wj (by decide) rfl) h
    have s2 : Sub σ1 (σ1.set tb (.list (obs.map fun p => V.ref p.1))) := Sub.refl.new htb
    have etb : (σ1.set tb (.list (obs.map fun p => V.ref p.1))) tb = some (.list ((obs.map Prod.fst).map V.ref)) := by rw [Zd, List.map_map]; rfl
    generalize σ1.set tb (.list (obs.map fun p => V.ref p.1)) = σ2 at s2 etb ⊢
    have Λ2 := Λ1.sub s2
    have ehb2 := s2 _ _ ehb
    refine Zs fun K1 k1 => ?_
    dsimp only [Zlm, Zdl, Zq]
    refine ⟨by decide, Yn rfl, nofun, ?_⟩
    refine Zcu (fun i ℓ σ' => ∀ P0 : Prop, ((Sub σ2 σ') → (ℓ "_law_sizes" = some (.tup [.int a, .int b, .int kk])) → (ℓ "_law_lines" = some (.ref lb)) → (ℓ "_law_handed" = some (.ref hb')) → (ℓ "_law_told" = some (.ref tb)) → P0) → P0) ?_ ?_ (fun _ kI => kI (Sub.refl) (e2) (e5) (rfl) (rfl))
    · intro ℓ σ' hI0
      refine hI0 _ fun s3 f1 f2 f3 f4 => ?_
      refine ⟨trivial, k1 _ _ ?_⟩
      refine Ye fun K2 r2 => ?_
      dsimp only [Zaz, Zq]
      exact r2 _ _ _ (kret _ _ _ _ Sub.refl (hq _))
    · intro i ℓ σ' K2 hi k2 r2 hI0
      refine hI0 _ fun s3 f1 f2 f3 f4 => ?_
      refine ⟨trivial, ?_⟩
      dsimp only [Xs]
      refine Zs fun K3 k3 => ?_
      dsimp only [Z4, Yk, Yl, Zy, Zq, Zn, Y4, Loc.set, String.reduceBEq, cond_false]
      simp only [f1, f3]
      refine Wp (Wj (by decide) rfl) (Wp (Wj (by decide) rfl) ?_)
      refine ⟨a, b, hb', ts, rfl, ha, hb, s3 _ _ ehb2, by exact Zxi hnd hnd40 hT1 hti, Λ.asc, fun σ4 fb obs' os' S2 nx2 hR2 s4 hfb efb O => k3 _ _ ?_⟩
      obtain ⟨rfl, _, _⟩ := hR.det hR2
      have s5 := s3.trans s4
      have hasc := hR.asc
      refine Zs fun K3 k3 => ?_
      refine Zap fun KB kt kf => ?_
      dsimp only [Zt7, Zso, Zuc, Zud, Zn, Zdg, Wl, Zi0, Zsg, Xo, Wn, Zax, Loc.set, String.reduceBEq, cond_true, cond_false]
      simp only [f2, f3, f4, efb]
      have kb : ∀ (i : Nat) ob o, (obs.map Prod.fst)[i]? = some ob → os[i]? = some o → σ4 ob = some (.list (o.map V.str)) := fun i ob o h1 h2 => by
        rw [List.getElem?_map] at h1
        cases e : obs[i]? with
        | none => rw [e] at h1; cases h1
        | some p => rw [e] at h1; cases h1; exact s5 _ _ (Λ2.at_ i p o e h2)
      refine Zrt efb (s5 _ _ etb) O.len (by rw [List.length_map]; exact Λ.len) O.at_ kb hasc (Zpq (s5 _ _ ehb2) (s5 _ _ Λ2.eL) (fun t ht => (Λ.asc t ht).1) (kf _ ?_))
      dsimp only [Zat]
      refine k3 _ _ ?_
      refine Zs fun K3 k3 => ?_
      refine Zap fun KB kt kf => ?_
      dsimp only [Zag, W6, Yk, Yu, Zau, Yl, Zy, Zn, Zdg, Wl, Zi0, Loc.set, String.reduceBEq, cond_true, cond_false]
      simp only [efb]
      have hat : ∀ ob ∈ obs', ∃ o : List Str, σ4 ob = some (.list (o.map V.str)) ∧ o.length ≤ ts.length + 1 := fun ob hob => by
        obtain ⟨i, hi⟩ := List.getElem?_of_mem hob
        have hi2 : i < os.length := by rw [← O.len]; exact (List.getElem?_eq_some_iff.1 hi).1
        exact ⟨os[i], O.at_ i ob _ hi (List.getElem?_eq_getElem hi2), hR.short.2 _ (List.getElem_mem hi2)⟩
      refine ⟨nofun, Zbf V.ref (fun _ => V.bool true) obs' (fun σ' s' => s' _ _ efb) (fun ob hob => ⟨_, fun _ _ P h => h, fun σ5 s5' Qv hQ => ?_⟩) fun σ6 s6 cb hcb => ?_⟩
      · obtain ⟨o, ho, _⟩ := hat ob hob
        dsimp only [Zag, W6, Yk, Zt7, Zso, Zuc, Zud, Yu, Zau, Yl, Zy, Zn, Wl, Zt8, Loc.set, Loc.bare, String.reduceBEq, cond_true, cond_false]
        simp only [s5' _ _ ho]
        refine ⟨nofun, Wu V.str (fun _ => V.bool true) (s5' _ _ ho) o (fun s _ => ⟨_, fun P h => h, fun Qv h => ?_⟩) fun ib hib => ⟨ib, o.map fun _ => true, rfl, by rw [Zd, List.map_map]; rfl, ?_⟩⟩
        · dsimp only [Zn, Loc.set, Loc.bare, String.reduceBEq, cond_true, cond_false, Zwo]
          exact h
        · rw [Zmf]
          exact hQ _ (Sub.refl.new hib)
      refine ⟨cb, obs'.map fun _ => true, rfl, by rw [Zd, List.map_map]; rfl, ?_⟩
      rw [Zmf]
      refine kf _ ?_
      dsimp only [Zat]
      refine k3 _ _ ?_
      have s7 : Sub σ4 (σ6.set cb (.list (obs'.map fun _ => V.bool true))) := s6.new hcb
      generalize σ6.set cb (.list (obs'.map fun _ => V.bool true)) = σ7 at s7 ⊢
      refine Zs fun K3 k3 => ?_
      dsimp only [Zlm, Zag, W6, Zn, Loc.set, String.reduceBEq, cond_true, cond_false]
      simp only [s7 _ _ efb]
      refine ⟨nofun, ?_⟩
      have hol2 := O.len
      have hg4 := hR.good.2.2.2
      refine Zbr (fun xs ℓ σ8 => ∀ P0 : Prop, (∀ bs : List Addr, (xs = bs.map V.ref) → ((∀ ob ∈ bs, ob ∈ obs')) → (Sub σ2 σ8) → (σ8 fb = some (.list (obs'.map V.ref))) → ((∀ ob ∈ obs', ∃ l : List V, σ8 ob = some (.list l) ∧ l.length + bs.length ≤ 1000)) → (ℓ "_law_sizes" = some (.tup [.int a, .int b, .int kk])) → (ℓ "_law_lines" = some (.ref lb)) → (ℓ "_law_handed" = some (.ref hb')) → (ℓ "_law_told" = some (.ref tb)) → P0) → P0) ?_ ?_ (fun _ kI => kI (obs') (rfl) (fun _ h => h) (s5.trans s7) (s7 _ _ efb) (fun ob hob => ?_) (f1) (f2) (f3) (f4))
      · intro ℓ8 σ8 hI0
        refine hI0 _ fun bs hbs hsub s8 h8 h9 f1 f2 f3 f4 => ?_
        refine ⟨h8, k3 _ _ ?_⟩
        dsimp only [Zat]
        exact k2 _ _ (fun _ kI => kI (s8) (f1) (f2) (f3) (f4))
      · intro v xs ℓ8 σ8 K4 k4 r4 hI0
        refine hI0 _ fun bs hbs hsub s8 h8 h9 f1 f2 f3 f4 => ?_
        cases bs with
        | nil => cases hbs
        | cons ob bs =>
          cases hbs
          have hob := hsub ob (.head _)
          refine ⟨h8, ?_⟩
          dsimp only [Xs]
          refine Zs fun K5 k5 => ?_
          dsimp only [tDo, Xd, Ziu, Wy, Yl, Zy, Zq, Zn, Loc.set, String.reduceBEq, cond_true]
          obtain ⟨l, el, hl⟩ := h9 ob hob
          simp only [el]
          have hl' : l.length + bs.length + 1 ≤ 1000 := by simpa [Nat.add_assoc] using hl
          refine ⟨trivial, by unfold Y3; exact Zxh hl', k5 _ _ ?_⟩
          dsimp only [Zat]
          obtain ⟨n1, n2⟩ := O.new ob hob
          refine k4 _ _ (fun _ kI => kI (bs) (rfl) (fun y hy => hsub y (.tail _ hy)) (fun y p q => ?_) (?_) (fun y hy => ?_) (f1) (f2) (f3) (f4))
          · rw [Ze fun z => by rw [z] at q; rw [s3 _ _ q] at n1; cases n1]
            exact s8 _ _ q
          · rw [Ze (Ne.symm n2)]; exact h8
          · by_cases z : y = ob
            · rw [z]; exact ⟨_, Zd, by rw [List.length_append]; simp only [List.length_cons, List.length_nil]; exact Zxg hl'⟩
            · obtain ⟨l2, el2, hl2⟩ := h9 y hy
              exact ⟨l2, by rw [Ze z]; exact el2, by simp only [List.length_cons] at hl2; exact Zxf hl2⟩
      · obtain ⟨o, ho, hl⟩ := hat ob hob
        exact ⟨_, s7 _ _ ho, by rw [List.length_map]; exact Zxe hnd hnd40 hT1 hti hol2 hg4 hl⟩
  · intro i ℓ σ' K2 hi k2 r2 hI0
    refine hI0 _ fun D S nx ts os obs ed ep hP hR hti Λ hdb' nfd hed e1 e2 e3 e4 e5 e6 e7 => ?_
    refine ⟨trivial, ?_⟩
    dsimp only [Xs]
    have hi' : i < T := by exact Zxd hi hti
    obtain ⟨⟨m0, G0⟩, hbel, hnx, hol⟩ := hR.good
    have hnn := hP.nums
    rw [hP.eS] at hnn
    have hSl : S.length ≤ 40 := by rw [← hP.eS]; simpa [HD.S] using hP.few
    refine Zs fun K3 k3 => ?_
    have step : ∀ (ℓ2 : Loc) (σ2 : AH) (dv : V), Sub σ' σ2 → Drawn dv → ℓ2 "_law_script" = some (.frz (ns.map V.int)) → ℓ2 "_law_sizes" = some (.tup [.int a, .int b, .int kk]) → ℓ2 "_law_hall" = some (.ref x) → ℓ2 "_law_lines" = some (.ref lb) → ℓ2 "_law_due" = some (.ref ub) → ℓ2 "_law_deeds" = some (.ref db) → ℓ2 "_law_deed_here" = some dv → K3 .next ℓ2 σ2 := by
      intro ℓ2 σ2 dv s2 hdr g1 g2 g3 g5 g6 g7 g8
      refine k3 _ _ ?_
      refine Zs fun K5 k5 => ?_
      have fin : ∀ (ℓ3 : Loc) (σ3 : AH) (D' : HD) (S' : List Rw) (nx' : Int) (t : Str) (o : List Str) (ob : Addr) (fl : Bool), Zch σ3 CC x D' a b S' nx' → Zde a b (ts ++ [t]) (os ++ [o]) S' nx' → Led σ3 D' lb ub (ts ++ [t]) (os ++ [o]) (obs ++ [(ob, fl)]) → σ3 db = some (.list dvs) → ¬ D'.foot db → ℓ3 "_law_script" = some (.frz (ns.map V.int)) → ℓ3 "_law_sizes" = some (.tup [.int a, .int b, .int kk]) → ℓ3 "_law_hall" = some (.ref x) → ℓ3 "_law_lines" = some (.ref lb) → ℓ3 "_law_due" = some (.ref ub) → ℓ3 "_law_deeds" = some (.ref db) → K5 .next ℓ3 σ3 := by
        intro ℓ3 σ3 D' S' nx' t o ob fl hP' hR' Λ' hdb3 nfd3 f1 f2 f3 f5 f6 f7
        refine k5 _ _ ?_
        have hi3 : Inc D'.S := by obtain ⟨m, w⟩ := hP'.well; exact w.good.inc
        have hf3 := hP'.few
        refine Zs fun K6 k6 => ?_
        dsimp only [Z4, Zag, W6, Yk, Yu, Zau, Yl, Zy, Zn, Y8]
        simp only [f3]
        refine ⟨hP'.hall.instOf (by decide +kernel), x, D', rfl, hP'.hall, hi3, by exact Nat.lt_of_le_of_lt hf3 (by decide), fun pb hpb => ?_⟩
        simp only [Zd]
        refine ⟨nofun, Zbf Zep (fun t => V.tup [.int t.1.n, .tup [.int t.1.l, .int t.1.r]]) D'.T (fun σ' s' => s' _ _ Zd) (fun t _ => ⟨_, fun _ _ P h => h, fun σ2 s2 Qv hQ => ?_⟩) fun σ4 s4 pd hpd => ?_⟩
        · dsimp only [Ww, Yl, Zy, Zq, Zn, Y4, Zn5, Zlp, Zj3, Loc.set, Loc.bare, String.reduceBEq, cond_true, cond_false, List.length_cons, List.length_nil]
          refine Wp (xs := [V.int t.1.n, V.int t.1.l, V.int t.1.r, Zjr t.1.h]) (Wj (by decide) rfl) ?_
          exact ⟨by simp [Zb4], by simp [Zb4], Yn rfl, hQ _ Sub.refl⟩
        have s1 : Sub σ3 (σ4.set pd (.list (D'.T.map fun t => V.tup [.int t.1.n, .tup [.int t.1.l, .int t.1.r]]))) := ((Sub.refl.new hpb).trans s4).new hpd
        have hps : (D'.T.map fun t => V.tup [.int t.1.n, .tup [.int t.1.l, .int t.1.r]]) = (Zam D'.S).map Zq3 := by
          unfold Zam HD.S
          simp only [List.map_map]; rfl
        refine ⟨pd, Zam D'.S, rfl, by rw [← hps]; exact Zd, fun rd ep hrd => k6 _ _ ?_⟩
        have hput : Zdi [] (Zam D'.S) = Zam D'.S := by
          have := Zg9 (Zam D'.S) [] (by simpa using Zim hi3)
          simpa using this
        rw [hput]
        have s5 := s1.new (o := .dictI (Zam D'.S) ep) hrd
        dsimp only [Zat]
        exact k2 _ _ (fun _ kI => kI (D') (S') (nx') (ts ++ [t]) (os ++ [o]) (obs ++ [(ob, fl)]) (rd) (ep) (hP'.sub s5) (hR') (by simp [hti]) (Λ'.sub s5) (s5 _ _ hdb3) (nfd3) (by rw [hP'.eS]; exact Zd) (f1) (f2) (f3) (rfl) (f5) (f6) (f7))
      refine Zap fun KB kt kf => ?_
      dsimp only [Zn, Zdg, Wl, Zwo]
      simp only [g8]
      have Λ2 := Λ.sub s2
      have hP2 := hP.sub s2
      have hd2 := s2 _ _ hdb'
      have hol' := Λ.len
      have hTi : T ≤ 70 := by exact Zxc hnd hnd40 hT1
      have deed : ∀ k ms, ((k = Xb ∧ ∃ l r, ms = [l, r]) ∨ (k = Ze4 ∧ ∃ n, ms = [n])) → (∀ n ∈ ms, (0 : Int) ≤ n ∧ n < 10 ^ 30) → ℓ2 "_law_deed_here" = some (Zrz k ms) → KB false σ2 := by
        intro k ms hkm hb30 g8
        refine kf _ ?_
        refine Zs fun K6 k6 => ?_
        dsimp only [tDo, Zag, W6, Xd, Ziu, Wy, Yu, Zau, Yl, Zy, Zq, Zn]
        simp only [g5, g8, Λ2.eL, Zrz]
        have hstr : ∀ p ∈ Zcs k ms, Zqq p.1 = some p.2 := fun p hp => by
          rcases List.mem_cons.1 hp with rfl | hp
          · rfl
          · obtain ⟨n, hn, rfl⟩ := List.mem_map.1 hp
            exact if_pos (hb30 n hn)
        have hkk : (k = Xb ∧ ms.length = 2) ∨ (k = Ze4 ∧ ms.length = 1) := by
          rcases hkm with ⟨h, l, r, rfl⟩ | ⟨h, n, rfl⟩
          · exact .inl ⟨h, rfl⟩
          · exact .inr ⟨h, rfl⟩
        have hkl : k.length ≤ 4 := by rcases hkk with ⟨h, _⟩ | ⟨h, _⟩ <;> rw [h] <;> decide +kernel
        have hka : Zei k := by rcases hkk with ⟨h, _⟩ | ⟨h, _⟩ <;> rw [h] <;> exact Zab.2 (by decide +kernel)
        have hml : ms.length ≤ 2 := by omega
        have hdt := Zrv hkk hb30
        have hta := Zgw hka fun n hn => (hb30 n hn).1
        have htl := Zgv (k := k) hb30
        refine ⟨trivial, trivial, nofun, ?_⟩
        rw [← Zo0]
        refine Wu Prod.fst (fun p => V.str p.2) trivial (Zcs k ms) (fun p hp => ⟨_, fun P h => h, fun Qv h => ?_⟩) fun jb hjb => ?_
        · dsimp only [Yk, Yl, Zy, Zn, Loc.set, Loc.bare, String.reduceBEq, cond_true, cond_false, Zmu, Zqq]
          exact ⟨_, _, rfl, hstr p hp, h⟩
        refine ⟨_, jb, k :: ms.map Zbi, rfl, ?_, ?_, ?_⟩
        · rw [Zd, ← Zoz, List.map_map]; rfl
        · have hsum : ((ms.map Zbi).map (·.length)).sum ≤ ms.length * 30 := by
            rcases hkm with ⟨_, l, r, rfl⟩ | ⟨_, n, rfl⟩
            · have h1 := (Zbo (hb30 l (.head _)).1 (hb30 l (.head _)).2).2
              have h2 := (Zbo (hb30 r (.tail _ (.head _))).1 (hb30 r (.tail _ (.head _))).2).2
              simp; exact Zxb h1 h2
            · have h1 := (Zbo (hb30 n (.head _)).1 (hb30 n (.head _)).2).2
              simp; exact Nat.le_trans h1 (by decide)
          rw [Zob]
          simp only [List.map_cons, List.sum_cons, List.length_cons, List.length_map]
          exact Zxa hkl hml hsum
        simp only [Zk Λ2.eL hjb]
        rw [show Txt.join (Str.ofString " ") (k :: ms.map Zbi) = Xg k ms from by rw [← Ziy]; rfl]
        refine ⟨by simp [Y3]; exact Zuv hti hi' hol hol' hTi, k6 _ _ ?_⟩
        have s3 : Sub σ2 (σ2.set jb (.list ((Zcs k ms).map fun p => V.str p.2))) := Sub.refl.new hjb
        generalize σ2.set jb (.list ((Zcs k ms).map fun p => V.str p.2)) = σ3 at s3 ⊢
        have Λ3 := Λ2.sub s3
        have u1 : (σ3.set lb (.list (ts.map V.str ++ [V.str (Xg k ms)]))) ub = some (.list (obs.map Zpt)) := by rw [Ze (Ne.symm Λ.lu)]; exact Λ3.eU
        have l1 : (σ3.set lb (.list (ts.map V.str ++ [V.str (Xg k ms)]))) lb = some (.list ((ts ++ [Xg k ms]).map V.str)) := by rw [List.map_append]; exact Zd
        have d1 : (σ3.set lb (.list (ts.map V.str ++ [V.str (Xg k ms)]))) db = some (.list dvs) := by rw [Ze dl]; exact s3 _ _ hd2
        have hP3 : Zch (σ3.set lb (.list (ts.map V.str ++ [V.str (Xg k ms)]))) CC x D a b S nx := (hP2.sub s3).setList Λ3.eL Λ3.nl
        have kp1 : ∀ y p, σ2 y = some p → y ≠ lb → (σ3.set lb (.list (ts.map V.str ++ [V.str (Xg k ms)]))) y = some p := fun y p q z => by rw [Ze z]; exact s3 _ _ q
        have un1 : ∀ y, (σ3.set lb (.list (ts.map V.str ++ [V.str (Xg k ms)]))) y = none → σ2 y = none := fun y q => s3.none (Zgu q).2
        generalize σ3.set lb (.list (ts.map V.str ++ [V.str (Xg k ms)])) = σ4 at u1 l1 d1 hP3 kp1 un1
        have hi3 : Inc D.S := by obtain ⟨m, w⟩ := hP.well; exact w.good.inc
        have hf3 := hP.few
        refine Zs fun K6 k6 => ?_
        dsimp only [Z4, Yk, Zhz, Ziv, Yl, Zy, Zn, Y8]
        simp only [g3]
        refine ⟨hP3.hall.instOf (by decide +kernel), x, D, rfl, hP3.hall, hi3, by exact Nat.lt_of_le_of_lt hf3 (by decide), fun pb hpb => ?_⟩
        simp only [Zd, List.length_map]
        refine k6 _ _ ?_
        have s5 : Sub σ4 (σ4.set pb (.list (D.T.map Zep))) := Sub.refl.new hpb
        generalize σ4.set pb (.list (D.T.map Zep)) = σ5 at s5 ⊢
        refine Zs fun K6 k6 => ?_
        dsimp only [Z4, Yk, Yl, Zy, Zn, Loc.set, String.reduceBEq, cond_false]
        simp only [g3, g8]
        have hd' : (∃ l r, k = Xb ∧ ms = [l, r]) ∨ ∃ n, k = Ze4 ∧ ms = [n] := by
          rcases hkm with ⟨h, l, r, e⟩ | ⟨h, n, e⟩
          · exact .inl ⟨l, r, h, e⟩
          · exact .inr ⟨n, h, e⟩
        refine ⟨x, D, a, b, S, nx, k, ms, rfl, hd', hP3.sub s5, by exact Zw9 hti hi' hnx hol hol' hTi, fun σ6 ob A => k6 _ _ ?_⟩
        obtain ⟨D', o, S', nx', hA, hP', hF, hN, o0, of, ho⟩ := A
        refine Zs fun K6 k6 => ?_
        dsimp only [tDo, Xd, Ziu, Wy, Yk, Zhz, Ziv, Ww, Yl, Zy, Zq, Zn, Wl, Zwz, Zax, Zt8, Y4, Loc.set, String.reduceBEq, cond_true, cond_false, List.length_cons, List.length_nil, Y8]
        have u6 : σ6 ub = some (.list (obs.map Zpt)) := hF _ _ (s5 _ _ u1) Λ.nu
        have nou : ob ≠ ub := fun z => by rw [z, s5 _ _ u1] at o0; cases o0
        have nf : ∀ {y p}, σ5 y = some p → ¬ D.foot y → ¬ D'.foot y := fun {y p} q h z => (hN y z).elim h fun w => by rw [w] at q; cases q
        have tail : ∀ (ℓ3 : Loc) (σ7 : AH) (fl : Bool), Sub σ6 σ7 → ℓ3 "_law_script" = some (.frz (ns.map V.int)) → ℓ3 "_law_sizes" = some (.tup [.int a, .int b, .int kk]) → ℓ3 "_law_hall" = some (.ref x) → ℓ3 "_law_lines" = some (.ref lb) → ℓ3 "_law_due" = some (.ref ub) → ℓ3 "_law_deeds" = some (.ref db) → K5 .next ℓ3 (σ7.set ub (.list (obs.map Zpt ++ [V.tup [.ref ob, .bool fl]]))) := fun ℓ3 σ7 fl s7 f1 f2 f3 f5 f6 f7 =>
          fin _ _ D' S' nx' (Xg k ms) o ob fl ((hP'.sub s7).setList (s7 _ _ u6) (nf (s5 _ _ u1) Λ.nu)) (hR.snoc (by rw [hdt]; exact hA)) (Λ2.step (fun y p q h1 h2 h3 => by rw [Ze h3]; exact s7 _ _ (hF y p (s5 _ _ (kp1 y p q h2)) h1)) (fun y z => (hN y z).imp id fun w => un1 _ (s5.none w)) (by rw [Ze Λ.lu]; exact s7 _ _ (hF _ _ (s5 _ _ l1) Λ.nl)) (by rw [Zd, List.map_append]; rfl) (by rw [Ze nou]; exact s7 _ _ ho) (un1 _ (s5.none o0)) of ⟨hta, by exact Zw8 hkl hml htl⟩) (by rw [Ze du]; exact s7 _ _ (hF _ _ (s5 _ _ d1) nfd)) (nf (s5 _ _ d1) nfd) f1 f2 f3 f5 f6 f7
        simp only [g3, g6, g8, u6]
        refine ⟨trivial, Wp (xs := .str k :: ms.map V.int) (Wj (by decide) rfl) (Zaa (Zb2 hka) (Zb2 (Zab.2 (by decide +kernel))) ?_)⟩
        have hi6 : Inc D'.S := by obtain ⟨m, w⟩ := hP'.well; exact w.good.inc
        have hf6 := hP'.few
        cases hc : (k == Str.ofString "come") with
        | true =>
          refine ⟨hP'.hall.instOf (by decide +kernel), x, D', rfl, hP'.hall, hi6, by exact Nat.lt_of_le_of_lt hf6 (by decide), fun qb hqb => ?_⟩
          simp only [Zd, List.length_map, Zk u6 hqb]
          refine ⟨Yn rfl, by simp [Y3]; exact Ztd hti hi' hol hol' hTi, k6 _ _ ?_⟩
          dsimp only [Zat]
          exact tail _ _ _ (Sub.refl.new hqb) g1 g2 g3 g5 g6 g7
        | false =>
          simp only [u6]
          refine ⟨Yn rfl, by simp [Y3]; exact Ztd hti hi' hol hol' hTi, k6 _ _ ?_⟩
          dsimp only [Zat]
          exact tail _ _ _ Sub.refl g1 g2 g3 g5 g6 g7
      cases hdr with
      | bad t ha hl hd =>
        refine kt _ ?_
        refine Zs fun K6 k6 => ?_
        dsimp only [tDo, Xd, Ziu, Wy, Yl, Zy, Zn]
        simp only [g5, g8, Λ2.eL]
        refine ⟨trivial, by simp [Y3]; exact Zuv hti hi' hol hol' hTi, k6 _ _ ?_⟩
        refine Zs fun K6 k6 => ?_
        dsimp only [tDo, Xd, Ziu, Wy, Wx, Ww, Yl, Zy, Zq, Zn, List.length_cons, List.length_nil]
        have u1 : (σ2.set lb (.list (ts.map V.str ++ [V.str t]))) ub = some (.list (obs.map Zpt)) := by rw [Ze (Ne.symm Λ.lu)]; exact Λ2.eU
        have l1 : (σ2.set lb (.list (ts.map V.str ++ [V.str t]))) lb = some (.list ((ts ++ [t]).map V.str)) := by rw [List.map_append]; exact Zd
        have d1 : (σ2.set lb (.list (ts.map V.str ++ [V.str t]))) db = some (.list dvs) := by rw [Ze dl]; exact hd2
        have hP3 : Zch (σ2.set lb (.list (ts.map V.str ++ [V.str t]))) CC x D a b S nx := hP2.setList Λ2.eL Λ2.nl
        have kp1 : ∀ y p, σ2 y = some p → y ≠ lb → (σ2.set lb (.list (ts.map V.str ++ [V.str t]))) y = some p := fun y p q z => by rw [Ze z]; exact q
        have un1 : ∀ y, (σ2.set lb (.list (ts.map V.str ++ [V.str t]))) y = none → σ2 y = none := fun y q => (Zgu q).2
        generalize σ2.set lb (.list (ts.map V.str ++ [V.str t])) = σ3 at u1 l1 d1 hP3 kp1 un1
        simp only [g6, u1]
        refine ⟨trivial, Yn rfl, fun ob hob => ⟨Yn rfl, ?_⟩⟩
        simp only [Zk u1 hob]
        refine ⟨by simp [Y3]; exact Ztd hti hi' hol hol' hTi, k6 _ _ ?_⟩
        dsimp only [Zat]
        have nob : ob ≠ ub := fun z => by rw [z, u1] at hob; cases hob
        refine fin _ _ D S nx t [Ziq] ob false ((hP3.sub (Sub.refl.new hob)).setList (Zk u1 hob) Λ.nu) (hR.snoc (by rw [hd]; exact .bad)) (Λ2.step (fun y p q h1 h2 h3 => by rw [Ze h3]; exact Zk (kp1 y p q h2) hob) (fun y z => .inl z) (by rw [Ze Λ.lu]; exact Zk l1 hob) (by rw [Zd, List.map_append]; rfl) (by rw [Ze nob]; exact Zd) (un1 _ hob) (Zct hP3.hall hob) ⟨ha, by exact Nat.le_trans hl (by decide)⟩) (by rw [Ze du]; exact Zk d1 hob) nfd g1 g2 g3 g5 g6 g7
      | come l r h1 h2 => exact deed Xb [l, r] (.inl ⟨rfl, _, _, rfl⟩) (fun n hn => by simp at hn; rcases hn with rfl | rfl <;> assumption) g8
      | go n h1 => exact deed Ze4 [n] (.inr ⟨rfl, _, rfl⟩) (fun n hn => by simp at hn; rw [hn]; exact h1) g8
    refine Zap fun KB kt kf => ?_
    dsimp only [Yk, Zhz, Ziv, Yl, Zy, Zn, Wn, Zax, Loc.set, String.reduceBEq, cond_true, cond_false]
    simp only [e7, hdb', hdl]
    by_cases hk : (nd : Int) ≤ i
    · rw [decide_eq_true hk]
      refine kt _ ?_
      refine Zs fun K4 k4 => ?_
      dsimp only [Z4, Yk, Zhz, Ziv, Yl, Zy, Zq, Zn, Zdm, Zcj, Y4, Loc.set, String.reduceBEq, cond_true, cond_false]
      simp only [e1, e7, hdb', hdl]
      rw [show (1 + (i : Int) - (nd : Int)) = ((1 + i - nd : Nat) : Int) by exact Zw7 hnd hti hol hk]
      simp only [Za8, Zsk (r := ns) (show 1 + i - nd < ns.length by exact Zw6 hnd hT2 hti hi' hol hk)]
      refine ⟨_, _, rfl, by exact Zuu hti hol, by exact Zw5 hnd hnd40 hT1 hti hi' hol hk, fun q hq0 => k4 _ _ ?_⟩
      refine Zs fun K4 k4 => ?_
      dsimp only [Z4, Zag, W6, Yk, Zhz, Ziv, Yu, Zau, Yl, Zy, Zn, Loc.set, String.reduceBEq, cond_true, cond_false]
      simp only [e2, e4, e6, Λ.eU]
      refine ⟨nofun, Zbe Zpt (fun p => p.2) Zpt obs (fun σ2 s2 => s2 _ _ Λ.eU) (fun p _ σ2 s2 => ⟨_, fun P h => h, fun Qb hQ => ?_, fun _ σ3 s3 Qv hQ => ?_⟩) fun σ2 s2 fb hfb => ?_⟩
      · dsimp only [Zq, Zn, Zdg, Wl, Y4, Loc.set, Loc.bare, String.reduceBEq, cond_true, cond_false]
        exact Wp (xs := [V.ref p.1, V.bool p.2]) (Wj (by decide) rfl) (hQ _ Sub.refl)
      · dsimp only [Zn, Loc.set, Loc.bare, String.reduceBEq, cond_true, cond_false]
        exact hQ _ Sub.refl
      have s3 := s2.new (o := .list ((obs.filter fun p => p.2).map Zpt)) hfb
      simp only [Zd, List.length_map]
      have hfl := List.length_filter_le (fun p : Addr × Bool => p.2) obs
      have hol' := Λ.len
      have hvals : (Zam S).map (·.2) = S.map (Zv8 fun _ => []) := by unfold Zam; rw [List.map_map, List.map_map]; rfl
      have hel : (Zam S).length = S.length := by simp [Zam]
      refine ⟨_, a, b, kk, _, ed, Zam S, S, ep, rfl, s3 _ _ hed, hvals, ha, hb, by exact Zu5 hSl hel, fun n hn => ?_, ⟨by exact Zw0, by exact Zw4 hnd hnd40 hT1 hti hi' hol hk hfl hol'⟩, fun v hv => k4 _ _ ?_⟩
      · rw [Zk7] at hn
        obtain ⟨y, hy, rfl⟩ := List.mem_map.1 hn
        exact hnn y hy
      dsimp only [Zat]
      exact step _ _ v s3 hv e1 e2 e3 e5 e6 e7 rfl
    · rw [decide_eq_false hk]
      refine kf _ ?_
      refine Zs fun K4 k4 => ?_
      dsimp only [Z4, Zn, Y4, Loc.set, String.reduceBEq, cond_true, cond_false]
      simp only [e7]
      obtain ⟨v, hv, hm⟩ := Zdv (xs := dvs) (k := (i : Int)) (by exact Zuu hti hol) (by exact Zw3 hnd hdl hti hol hk)
      refine Zdt hdb' hv (k4 _ _ ?_)
      dsimp only [Zat]
      exact step _ _ v Sub.refl (hdv v hm) e1 e2 e3 e5 e6 e7 rfl
end
section
open PySem PySem.W PyProof.Rows
theorem Z40 {h : Heap} {mg : Str → Option Value} {o : Obj} {es : Array DictEntry} {ep : Nat} {n : Str} {v : Value} (hN : h.Ns mainGlobals mg) (h3 : h.get? mainGlobals = some o) (hd : o.data = .dict es ep) (e : nsFind es n = some v) : mg n = some v := by
  obtain ⟨o', es', ep', ho, hd', hk, hf⟩ := id hN
  rw [h3] at ho; cases ho
  rw [hd] at hd'; cases hd'
  exact (hf _).symm.trans e
theorem Z43 {mg : Str → Option Value} {n : Str} {a b : Addr} (e : mg n = some (.ref a)) (h : mg n = some (.ref b)) : b = a := (Value.ref.inj (Option.some.inj (e.symm.trans h))).symm
theorem Zug {g : Gr} {h : Heap} {l : Addr} {vs : List Value} {ns : List Int} (hL : g.b0.IsList l vs.toArray) (hI : IntsAre vs ns) (hn : ns.length ≤ 1000) : VRs g h [V.frz (ns.map V.int)] [.ref l] := by
  obtain ⟨o, ho, hc, n, hd⟩ := hL
  refine Yg (Zcl.mpr ⟨by simp [Y3]; exact Nat.le_trans hn (by decide), l, o, vs.toArray, n, rfl, ho, hc, hd, ?_⟩) Yx
  clear ho hc hd hn
  show VRs g h _ vs
  induction hI with
  | nil => exact Yx
  | cons n t _ ih => exact Yg (Zx.mpr ⟨t, rfl⟩) ih
theorem Ztx : Zgl callerA 14 true := ⟨by decide, by decide, fun _ => rfl⟩
theorem Zws {g : Gr} {P : Params} {mg mb : Str → Option Value} (hK : (KK P).In g.b0) (hN : g.b0.Ns mainGlobals mg) (hB : g.b0.Ns builtinsNs mb) (hb : ∀ x : Str, x ≠ "__name__" → mb x = bootBuiltins x) : NN g := by
  have h3 := hK mainGlobals _ rfl
  exact ⟨Zbp hN h3 rfl (by kernel_rfl) hB hb (by decide) (by kernel_rfl), Zbp hN h3 rfl (by kernel_rfl) hB hb (by decide) (by kernel_rfl), Zbp hN h3 rfl (by kernel_rfl) hB hb (by decide) (by kernel_rfl), Zbp hN h3 rfl (by kernel_rfl) hB hb (by decide) (by kernel_rfl), Zbp hN h3 rfl (by kernel_rfl) hB hb (by decide) (by kernel_rfl), Zbp hN h3 rfl (by kernel_rfl) hB hb (by decide) (by kernel_rfl), Zbp hN h3 rfl (by kernel_rfl) hB hb (by decide) (by kernel_rfl), Zbp hN h3 rfl (by kernel_rfl) hB hb (by decide) (by kernel_rfl), Zbp hN h3 rfl (by kernel_rfl) hB hb (by decide) (by kernel_rfl), Zbp hN h3 rfl (by kernel_rfl) hB hb (by decide) (by kernel_rfl), Zbp hN h3 rfl (by kernel_rfl) hB hb (by decide) (by kernel_rfl), Zbp hN h3 rfl (by kernel_rfl) hB hb (by decide) (by kernel_rfl), Zbp hN h3 rfl (by kernel_rfl) hB hb (by decide) (by kernel_rfl), Zak hN h3 rfl (by kernel_rfl), Zak hN h3 rfl (by kernel_rfl), Zak hN h3 rfl (by kernel_rfl), Zak hN h3 rfl (by kernel_rfl), Zak hN h3 rfl (by kernel_rfl), Zbp hN h3 rfl (by kernel_rfl) hB hb (by decide) (by kernel_rfl), Zak hN h3 rfl (by kernel_rfl), Zak hN h3 rfl (by kernel_rfl), Zak hN h3 rfl (by kernel_rfl), Zak hN h3 rfl (by kernel_rfl), Zak hN h3 rfl (by kernel_rfl), Zak hN h3 rfl (by kernel_rfl), Zak hN h3 rfl (by kernel_rfl), Zak hN h3 rfl (by kernel_rfl), Zak hN h3 rfl (by kernel_rfl), Zak hN h3 rfl (by kernel_rfl), Zak hN h3 rfl (by kernel_rfl), Zak hN h3 rfl (by kernel_rfl)⟩
variable {g : Gr} {P : Params}
theorem Znj (hK : (KK P).In g.b0) : Znv g CB :=
  ⟨_, _, _, _, _, _, _, _, _, _, _, _, _, _, _, _, _, hK CB _ rfl, .of_isNs (isNs_of_in hK (by kernel_rfl)), nsMap_none_of_in hK (by kernel_rfl) (by kernel_rfl),
    .own (hK 31 _ rfl) (.of_isNs (isNs_of_in hK (by kernel_rfl))) (nsMap_none_of_in hK (by kernel_rfl) (by kernel_rfl)) .base⟩
theorem Zk6 (hK : (KK P).In g.b0) : Znv g CT :=
  ⟨_, _, _, _, _, _, _, _, _, _, _, _, _, _, _, _, _, hK CT _ rfl, .of_isNs (isNs_of_in hK (by kernel_rfl)), nsMap_none_of_in hK (by kernel_rfl) (by kernel_rfl),
    .own (hK 31 _ rfl) (.of_isNs (isNs_of_in hK (by kernel_rfl))) (nsMap_none_of_in hK (by kernel_rfl) (by kernel_rfl)) .base⟩
theorem Zjv (hK : (KK P).In g.b0) : Znv g CX :=
  ⟨_, _, _, _, _, _, _, _, _, _, _, _, _, _, _, _, _, hK CX _ rfl, .of_isNs (isNs_of_in hK (by kernel_rfl)), nsMap_none_of_in hK (by kernel_rfl) (by kernel_rfl),
    .own (hK 31 _ rfl) (.of_isNs (isNs_of_in hK (by kernel_rfl))) (nsMap_none_of_in hK (by kernel_rfl) (by kernel_rfl)) .base⟩
theorem Zni (hK : (KK P).In g.b0) : Znv g CP :=
  ⟨_, _, _, _, _, _, _, _, _, _, _, _, _, _, _, _, _, hK CP _ rfl, .of_isNs (isNs_of_in hK (by kernel_rfl)), nsMap_none_of_in hK (by kernel_rfl) (by kernel_rfl),
    .own (hK 31 _ rfl) (.of_isNs (isNs_of_in hK (by kernel_rfl))) (nsMap_none_of_in hK (by kernel_rfl) (by kernel_rfl)) .base⟩
theorem Zf7 (hK : (KK P).In g.b0) : Znv g CL :=
  ⟨_, _, _, _, _, _, _, _, _, _, _, _, _, _, _, _, _, hK CL _ rfl, .of_isNs (isNs_of_in hK (by kernel_rfl)), nsMap_none_of_in hK (by kernel_rfl) (by kernel_rfl),
    .own (hK 31 _ rfl) (.of_isNs (isNs_of_in hK (by kernel_rfl))) (nsMap_none_of_in hK (by kernel_rfl) (by kernel_rfl)) .base⟩
theorem Zwq (hK : (KK g.w.params).In g.b0) : Zew g 303 := by
  refine ⟨599, 601, ⟨_, _, _, hK 303 _ rfl, ⟨rfl, rfl, rfl⟩, rfl, fun e he => ?_, fun x => ?_⟩, by decide +kernel⟩
  · simp only [List.mem_toArray, List.mem_cons, List.not_mem_nil, or_false] at he
    rcases he with rfl | rfl
    · exact ⟨Xb, rfl, rfl⟩
    · exact ⟨Ze4, rfl, rfl⟩
  · show (Array.find? (fun e : DictEntry => Value.isStrOf x e.key) #[_, _]).map (fun e : DictEntry => e.val) = _
    by_cases h1 : x = Xb
    · subst h1; rfl
    · have e1 : (Xb == x) = false := beq_eq_false_iff_ne.mpr (Ne.symm h1)
      by_cases h2 : x = Ze4
      · subst h2; rfl
      · have e2 : (Ze4 == x) = false := beq_eq_false_iff_ne.mpr (Ne.symm h2)
        dsimp only; rw [if_neg h1, if_neg h2]
        have q1 : Value.isStrOf x (.str (Str.ofString "come") 598) = false := e1
        have q2 : Value.isStrOf x (.str (Str.ofString "go") 600) = false := e2
        simp; exact ⟨q1, q2⟩
theorem Zwt (hK : (KK P).In g.b0) (N : NN g) (hZ : Zew g 303) (Kn : ∀ {n : String} {v : Value} {o : Obj} {es : Array DictEntry} {ep : Nat}, g.b0.get? mainGlobals = some o → o.data = .dict es ep → nsFind es (Str.ofString n) = some v → Yr g n v) : Xz g 14 (.ref 399) Zut := by
  have h3 := hK mainGlobals _ rfl
  have F_nr : FnG g "is_number" 2 Zi8 := Zaq (Kn h3 rfl (by kernel_rfl)) (hK 137 _ rfl) rfl (Z11 hK N).toF
  have F_oth : FnG g "other_side" 2 Zoq := Zaq (Kn h3 rfl (by kernel_rfl)) (hK 144 _ rfl) rfl (Zjt hK N).toF
  have M_end_of : FnM g (KK P) CC "end_of" 2 Zlt := fnM (by kernel_rfl) (by kernel_rfl) (by kernel_rfl) (Zrr hK N)
  have M_met : FnM g (KK P) CC "met" 3 (Zus CC) := fnM (by kernel_rfl) (by kernel_rfl) (by kernel_rfl) (Z12 hK N M_end_of)
  have M_count : FnM g (KK P) CC "count" 4 (Zlu CC) := fnM (by kernel_rfl) (by kernel_rfl) (by kernel_rfl) (Zts hK N M_met)
  have M_open : FnM g (KK P) CC "open_hues" 4 (Zqy CC) := fnM (by kernel_rfl) (by kernel_rfl) (by kernel_rfl) (Zk2 hK N M_met)
  have M_with : FnM g (KK P) CC "with_hue" 4 (Zs8 CC) := fnM (by kernel_rfl) (by kernel_rfl) (by kernel_rfl) (Znf hK N M_met)
  have M_chf : FnM g (KK P) CC "chain_from" 5 (Zow CC) := fnM (by kernel_rfl) (by kernel_rfl) (by kernel_rfl) (Zju hK N (F_oth.le (by decide)) M_with (M_end_of.le (by decide)))
  have M_turn : FnM g (KK P) CC "turn" 2 (Zta CC) := fnM (by kernel_rfl) (by kernel_rfl) (by kernel_rfl) (Zvw hK N)
  have M_ways : FnM g (KK P) CC "ways" 6 (Zs9 CC) := fnM (by kernel_rfl) (by kernel_rfl) (by kernel_rfl) (Zvv hK N (M_open.le (by decide)) M_chf)
  have M_hued : FnM g (KK P) CC "hued" 7 (Zqz CC) := fnM (by kernel_rfl) (by kernel_rfl) (by kernel_rfl) (Zvz hK N (M_open.le (by decide)) M_ways (M_turn.le (by decide)))
  have M_nend : FnM g (KK P) CC "need_end" 3 (Zfr CC CB) := fnM (by kernel_rfl) (by kernel_rfl) (by kernel_rfl) (Znh hK N (Znj hK) F_nr)
  have M_come : FnM g (KK P) CC "come" 8 (Zlv CC CB CT) := fnM (by kernel_rfl) (by kernel_rfl) (by kernel_rfl) (Zv3 hK N (Zk6 hK) (M_nend.le (by decide)) (M_count.le (by decide)) M_hued)
  have M_npair : FnM g (KK P) CC "need_pair" 3 (Zeo CC CP) := fnM (by kernel_rfl) (by kernel_rfl) (by kernel_rfl) (Zk4 hK N (Zni hK) F_nr)
  have M_pairs : FnM g (KK P) CC "pairs" 2 (Zop CC) := fnM (by kernel_rfl) (by kernel_rfl) (by kernel_rfl) (Ztp hK N)
  have M_go : FnM g (KK P) CC "go" 8 (Zq0 CC CP) := fnM (by kernel_rfl) (by kernel_rfl) (by kernel_rfl) (Z44 hK N (M_npair.le (by decide)) (M_count.le (by decide)) M_hued)
  have F_Hall : Zdb g 4 (.ref CC) (Zt6 CC (Zls CC CX)) := Zqt hK (by kernel_rfl) (by kernel_rfl) (by kernel_rfl) (Zvy hK N (Zjv hK) F_nr)
  have F_cell : FnG g "_law_cell_at" 2 Zkl := Zaq (Kn h3 rfl (by kernel_rfl)) (hK 342 _ rfl) rfl (Zpm hK N).toF
  have F_mix : FnG g "_law_mixed" 2 Zor := Zaq (Kn h3 rfl (by kernel_rfl)) (hK 349 _ rfl) rfl (Ztq hK N).toF
  have F_by : FnG g "_law_sizes_by" 2 Zh7 := Zaq (Kn h3 rfl (by kernel_rfl)) (hK 363 _ rfl) rfl (Zng hK N).toF
  have F_num : FnG g "number_of" 2 (Zfq CL) := Zaq (Kn h3 rfl (by kernel_rfl)) (hK 308 _ rfl) rfl (Zk3 hK N (Zf7 hK)).toF
  have F_deedof : FnG g "deed_of" 3 (Zkk CL) := Zaq (Kn h3 rfl (by kernel_rfl)) (hK 313 _ rfl) rfl (Zpl hK N (Zf7 hK) hZ F_num).toF
  have F_told : FnG g "told_text" 2 Zby := Zaq (Kn h3 rfl (by kernel_rfl)) (hK 318 _ rfl) rfl (Zk1 hK N).toF
  have F_done : FnG g "done" 10 (Zou CC CB CT CP CL) := Zaq (Kn h3 rfl (by kernel_rfl)) (hK 323 _ rfl) rfl (Zv1 hK N (F_deedof.le (by decide)) (F_told.le (by decide)) (M_come.le (by decide)) (M_go.le (by decide))).toF
  have F_ans : FnG g "answer" 11 (Zh8 CC) := Zaq (Kn h3 rfl (by kernel_rfl)) (hK 330 _ rfl) rfl (Zrs hK N F_done).toF
  have F_play : FnG g "play" 12 Ztb := Zaq (Kn h3 rfl (by kernel_rfl)) (hK 335 _ rfl) rfl (Zvx hK N (F_Hall.le (by decide)) F_ans).toF
  have F_ends : FnG g "_law_ends" 3 Zos := Zaq (Kn h3 rfl (by kernel_rfl)) (hK 368 _ rfl) rfl (Zv0 hK N).toF
  have F_deed : FnG g "_law_deed" 4 Zov := Zaq (Kn h3 rfl (by kernel_rfl)) (hK 375 _ rfl) rfl (Zv2 hK N F_ends).toF
  have F_text : FnG g "_law_text" 2 Zby := Zaq (Kn h3 rfl (by kernel_rfl)) (hK 382 _ rfl) rfl (Zto hK N).toF
  have F_ansL : FnG g "_law_answer" 11 (Zh9 CC) := Zaq (Kn h3 rfl (by kernel_rfl)) (hK 387 _ rfl) rfl (Zpn hK N (F_text.le (by decide)) (M_come.le (by decide)) (M_go.le (by decide))).toF
  have F_drawn : FnG g "_law_drawn" 5 Zot := Zaq (Kn h3 rfl (by kernel_rfl)) (hK 394 _ rfl) rfl (Ztr hK N F_deed).toF
  exact Z13 hK N (F_Hall.le (by decide)) (F_cell.le (by decide)) (F_mix.le (by decide)) (F_by.le (by decide)) (F_drawn.le (by decide)) (F_ansL.le (by decide)) (F_play.le (by decide)) (M_pairs.le (by decide))
end
end Mine
open PySem PySem.W PyProof.Rows Mine
theorem PySem.Challenge.cw_uf040033_11_holds : PySem.Challenge.rw_uf040033_11.Holds := by
  refine holds_law Mine.said fun said => ?_
  refine PySem.W.holds_open (q := Mine.qq) (loose := Mine.LL) (Xt := fun s => xlAt Mine.qq [] s && recOk [] s) (XP := XL Mine.qq []) (Yf := Hook.obs Mine.HKK) (Ya := Hook.val Mine.HKK) (YP := Hook.says Mine.HKK) Mine.left (Hook.of Mine.HKK) (Hook.keeps Mine.HKK) (fun s e => xl_of s (Bool.and_eq_true_iff.mp e).1) XL.keeps (by rfl) (by rfl) (by rfl) (fun s e => recFacts_of (Bool.and_eq_true_iff.mp e).2) (by rfl) said (by decide +kernel) ⟨rfl, rfl, rfl, rfl, rfl, by decide +kernel⟩ ?hw ?hc
  case hw => w_witness2
  intro w s₀ s₁ mg mb G Y fa o pm cd doc dV kV ho hd hcd hD hmg hg args vals as hpre hlay hrd hwl hlo
  have KX := kIn_of Y
  refine Ground.open G ?_
  intro T B D TE TW
  try (refine guard_noD D (by decide +kernel) ?_; clear D)
  wrow_args hpre hlay hrd hwl hlo
  first | refine callC_kw (enter_call ?_) | refine enter_call ?_ | refine callC_kw (enter_callW ?_) | refine enter_callW ?_
  w_top on
  try refine codeAny_mono ?_ (fun _ _ g => GoodW.toG g)
  rename_i ns hs hlay0 hL1 hr1 hl2 as1 as2 l vs as3 hL ra w1 r0 hI hr hc1 hc2
  have hlen : ns.length ≤ 63 := by exact Z4i hc1
  let g : Gr := ⟨PySem.Challenge.rw_uf040033_11.row.prog, w, s₁.heap, fun _ => False⟩
  have hK : (KK w.params).In g.b0 := KX
  have h3 := hK mainGlobals _ rfl
  obtain rfl : fa = 399 := Z43 (Z40 (n := Str.ofString "law") (v := .ref 399) T.g h3 rfl (by kernel_rfl)) hmg
  have N : NN g := Zws hK T.g T.b T.builtins
  have L := Zwt hK N (Zwq (g := g) hK) fun h hd e => Zak T.g h hd e
  have Gk : GOk g := ⟨T.nolimit, T.seer (by decide +kernel), rfl⟩
  have R0 : Rel g s₁.heap (fun _ => none) := ⟨fun _ h => h.elim, fun _ _ h => h, fun _ _ h => nomatch h⟩
  refine codeAny_mono (L.run callerA s₁ (fun _ => none) [.frz (ns.map V.int)] [.ref l] (fun v _ => v = .bool true) (fun _ _ => False) Gk ⟨[], rfl, trivial, fun _ h => nomatch h⟩ Ztx R0 (Zug hL hI (by exact Z4h hc1)) ⟨ns, rfl, hlen, fun _ => rfl⟩) fun r s' p => ?_
  match r, p with
  | .ok (.ret v), p =>
    obtain ⟨x, σ', hv, hR, hx, hsm, rfl⟩ := p
    rw [Y9.mp hv]
    exact ⟨.inl ⟨.bool true, .bool true, [], rfl, fun _ => rfl, .bool true, (by wrow_post), fun _ => ⟨List.nodup_nil, fun _ h => nomatch h⟩⟩, hR.base, hsm.2.1, hsm.1.trans hg⟩
  | .error e, p => obtain ⟨_, _, _, _, _, _, h⟩ := p; exact h.elim
