import PyProof.Rows.All
import Wide.All
import OpenK.AllK
import Wide.FinOn
import Lean
import PySem.Challenge.RW_og0246_01
open PySem PySem.W PySem.Spec PySem.Calls PyProof.Rows
set_option Elab.async false
set_option linter.all false
set_option compiler.extract_closed false
set_option maxRecDepth 100000
set_option maxHeartbeats 8000000
namespace Mine
noncomputable abbrev RO := PySem.Challenge.rw_og0246_01.row
noncomputable def viewO : Program := { RO.prog with main := { RO.prog.main with body := (RO.prog.main.body.drop 1).take 15 ++ ((RO.prog.main.body.drop 17).take 6 ++ ((RO.prog.main.body.drop 24).take 1 ++ RO.prog.main.body.drop 26)) } }
noncomputable def keO (P : Params) (n : Str) (t : Nat) (v : Value) : DictEntry := { hash := PyData.keyHash P n, key := .str n t, val := v }
noncomputable def fnS (s : Option Stmt) (q : Str) (dV : Value) (m : Str) (t : Nat) (c : Addr) : Obj := match s with
  | some (.FunctionDef n as body _ _ _ sc _ _ _) => { cls := .type "function", data := .func (fnOf n (if q == "" then n else q) as body sc dV .none .none (.str m t) none (.ref c) .none) }
  | _ => { cls := .none, data := .plain }
noncomputable def fnO (i : Nat) (dV : Value) (m : Str) (t : Nat) (c : Addr) : Obj := fnS RO.prog.main.body[i]? "" dV m t c
noncomputable def initO : Obj := match (RO.prog.main.body[2]? : Option Stmt) with
  | some (Stmt.ClassDef _ _ _ b _ _ _ _ _ _ _) => fnS b[0]? "Cell.__init__" .none "termcore.layouts" 187 27
  | _ => { cls := .none, data := .plain }
noncomputable abbrev cutF : Str := "/claim/cut.py"
noncomputable def heapO : Params → Frag := fun P =>
  (nat_lit 3, { cls := .type "dict", data := .dict #[keO P "__name__" 165 (.str "law_og0246_01" 441), keO P "__doc__" 166 (.none), keO P "__package__" 167 (.none), keO P "__loader__" 168 (.builtin "__main__.__loader__#opaque"), keO P "__spec__" 169 (.none), keO P "__annotations__" 170 (.ref 6), keO P "__builtins__" 171 (.ref 4), keO P "__file__" 173 (.str cutF 172), keO P "__cached__" 174 (.none), keO P "LEAST_SIDE" 190 (.int 1 189), keO P "Cell" 231 (.ref 31), keO P "layout_leaf" 240 (.ref 42), keO P "layout_copy" 246 (.ref 47), keO P "layout_leaves" 255 (.ref 54), keO P "layout_panes" 261 (.ref 59), keO P "layout_path" 271 (.ref 66), keO P "layout_kind" 278 (.ref 73), keO P "layout_side" 286 (.ref 80), keO P "layout_set_side" 295 (.ref 87), keO P "layout_index" 305 (.ref 94), keO P "layout_room" 311 (.ref 99), keO P "layout_change" 321 (.ref 106), keO P "layout_placed" 331 (.ref 113), keO P "layout_exchanged" 340 (.ref 120), keO P "split_layout" 362 (.ref 128), keO P "layout_melted" 372 (.ref 135), keO P "close_pane" 386 (.ref 142), keO P "is_tiling" 393 (.ref 149), keO P "layout_is_right" 399 (.ref 154), keO P "layout_renumbered" 410 (.ref 161), keO P "swap_panes" 416 (.ref 166), keO P "rotate_panes" 425 (.ref 174), keO P "neighbours" 440 (.ref 181), keO P "_law_deck" 448 (.ref 186), keO P "_law_draw" 458 (.ref 193), keO P "_law_pick" 466 (.ref 200), keO P "_law_areas" 472 (.ref 205), keO P "_law_beside" 478 (.ref 210), keO P "_law_tree" 484 (.ref 215), keO P "_law_longer" 495 (.ref 222), keO P "_law_closed" 501 (.ref 227), keO P "_law_placed" 512 (.ref 234), keO P "_law_numbered" 518 (.ref 239), keO P "_law_exchanged_right" 524 (.ref 244), keO P "_law_closed_right" 534 (.ref 251), keO P "law" 551 (.ref 258)] 46 }) ::
  (nat_lit 27, { cls := .type "code", data := .fields #[.str "__init__" 203, .str "Cell.__init__" 204, .str cutF 205, .int 5 0, .int 8 0, .int 0 0, .int 0 0, .int 3 0, .ref 22, .bool true, .int 181 0, .ref 23, .none, .ref 24, .ref 25, .ref 26, .int 214 0, .int 5 0, .str cutF 215] }) ::
  (nat_lit 28, initO) ::
  (nat_lit 30, { cls := .type "dict", data := .dict #[keO P "__module__" 198 (.str "termcore.layouts" 187), keO P "__firstlineno__" 202 (.int 3 201), keO P "__init__" 216 (.ref 28), keO P "__static_attributes__" 224 (.ref 29), keO P "__dict__" 226 (.ref 32), keO P "__weakref__" 228 (.ref 33), keO P "__doc__" 229 (.none)] 4 }) ::
  (nat_lit 31, { cls := .type "type", data := .cls { name := "Cell", bases := [.type "object"], mro := [.ref 31, .type "object"], ns := 30, qualname := "Cell" }, slots := #[none, none, some (.str "Cell" 191), some (.str "Cell" 199), some (.builtin "object.__new__"), some (.bool true)] }) ::
  (nat_lit 32, { cls := .type "getset_descriptor", data := .fields #[.str "__dict__" 225, .ref 31, .builtin "function.__dict__", .builtin "function.__dict__#set"] }) ::
  (nat_lit 33, { cls := .type "getset_descriptor", data := .fields #[.str "__weakref__" 227, .ref 31, .builtin "ExceptionGroup.__weakref__", .none] }) ::
  (nat_lit 41, { cls := .type "code", data := .fields #[.str "layout_leaf" 232, .str "layout_leaf" 233, .str cutF 234, .int 13 0, .int 3 0, .int 0 0, .int 0 0, .int 3 0, .ref 36, .bool true, .int 181 0, .ref 37, .none, .ref 38, .ref 39, .ref 40, .int 238 0, .int 13 0, .str cutF 239] }) ::
  (nat_lit 42, fnO 3 (.none) "termcore.layouts" 187 41) ::
  (nat_lit 46, { cls := .type "code", data := .fields #[.str "layout_copy" 241, .str "layout_copy" 242, .str cutF 243, .int 15 0, .int 1 0, .int 0 0, .int 0 0, .int 3 0, .ref 43, .bool true, .int 181 0, .ref 44, .none, .none, .none, .ref 45, .int 244 0, .int 15 0, .str cutF 245] }) ::
  (nat_lit 47, fnO 4 (.none) "termcore.layouts" 187 46) ::
  (nat_lit 53, { cls := .type "code", data := .fields #[.str "layout_leaves" 247, .str "layout_leaves" 248, .str cutF 249, .int 18 0, .int 1 0, .int 0 0, .int 0 0, .int 3 0, .ref 48, .bool true, .int 181 0, .ref 49, .none, .ref 50, .ref 51, .ref 52, .int 253 0, .int 18 0, .str cutF 254] }) ::
  (nat_lit 54, fnO 5 (.none) "termcore.layouts" 187 53) ::
  (nat_lit 58, { cls := .type "code", data := .fields #[.str "layout_panes" 256, .str "layout_panes" 257, .str cutF 258, .int 25 0, .int 1 0, .int 0 0, .int 0 0, .int 3 0, .ref 55, .bool true, .int 181 0, .ref 56, .none, .none, .none, .ref 57, .int 259 0, .int 25 0, .str cutF 260] }) ::
  (nat_lit 59, fnO 6 (.none) "termcore.layouts" 187 58) ::
  (nat_lit 65, { cls := .type "code", data := .fields #[.str "layout_path" 262, .str "layout_path" 263, .str cutF 264, .int 27 0, .int 2 0, .int 0 0, .int 0 0, .int 3 0, .ref 60, .bool true, .int 181 0, .ref 61, .none, .ref 62, .ref 63, .ref 64, .int 269 0, .int 27 0, .str cutF 270] }) ::
  (nat_lit 66, fnO 7 (.none) "termcore.layouts" 187 65) ::
  (nat_lit 72, { cls := .type "code", data := .fields #[.str "layout_kind" 272, .str "layout_kind" 273, .str cutF 274, .int 35 0, .int 1 0, .int 0 0, .int 0 0, .int 3 0, .ref 67, .bool true, .int 181 0, .ref 68, .none, .ref 69, .ref 70, .ref 71, .int 276 0, .int 35 0, .str cutF 277] }) ::
  (nat_lit 73, fnO 8 (.none) "termcore.layouts" 187 72) ::
  (nat_lit 79, { cls := .type "code", data := .fields #[.str "layout_side" 279, .str "layout_side" 280, .str cutF 281, .int 37 0, .int 2 0, .int 0 0, .int 0 0, .int 3 0, .ref 74, .bool true, .int 181 0, .ref 75, .none, .ref 76, .ref 77, .ref 78, .int 284 0, .int 37 0, .str cutF 285] }) ::
  (nat_lit 80, fnO 9 (.none) "termcore.layouts" 187 79) ::
  (nat_lit 86, { cls := .type "code", data := .fields #[.str "layout_set_side" 287, .str "layout_set_side" 288, .str cutF 289, .int 39 0, .int 3 0, .int 0 0, .int 0 0, .int 3 0, .ref 81, .bool true, .int 181 0, .ref 82, .none, .ref 83, .ref 84, .ref 85, .int 293 0, .int 39 0, .str cutF 294] }) ::
  (nat_lit 87, fnO 10 (.none) "termcore.layouts" 187 86) ::
  (nat_lit 93, { cls := .type "code", data := .fields #[.str "layout_index" 296, .str "layout_index" 297, .str cutF 298, .int 44 0, .int 2 0, .int 0 0, .int 0 0, .int 3 0, .ref 88, .bool true, .int 181 0, .ref 89, .none, .ref 90, .ref 91, .ref 92, .int 303 0, .int 44 0, .str cutF 304] }) ::
  (nat_lit 94, fnO 11 (.none) "termcore.layouts" 187 93) ::
  (nat_lit 98, { cls := .type "code", data := .fields #[.str "layout_room" 306, .str "layout_room" 307, .str cutF 308, .int 49 0, .int 2 0, .int 0 0, .int 0 0, .int 3 0, .ref 95, .bool true, .int 181 0, .ref 96, .none, .none, .none, .ref 97, .int 309 0, .int 49 0, .str cutF 310] }) ::
  (nat_lit 99, fnO 12 (.none) "termcore.layouts" 187 98) ::
  (nat_lit 105, { cls := .type "code", data := .fields #[.str "layout_change" 312, .str "layout_change" 313, .str cutF 314, .int 54 0, .int 3 0, .int 0 0, .int 0 0, .int 3 0, .ref 100, .bool true, .int 181 0, .ref 101, .none, .ref 102, .ref 103, .ref 104, .int 319 0, .int 54 0, .str cutF 320] }) ::
  (nat_lit 106, fnO 13 (.none) "termcore.layouts" 187 105) ::
  (nat_lit 112, { cls := .type "code", data := .fields #[.str "layout_placed" 322, .str "layout_placed" 323, .str cutF 324, .int 68 0, .int 3 0, .int 0 0, .int 0 0, .int 3 0, .ref 107, .bool true, .int 181 0, .ref 108, .none, .ref 109, .ref 110, .ref 111, .int 329 0, .int 68 0, .str cutF 330] }) ::
  (nat_lit 113, fnO 14 (.none) "termcore.layouts" 187 112) ::
  (nat_lit 119, { cls := .type "code", data := .fields #[.str "layout_exchanged" 332, .str "layout_exchanged" 333, .str cutF 334, .int 77 0, .int 2 0, .int 0 0, .int 0 0, .int 3 0, .ref 114, .bool true, .int 181 0, .ref 115, .none, .ref 116, .ref 117, .ref 118, .int 338 0, .int 77 0, .str cutF 339] }) ::
  (nat_lit 120, fnO 15 (.none) "termcore.layouts" 187 119) ::
  (nat_lit 121, { cls := .type "tuple", data := .seq #[.none, .bool false] }) ::
  (nat_lit 127, { cls := .type "code", data := .fields #[.str "split_layout" 341, .str "split_layout" 342, .str cutF 343, .int 83 0, .int 6 0, .int 0 0, .int 0 0, .int 3 0, .ref 122, .bool true, .int 181 0, .ref 123, .none, .ref 124, .ref 125, .ref 126, .int 360 0, .int 83 0, .str cutF 361] }) ::
  (nat_lit 128, fnO 16 (.ref 121) "termcore.layouts" 187 127) ::
  (nat_lit 134, { cls := .type "code", data := .fields #[.str "layout_melted" 363, .str "layout_melted" 364, .str cutF 365, .int 104 0, .int 2 0, .int 0 0, .int 0 0, .int 3 0, .ref 129, .bool true, .int 181 0, .ref 130, .none, .ref 131, .ref 132, .ref 133, .int 370 0, .int 104 0, .str cutF 371] }) ::
  (nat_lit 135, fnO 17 (.none) "termcore.layouts" 187 134) ::
  (nat_lit 141, { cls := .type "code", data := .fields #[.str "close_pane" 373, .str "close_pane" 374, .str cutF 375, .int 109 0, .int 2 0, .int 0 0, .int 0 0, .int 3 0, .ref 136, .bool true, .int 181 0, .ref 137, .none, .ref 138, .ref 139, .ref 140, .int 384 0, .int 109 0, .str cutF 385] }) ::
  (nat_lit 142, fnO 18 (.none) "termcore.layouts" 187 141) ::
  (nat_lit 148, { cls := .type "code", data := .fields #[.str "is_tiling" 387, .str "is_tiling" 388, .str cutF 389, .int 124 0, .int 1 0, .int 0 0, .int 0 0, .int 3 0, .ref 143, .bool true, .int 181 0, .ref 144, .none, .ref 145, .ref 146, .ref 147, .int 391 0, .int 124 0, .str cutF 392] }) ::
  (nat_lit 149, fnO 19 (.none) "termcore.layouts" 187 148) ::
  (nat_lit 153, { cls := .type "code", data := .fields #[.str "layout_is_right" 394, .str "layout_is_right" 395, .str cutF 396, .int 126 0, .int 3 0, .int 0 0, .int 0 0, .int 3 0, .ref 150, .bool true, .int 181 0, .ref 151, .none, .none, .none, .ref 152, .int 397 0, .int 126 0, .str cutF 398] }) ::
  (nat_lit 154, fnO 20 (.none) "termcore.layouts" 187 153) ::
  (nat_lit 160, { cls := .type "code", data := .fields #[.str "layout_renumbered" 400, .str "layout_renumbered" 401, .str cutF 402, .int 140 0, .int 2 0, .int 0 0, .int 0 0, .int 3 0, .ref 155, .bool true, .int 181 0, .ref 156, .none, .ref 157, .ref 158, .ref 159, .int 408 0, .int 140 0, .str cutF 409] }) ::
  (nat_lit 161, fnO 21 (.none) "termcore.layouts" 187 160) ::
  (nat_lit 165, { cls := .type "code", data := .fields #[.str "swap_panes" 411, .str "swap_panes" 412, .str cutF 413, .int 145 0, .int 3 0, .int 0 0, .int 0 0, .int 3 0, .ref 162, .bool true, .int 181 0, .ref 163, .none, .none, .none, .ref 164, .int 414 0, .int 145 0, .str cutF 415] }) ::
  (nat_lit 166, fnO 22 (.none) "termcore.layouts" 187 165) ::
  (nat_lit 167, { cls := .type "tuple", data := .seq #[.bool false] }) ::
  (nat_lit 173, { cls := .type "code", data := .fields #[.str "rotate_panes" 417, .str "rotate_panes" 418, .str cutF 419, .int 151 0, .int 2 0, .int 0 0, .int 0 0, .int 3 0, .ref 168, .bool true, .int 181 0, .ref 169, .none, .ref 170, .ref 171, .ref 172, .int 423 0, .int 151 0, .str cutF 424] }) ::
  (nat_lit 174, fnO 23 (.ref 167) "termcore.layouts" 187 173) ::
  (nat_lit 180, { cls := .type "code", data := .fields #[.str "neighbours" 426, .str "neighbours" 427, .str cutF 428, .int 154 0, .int 3 0, .int 0 0, .int 0 0, .int 3 0, .ref 175, .bool true, .int 181 0, .ref 176, .none, .ref 177, .ref 178, .ref 179, .int 438 0, .int 154 0, .str cutF 439] }) ::
  (nat_lit 181, fnO 24 (.none) "termcore.layouts" 187 180) ::
  (nat_lit 185, { cls := .type "code", data := .fields #[.str "_law_deck" 443, .str "_law_deck" 444, .str cutF 445, .int 169 0, .int 1 0, .int 0 0, .int 0 0, .int 3 0, .ref 182, .bool true, .int 181 0, .ref 183, .none, .none, .none, .ref 184, .int 446 0, .int 169 0, .str cutF 447] }) ::
  (nat_lit 186, fnO 26 (.none) "law_og0246_01" 441 185) ::
  (nat_lit 192, { cls := .type "code", data := .fields #[.str "_law_draw" 449, .str "_law_draw" 450, .str cutF 451, .int 174 0, .int 2 0, .int 0 0, .int 0 0, .int 3 0, .ref 187, .bool true, .int 181 0, .ref 188, .none, .ref 189, .ref 190, .ref 191, .int 456 0, .int 174 0, .str cutF 457] }) ::
  (nat_lit 193, fnO 27 (.none) "law_og0246_01" 441 192) ::
  (nat_lit 199, { cls := .type "code", data := .fields #[.str "_law_pick" 459, .str "_law_pick" 460, .str cutF 461, .int 186 0, .int 2 0, .int 0 0, .int 0 0, .int 3 0, .ref 194, .bool true, .int 181 0, .ref 195, .none, .ref 196, .ref 197, .ref 198, .int 464 0, .int 186 0, .str cutF 465] }) ::
  (nat_lit 200, fnO 28 (.none) "law_og0246_01" 441 199) ::
  (nat_lit 204, { cls := .type "code", data := .fields #[.str "_law_areas" 467, .str "_law_areas" 468, .str cutF 469, .int 188 0, .int 1 0, .int 0 0, .int 0 0, .int 3 0, .ref 201, .bool true, .int 181 0, .ref 202, .none, .none, .none, .ref 203, .int 470 0, .int 188 0, .str cutF 471] }) ::
  (nat_lit 205, fnO 29 (.none) "law_og0246_01" 441 204) ::
  (nat_lit 209, { cls := .type "code", data := .fields #[.str "_law_beside" 473, .str "_law_beside" 474, .str cutF 475, .int 190 0, .int 3 0, .int 0 0, .int 0 0, .int 3 0, .ref 206, .bool true, .int 181 0, .ref 207, .none, .none, .none, .ref 208, .int 476 0, .int 190 0, .str cutF 477] }) ::
  (nat_lit 210, fnO 30 (.none) "law_og0246_01" 441 209) ::
  (nat_lit 214, { cls := .type "code", data := .fields #[.str "_law_tree" 479, .str "_law_tree" 480, .str cutF 481, .int 202 0, .int 1 0, .int 0 0, .int 0 0, .int 3 0, .ref 211, .bool true, .int 181 0, .ref 212, .none, .none, .none, .ref 213, .int 482 0, .int 202 0, .str cutF 483] }) ::
  (nat_lit 215, fnO 31 (.none) "law_og0246_01" 441 214) ::
  (nat_lit 221, { cls := .type "code", data := .fields #[.str "_law_longer" 485, .str "_law_longer" 486, .str cutF 487, .int 204 0, .int 3 0, .int 0 0, .int 0 0, .int 3 0, .ref 216, .bool true, .int 181 0, .ref 217, .none, .ref 218, .ref 219, .ref 220, .int 493 0, .int 204 0, .str cutF 494] }) ::
  (nat_lit 222, fnO 32 (.none) "law_og0246_01" 441 221) ::
  (nat_lit 226, { cls := .type "code", data := .fields #[.str "_law_closed" 496, .str "_law_closed" 497, .str cutF 498, .int 212 0, .int 2 0, .int 0 0, .int 0 0, .int 3 0, .ref 223, .bool true, .int 181 0, .ref 224, .none, .none, .none, .ref 225, .int 499 0, .int 212 0, .str cutF 500] }) ::
  (nat_lit 227, fnO 33 (.none) "law_og0246_01" 441 226) ::
  (nat_lit 233, { cls := .type "code", data := .fields #[.str "_law_placed" 502, .str "_law_placed" 503, .str cutF 504, .int 225 0, .int 3 0, .int 0 0, .int 0 0, .int 3 0, .ref 228, .bool true, .int 181 0, .ref 229, .none, .ref 230, .ref 231, .ref 232, .int 510 0, .int 225 0, .str cutF 511] }) ::
  (nat_lit 234, fnO 34 (.none) "law_og0246_01" 441 233) ::
  (nat_lit 238, { cls := .type "code", data := .fields #[.str "_law_numbered" 513, .str "_law_numbered" 514, .str cutF 515, .int 236 0, .int 2 0, .int 0 0, .int 0 0, .int 3 0, .ref 235, .bool true, .int 181 0, .ref 236, .none, .none, .none, .ref 237, .int 516 0, .int 236 0, .str cutF 517] }) ::
  (nat_lit 239, fnO 35 (.none) "law_og0246_01" 441 238) ::
  (nat_lit 243, { cls := .type "code", data := .fields #[.str "_law_exchanged_right" 519, .str "_law_exchanged_right" 520, .str cutF 521, .int 238 0, .int 3 0, .int 0 0, .int 0 0, .int 3 0, .ref 240, .bool true, .int 181 0, .ref 241, .none, .none, .none, .ref 242, .int 522 0, .int 238 0, .str cutF 523] }) ::
  (nat_lit 244, fnO 36 (.none) "law_og0246_01" 441 243) ::
  (nat_lit 250, { cls := .type "code", data := .fields #[.str "_law_closed_right" 525, .str "_law_closed_right" 526, .str cutF 527, .int 247 0, .int 3 0, .int 0 0, .int 0 0, .int 3 0, .ref 245, .bool true, .int 181 0, .ref 246, .none, .ref 247, .ref 248, .ref 249, .int 532 0, .int 247 0, .str cutF 533] }) ::
  (nat_lit 251, fnO 37 (.none) "law_og0246_01" 441 250) ::
  (nat_lit 257, { cls := .type "code", data := .fields #[.str "law" 535, .str "law" 536, .str cutF 537, .int 252 0, .int 1 0, .int 0 0, .int 0 0, .int 3 0, .ref 252, .bool true, .int 181 0, .ref 253, .none, .ref 254, .ref 255, .ref 256, .int 549 0, .int 252 0, .str cutF 550] }) ::
  (nat_lit 258, fnO 38 (.none) "law_og0246_01" 441 257) :: []
noncomputable def kasO : List Addr := [3, 27, 28, 30, 31, 32, 33, 41, 42, 46, 47, 53, 54, 58, 59, 65, 66, 72, 73, 79, 80, 86, 87, 93, 94, 98, 99, 105, 106, 112, 113, 119, 120, 121, 127, 128, 134, 135, 141, 142, 148, 149, 153, 154, 160, 161, 165, 166, 167, 173, 174, 180, 181, 185, 186, 192, 193, 199, 200, 204, 205, 209, 210, 214, 215, 221, 222, 226, 227, 233, 234, 238, 239, 243, 244, 250, 251, 257, 258]
theorem kasO_ok : ∀ P, kasO = (heapO P).map (·.1) := fun P => by kernel_rfl
noncomputable abbrev KH : Hook := kHook heapO kasO kasO_ok
theorem topLeft : LeftO RO.prog viewO [Str.ofString "split_layout", Str.ofString "rotate_panes"] (fun s => xlAt viewO [] s && recOk RO.records s) (Hook.obs KH) (Hook.val KH) 2780 := by
  intro w
  kernel_rfl
theorem topSaid : PySem.Challenge.rw_og0246_01.wellSaid = true := by kernel_rfl
theorem hdO {d : DefRec} {kwd : List (Str × PySem.Expr)} (e : defOf viewO RO.name = some (d, kwd)) (hp : RO.prog.theDef RO.name = some (d.params, d.body, d.scope)) (hk : kwWritten? d.params.kwonlyargs d.params.kw_defaults = some kwd)
    (walk : WalkO viewO [Str.ofString "split_layout", Str.ofString "rotate_panes"] (XL viewO []) KH.says RO.toRowW d kwd fun f vs => PySem.call f vs) : PySem.Challenge.rw_og0246_01.Holds := by
  refine holds_law topSaid fun said2 => ?_
  refine holds_open (q := viewO) (loose := [Str.ofString "split_layout", Str.ofString "rotate_panes"]) (Xt := fun s => xlAt viewO [] s && recOk RO.records s) (XP := XL viewO []) (Yf := Hook.obs KH) (Ya := Hook.val KH) (YP := Hook.says KH) (N := 2780) topLeft (Hook.of KH) (Hook.keeps KH) (fun s e => xl_of s (Bool.and_eq_true_iff.mp e).1) XL.keeps e hp hk (fun s e => recFacts_of (Bool.and_eq_true_iff.mp e).2) (by rfl) said2 (by decide +kernel) ⟨rfl, rfl, rfl, rfl, rfl, by decide +kernel⟩ ?_ walk
  w_witness2
noncomputable def Halt (p : Prop) : Prop := p
theorem halt {p : Prop} (h : Halt p) : p := h
noncomputable abbrev PR : Program := PySem.Challenge.rw_og0246_01.row.prog

noncomputable abbrev TopM (mean : ExcName → Option Value) (mg mb : Str → Option Value) (h : Heap) : Prop := Top viewO (looseW viewO [Str.ofString "split_layout", Str.ofString "rotate_panes"]) mean mg mb h
noncomputable abbrev Led := List (Addr × Obj)
noncomputable abbrev topA (dp un : Nat) (gd : Option (List Code)) (env : Env) (outer : List Env) : Around := { handled := none, depth := dp, frames := some (env :: outer), guards := gd, units := un }
noncomputable abbrev Cx : Type := Nat × Nat × Option (List Code) × Env × List Env
noncomputable abbrev Cx.dp (c : Cx) : Nat := c.1
noncomputable abbrev Cx.un (c : Cx) : Nat := c.2.1
noncomputable abbrev Cx.gd (c : Cx) : Option (List Code) := c.2.2.1
noncomputable abbrev Cx.env (c : Cx) : Env := c.2.2.2.1
noncomputable abbrev Cx.outer (c : Cx) : List Env := c.2.2.2.2
noncomputable abbrev topC (c : Cx) : Around := topA (Cx.dp c) (Cx.un c) (Cx.gd c) (Cx.env c) (Cx.outer c)
noncomputable abbrev setS (s : Shared) (h : Heap) (tk : Nat) : Shared := { s with heap := h, toks := tk }
noncomputable def up (x : Str) (v : Option Value) (m : Str → Option Value) : Str → Option Value := fun y => if y = x then v else m y
noncomputable def Tell (w : World) (f : Addr) (vs : List Value) (need : Nat) (news : Led) (Post : (Value → Led → Prop) → Prop) : Prop :=
  ∀ (c : Cx) (A₀ : Around) (base h₀ : Heap) (L : Addr) (m : Str → Option Value) (mean : ExcName → Option Value) (mg mb : Str → Option Value) (s : Shared)
    (Q E : Value → Shared → Prop),
    Below A₀ base (Cx.outer c) h₀ → (Cx.env c).frame = some L → (Cx.env c).scope.kind = .function → Fr h₀ L s.heap m → (heapO w.params).In h₀ → News h₀ L s.heap news → TopM mean mg mb h₀ →
    Cx.dp c + need < recursionLimit → Cx.un c + 8 * need < cLine →
    Post (fun r news' => ∀ h' tk', Fr h₀ L h' m → News h₀ L h' news' → Q r (setS s h' tk')) →
    wpAny (model PR w) (topC c) (call (.ref f) vs) Q E s
theorem Tell.use {w : World} {f : Addr} {vs : List Value} {need : Nat} {news : Led} {Post : (Value → Led → Prop) → Prop} (t : Tell w f vs need news Post)
    {dp un : Nat} {gd : Option (List Code)} {env : Env} {outer : List Env} {A₀ : Around} {base h₀ : Heap} {L : Addr} {m : Str → Option Value} {mean : ExcName → Option Value} {mg mb : Str → Option Value} {s : Shared} {h : Heap} {tk : Nat} {Q E : Value → Shared → Prop}
    (B : Below A₀ base outer h₀) (F : Fr h₀ L h m) (X : (heapO w.params).In h₀) (N : News h₀ L h news) (T : TopM mean mg mb h₀) (hf : env.frame = some L) (hk : env.scope.kind = .function)
    (h1 : dp + need < recursionLimit) (h2 : un + 8 * need < cLine)
    (ret : let q := Q; let μ := m; Post (fun r news' => ∀ h' tk', Fr h₀ L h' μ → News h₀ L h' news' → q r (setS s h' tk'))) :
    Halt (wpAny (model PR w) (topA dp un gd env outer) (call (.ref f) vs) Q E (setS s h tk)) :=
  t (dp, un, gd, env, outer) A₀ base h₀ L m mean mg mb _ Q E B hf hk F X N T h1 h2 ret
theorem cps {P : Prop} (h : ∀ G : Prop, (P → G) → G) : P := h P id
noncomputable def nmOk (cs : Scope) (x : Str) (k : NameKind) : Bool := decide (cs.kind = .function) && (decide (cs.names.lookup x = some k) && decide ((x == ("__debug__" : Str)) = false))
theorem nmOk_is {cs : Scope} {x : Str} {k : NameKind} (h : nmOk cs x k = true) : cs.kind = .function ∧ cs.names.lookup x = some k ∧ (x == ("__debug__" : Str)) = false := by
  unfold nmOk at h
  rw [Bool.and_eq_true, Bool.and_eq_true] at h
  exact ⟨of_decide_eq_true h.1, of_decide_eq_true h.2.1, of_decide_eq_true h.2.2⟩
section
variable {M : Model} {A : Around} {E : Value → Shared → Prop} {s : Shared} {K : Frag} {h₀ : Heap} {L a : Addr} {m mg mb : Str → Option Value} {cn : Str} {cs : Scope} {ccd : Value} {cl : List (Str × Addr)} {p : Program} {loose : List Str} {mean : ExcName → Option Value}
  {x : Str} {pos : Pos} {v : Value} {Q : Value → Shared → Prop} {news : Led} {c : Addr} {o : Obj}
theorem nmL (F : Fr h₀ L s.heap m) (hv : m x = some v) (h : Q v s) (ok : nmOk cs x .local = true) : wpAny M A (eval (.Name x pos) (envOf cn cs L a ccd)) Q E s :=
  nameX_L (cl := []) F hv h (nmOk_is ok).1 (nmOk_is ok).2.1 (nmOk_is ok).2.2
theorem nmK (F : Fr h₀ L s.heap m) (X : K.In h₀) (T : TopRead p loose mg mb h₀) (e : nsIn K mainGlobals x = some (some v)) (h : Q v s) (ok : nmOk cs x .globalImplicit = true) : wpAny M A (eval (.Name x pos) (envOf cn cs L a ccd)) Q E s :=
  nameX_K (cl := []) F X T e h (nmOk_is ok).1 (nmOk_is ok).2.1 (nmOk_is ok).2.2
theorem nmB (hn : (x == ("__name__" : Str)) = false) (F : Fr h₀ L s.heap m) (X : K.In h₀) (T : TopRead p loose mg mb h₀) (e : nsIn K mainGlobals x = some none) (hv : bootBuiltins x = some v) (h : Q v s) (ok : nmOk cs x .globalImplicit = true) : wpAny M A (eval (.Name x pos) (envOf cn cs L a ccd)) Q E s :=
  nameX_B (cl := []) F X T e hv (fun z => by rw [z, beq_self_eq_true] at hn; cases hn) h (nmOk_is ok).1 (nmOk_is ok).2.1 (nmOk_is ok).2.2
/-! the same where some names are cells: the kind is to be checked at once -/
theorem nmLC (ok : nmOk cs x .local = true) (F : Fr h₀ L s.heap m) (hv : m x = some v) (h : Q v s) : wpAny M A (eval (.Name x pos) (envOfC cn cs L a ccd)) Q E s :=
  nameX_L (cl := cellsFrom (L + 1) cs.names []) F hv h (nmOk_is ok).1 (nmOk_is ok).2.1 (nmOk_is ok).2.2
theorem nmCC (ok : nmOk cs x .cell = true) (N : News h₀ L s.heap news) (hc : (cellsFrom (L + 1) cs.names []).lookup x = some c) (hm : (c, o) ∈ news) (hd : o.data = .cell (some v)) (h : Q v s) : wpAny M A (eval (.Name x pos) (envOfC cn cs L a ccd)) Q E s :=
  nameX_C N hc hm hd h (nmOk_is ok).1 (nmOk_is ok).2.1 (nmOk_is ok).2.2
theorem nmKC (ok : nmOk cs x .globalImplicit = true) (F : Fr h₀ L s.heap m) (X : K.In h₀) (T : TopRead p loose mg mb h₀) (e : nsIn K mainGlobals x = some (some v)) (h : Q v s) : wpAny M A (eval (.Name x pos) (envOfC cn cs L a ccd)) Q E s :=
  nameX_K (cl := cellsFrom (L + 1) cs.names []) F X T e h (nmOk_is ok).1 (nmOk_is ok).2.1 (nmOk_is ok).2.2
theorem nmBC (ok : nmOk cs x .globalImplicit = true) (hn : (x == ("__name__" : Str)) = false) (F : Fr h₀ L s.heap m) (X : K.In h₀) (T : TopRead p loose mg mb h₀) (e : nsIn K mainGlobals x = some none) (hv : bootBuiltins x = some v) (h : Q v s) : wpAny M A (eval (.Name x pos) (envOfC cn cs L a ccd)) Q E s :=
  nameX_B (cl := cellsFrom (L + 1) cs.names []) F X T e hv (fun z => by rw [z, beq_self_eq_true] at hn; cases hn) h (nmOk_is ok).1 (nmOk_is ok).2.1 (nmOk_is ok).2.2
end
theorem iteT {c : Bool} {a b : Prop} (hc : c = true) (h : a) : if c = true then a else b := by rw [if_pos hc]; exact h
theorem iteF {c : Bool} {a b : Prop} (hc : c = false) (h : b) : if c = true then a else b := by subst hc; exact h
theorem storeX_S {M : Model} {A : Around} {E : Value → Shared → Prop} {s : Shared} {h₀ h : Heap} {L a : Addr} {m : Str → Option Value} {cn : Str} {cs : Scope} {ccd : Value} {x : Str} {v : Value} {Q : Unit → Shared → Prop} {news : Led} {tk : Nat}
    (F : Fr h₀ L h m) (N : News h₀ L h news) (k : ∀ h', Fr h₀ L h' (up x (some v) m) → News h₀ L h' news → Q () (setS s h' (tk + 1))) (ok : nmOk cs x .local = true) : wpAny M A (storeName (envOf cn cs L a ccd) x v) Q E (setS s h tk) :=
  storeX_L (cl := []) (s := setS s h tk) F N k (nmOk_is ok).1 (nmOk_is ok).2.1
theorem storeX_SC {M : Model} {A : Around} {E : Value → Shared → Prop} {s : Shared} {h₀ h : Heap} {L a : Addr} {m : Str → Option Value} {cn : Str} {cs : Scope} {ccd : Value} {x : Str} {v : Value} {Q : Unit → Shared → Prop} {news : Led} {tk : Nat}
    (ok : nmOk cs x .local = true) (F : Fr h₀ L h m) (N : News h₀ L h news) (k : ∀ h', Fr h₀ L h' (up x (some v) m) → News h₀ L h' news → Q () (setS s h' (tk + 1))) : wpAny M A (storeName (envOfC cn cs L a ccd) x v) Q E (setS s h tk) :=
  storeX_L (cl := cellsFrom (L + 1) cs.names []) (s := setS s h tk) F N k (nmOk_is ok).1 (nmOk_is ok).2.1
noncomputable def contQ (M : Model) (A : Around) (E : Value → Shared → Prop) (env : Env) (rest : List Stmt) (Q : Flow → Shared → Prop) (f : Flow) (s : Shared) : Prop := match f with
  | .next => wpAny M A (execs rest env) Q E s
  | f => Q f s
section
variable {M : Model} {A : Around} {E : Value → Shared → Prop} {s : Shared} {h : Heap} {tk : Nat} {env : Env} {pos : Pos} {Q : Value → Shared → Prop} {prog : Program} {w : World} {a b : Int} {t u : Tok}
theorem execs_consN {st : Stmt} {rest : List Stmt} {Q : Flow → Shared → Prop} (h : wpAny M A (exec st env) (contQ M A E env rest Q) E s) : wpAny M A (execs (st :: rest) env) Q E s :=
  wpAny_execs_cons (wpAny_mono h (fun f s' g => by cases f <;> exact g) fun _ _ x => x)
theorem contQ_ret {rest : List Stmt} {Q : Flow → Shared → Prop} {v : Value} (q : Q (.ret v) s) : contQ M A E env rest Q (.ret v) s := q
theorem contQ_brk {rest : List Stmt} {Q : Flow → Shared → Prop} (q : Q .brk s) : contQ M A E env rest Q .brk s := q
theorem contQ_cnt {rest : List Stmt} {Q : Flow → Shared → Prop} (q : Q .cont s) : contQ M A E env rest Q .cont s := q
theorem execs_ret {e : Expr} {rest : List Stmt} {Q : Flow → Shared → Prop} (h : wpAny M A (eval e env) (fun v => Q (.ret v)) E s) : wpAny M A (execs (.Return (some e) pos :: rest) env) Q E s :=
  wpAny_execs_cons (wpAny_Return_some h)
theorem cint_S {i : Int} {k : Nat} (q : Q (.int i tk) (setS s h (Nat.succ tk))) : wpAny M A (eval (.Constant (.int i) k pos) env) Q E (setS s h tk) := wpAny_Constant_int q
theorem cstr_S {x : Str} {k : Nat} (q : Q (.str x tk) (setS s h (Nat.succ tk))) : wpAny M A (eval (.Constant (.str x) k pos) env) Q E (setS s h tk) := PySem.Calls.Constant_str q
theorem add_S (q : Q (.int (a + b) tk) (setS s h (Nat.succ tk))) : wpAny (model prog w) A (binaryOp .Add (.int a t) (.int b u)) Q E (setS s h tk) := PyProof.Rows.add_int q
theorem sub_S (q : Q (.int (a - b) tk) (setS s h (Nat.succ tk))) : wpAny (model prog w) A (binaryOp .Sub (.int a t) (.int b u)) Q E (setS s h tk) := PyProof.Rows.sub_int q
theorem iadd_S (q : Q (.int (a + b) tk) (setS s h (Nat.succ tk))) : wpAny (model prog w) A (inplaceOp .Add (.int a t) (.int b u)) Q E (setS s h tk) := PyProof.Rows.iadd_int q
theorem neg_S (q : Q (.int (-a) tk) (setS s h (Nat.succ tk))) : wpAny (model prog w) A (unaryOp .USub (.int a t)) Q E (setS s h tk) := PyProof.Rows.neg_int q
theorem own_S {K : Frag} {x C L : Addr} {h₀ : Heap} {m : Str → Option Value} {ox : Obj} {es : List DictEntry} {n : Nat} {name : Str} {v : Value} {expr : Bool} {attr : Option Value}
    (F : Fr h₀ L h m) (X : K.In h₀) (i : InstAt h x ox C (some (dictOf es n))) (k4 : plainGet K C name = true) (k5 : hasDictIn K C = true) (k6 : findIn K (.ref C) name = some attr) (k7 : noGet K attr = true) (k8 : getL name es = some (some v)) (k9 : handedIn v = true)
    (q : Q v (setS s h (Nat.succ tk))) : wpAny (model prog w) A (getAttr (.ref x) name expr) Q E (setS s h tk) := get_own (s := setS s h tk) F X i k4 k5 k6 k7 k8 k9 q
noncomputable def attrs : List Str := ["x", "y", "width", "height", "parts", "kind", "pane"]
theorem cell_find (P : Params) {name : Str} (k : attrs.elem name = true) : findIn (heapO P) (.ref 31) name = some none := by
  have h := List.mem_of_elem_eq_true k
  simp only [attrs, List.mem_cons, List.not_mem_nil, or_false] at h
  rcases h with rfl | rfl | rfl | rfl | rfl | rfl | rfl <;> kernel_rfl
theorem cell_get (P : Params) (name : Str) : plainGet (heapO P) 31 name = true := by kernel_rfl
theorem cell_dict (P : Params) : hasDictIn (heapO P) 31 = true := by kernel_rfl
theorem own_C {P : Params} {x L : Addr} {h₀ : Heap} {m : Str → Option Value} {ox : Obj} {es : List DictEntry} {n : Nat} {name : Str} {v : Value} {expr : Bool}
    (F : Fr h₀ L h m) (X : (heapO P).In h₀) (i : InstAt h x ox 31 (some (dictOf es n))) (k8 : getL name es = some (some v)) (k9 : handedIn v = true)
    (q : Q v (setS s h (Nat.succ tk))) (k : attrs.elem name = true) : wpAny (model prog w) A (getAttr (.ref x) name expr) Q E (setS s h tk) := own_S F X i (cell_get P name) (cell_dict P) (cell_find P k) rfl k8 k9 q
theorem zlen {n : Nat} (h : Nat.ble n sizeLine = true) : n ≤ sizeLine := Nat.le_of_ble_eq_true h
theorem newList_S {h₀ : Heap} {L : Addr} {m : Str → Option Value} {news : Led} {vs : List Value} (F : Fr h₀ L h m) (N : News h₀ L h news)
    (q : ∀ (l : Addr) (h' : Heap), Fr h₀ L h' m → News h₀ L h' ((l, listOf vs.toArray 0) :: news) → (∀ p ∈ news, p.1 < l) → Q (.ref l) (setS s h' tk)) (z : vs.length ≤ sizeLine) : wpAny M A (newList vs) Q E (setS s h tk) :=
  newList_K (s := setS s h tk) F N q z
theorem newTuple_S {h₀ : Heap} {L : Addr} {m : Str → Option Value} {news : Led} {vs : List Value} (F : Fr h₀ L h m) (N : News h₀ L h news)
    (q : ∀ (l : Addr) (h' : Heap), Fr h₀ L h' m → News h₀ L h' ((l, { cls := .type "tuple", data := .seq vs.toArray }) :: news) → (∀ p ∈ news, p.1 < l) → Q (.ref l) (setS s h' tk)) (z : vs.length ≤ sizeLine) : wpAny M A (newTuple vs) Q E (setS s h tk) :=
  kup_newTuple (s := setS s h tk) F N q z
end
theorem rm0 {d n b : Nat} (h : d + n < b) (e : 1 ≤ n) : d + 1 < b := Nat.lt_of_le_of_lt (Nat.add_le_add_left e d) h
theorem rm1 {d n k b : Nat} (h : d + n < b) (e : k + 1 ≤ n) : d + 1 + k < b :=
  Nat.lt_of_le_of_lt (Nat.le_trans (Nat.le_of_eq ((Nat.add_assoc d 1 k).trans (congrArg (d + ·) (Nat.add_comm 1 k)))) (Nat.add_le_add_left e d)) h
theorem rm2 {d n k x b : Nat} (h : d + (x + n) < b) (e : k + 1 ≤ n) : d + 1 + (x + k) < b := rm1 h (Nat.add_le_add_left e x)
theorem ru1 {d n k b : Nat} (h : d + 8 * n < b) (e : k + 1 ≤ n) : d + 3 + 8 * k < b :=
  Nat.lt_of_le_of_lt (Nat.le_trans (Nat.le_of_eq (Nat.add_assoc d 3 (8 * k))) (Nat.add_le_add_left (Nat.le_trans (Nat.add_le_add_right (Nat.le_of_ble_eq_true rfl : 3 ≤ 8) _) (Nat.le_trans (Nat.le_of_eq (Nat.add_comm 8 (8 * k))) (Nat.mul_le_mul_left 8 e))) d)) h
theorem ru2 {d n k x b : Nat} (h : d + 8 * (x + n) < b) (e : k + 1 ≤ n) : d + 3 + 8 * (x + k) < b := ru1 h (Nat.add_le_add_left e x)
theorem rmz {d n b : Nat} (h : d + n < b) : d < b := Nat.lt_of_le_of_lt (Nat.le_add_right d n) h
noncomputable def RetK (v : Value) (P : Led → Prop) (φ : Value → Led → Prop) : Prop := ∀ N', P N' → φ v N'
theorem RetK.of {v v' : Value} {P : Led → Prop} {φ : Value → Led → Prop} (k : RetK v P φ) (e : v' = v) {N' : Led} (h : P N') : φ v' N' := e ▸ k N' h
noncomputable def PostK (P : Value → Led → Prop) (φ : Value → Led → Prop) : Prop := ∀ r N', P r N' → φ r N'
inductive Ex2 {α β : Type} (p : α → β → Prop) : Prop
  | intro (a0 : α) (a1 : β) (h : p a0 a1)
inductive Ex3 {α β γ : Type} (p : α → β → γ → Prop) : Prop
  | intro (a0 : α) (a1 : β) (a2 : γ) (h : p a0 a1 a2)
inductive Ex4 {α β γ δ : Type} (p : α → β → γ → δ → Prop) : Prop
  | intro (a0 : α) (a1 : β) (a2 : γ) (a3 : δ) (h : p a0 a1 a2 a3)
inductive Ex5 {α β γ δ ε : Type} (p : α → β → γ → δ → ε → Prop) : Prop
  | intro (a0 : α) (a1 : β) (a2 : γ) (a3 : δ) (a4 : ε) (h : p a0 a1 a2 a3 a4)
inductive Ex6 {α β γ δ ε ζ : Type} (p : α → β → γ → δ → ε → ζ → Prop) : Prop
  | intro (a0 : α) (a1 : β) (a2 : γ) (a3 : δ) (a4 : ε) (a5 : ζ) (h : p a0 a1 a2 a3 a4 a5)
inductive Ex7 {α β γ δ ε ζ η : Type} (p : α → β → γ → δ → ε → ζ → η → Prop) : Prop
  | intro (a0 : α) (a1 : β) (a2 : γ) (a3 : δ) (a4 : ε) (a5 : ζ) (a6 : η) (h : p a0 a1 a2 a3 a4 a5 a6)
inductive Ex8 {α β γ δ ε ζ η θ : Type} (p : α → β → γ → δ → ε → ζ → η → θ → Prop) : Prop
  | intro (a0 : α) (a1 : β) (a2 : γ) (a3 : δ) (a4 : ε) (a5 : ζ) (a6 : η) (a7 : θ) (h : p a0 a1 a2 a3 a4 a5 a6 a7)
inductive Ex9 {α β γ δ ε ζ η θ ι : Type} (p : α → β → γ → δ → ε → ζ → η → θ → ι → Prop) : Prop
  | intro (a0 : α) (a1 : β) (a2 : γ) (a3 : δ) (a4 : ε) (a5 : ζ) (a6 : η) (a7 : θ) (a8 : ι) (h : p a0 a1 a2 a3 a4 a5 a6 a7 a8)
inductive Ex10 {α β γ δ ε ζ η θ ι κ : Type} (p : α → β → γ → δ → ε → ζ → η → θ → ι → κ → Prop) : Prop
  | intro (a0 : α) (a1 : β) (a2 : γ) (a3 : δ) (a4 : ε) (a5 : ζ) (a6 : η) (a7 : θ) (a8 : ι) (a9 : κ) (h : p a0 a1 a2 a3 a4 a5 a6 a7 a8 a9)
inductive Ex11 {α β γ δ ε ζ η θ ι κ τ : Type} (p : α → β → γ → δ → ε → ζ → η → θ → ι → κ → τ → Prop) : Prop
  | intro (a0 : α) (a1 : β) (a2 : γ) (a3 : δ) (a4 : ε) (a5 : ζ) (a6 : η) (a7 : θ) (a8 : ι) (a9 : κ) (a10 : τ) (h : p a0 a1 a2 a3 a4 a5 a6 a7 a8 a9 a10)
inductive And3 (p0 p1 p2 : Prop) : Prop
  | intro (h0 : p0) (h1 : p1) (h2 : p2)
inductive And4 (p0 p1 p2 p3 : Prop) : Prop
  | intro (h0 : p0) (h1 : p1) (h2 : p2) (h3 : p3)
inductive And5 (p0 p1 p2 p3 p4 : Prop) : Prop
  | intro (h0 : p0) (h1 : p1) (h2 : p2) (h3 : p3) (h4 : p4)
inductive And6 (p0 p1 p2 p3 p4 p5 : Prop) : Prop
  | intro (h0 : p0) (h1 : p1) (h2 : p2) (h3 : p3) (h4 : p4) (h5 : p5)
inductive And7 (p0 p1 p2 p3 p4 p5 p6 : Prop) : Prop
  | intro (h0 : p0) (h1 : p1) (h2 : p2) (h3 : p3) (h4 : p4) (h5 : p5) (h6 : p6)
inductive And8 (p0 p1 p2 p3 p4 p5 p6 p7 : Prop) : Prop
  | intro (h0 : p0) (h1 : p1) (h2 : p2) (h3 : p3) (h4 : p4) (h5 : p5) (h6 : p6) (h7 : p7)
inductive And9 (p0 p1 p2 p3 p4 p5 p6 p7 p8 : Prop) : Prop
  | intro (h0 : p0) (h1 : p1) (h2 : p2) (h3 : p3) (h4 : p4) (h5 : p5) (h6 : p6) (h7 : p7) (h8 : p8)
inductive And10 (p0 p1 p2 p3 p4 p5 p6 p7 p8 p9 : Prop) : Prop
  | intro (h0 : p0) (h1 : p1) (h2 : p2) (h3 : p3) (h4 : p4) (h5 : p5) (h6 : p6) (h7 : p7) (h8 : p8) (h9 : p9)
inductive And11 (p0 p1 p2 p3 p4 p5 p6 p7 p8 p9 p10 : Prop) : Prop
  | intro (h0 : p0) (h1 : p1) (h2 : p2) (h3 : p3) (h4 : p4) (h5 : p5) (h6 : p6) (h7 : p7) (h8 : p8) (h9 : p9) (h10 : p10)
inductive And12 (p0 p1 p2 p3 p4 p5 p6 p7 p8 p9 p10 p11 : Prop) : Prop
  | intro (h0 : p0) (h1 : p1) (h2 : p2) (h3 : p3) (h4 : p4) (h5 : p5) (h6 : p6) (h7 : p7) (h8 : p8) (h9 : p9) (h10 : p10) (h11 : p11)
inductive And13 (p0 p1 p2 p3 p4 p5 p6 p7 p8 p9 p10 p11 p12 : Prop) : Prop
  | intro (h0 : p0) (h1 : p1) (h2 : p2) (h3 : p3) (h4 : p4) (h5 : p5) (h6 : p6) (h7 : p7) (h8 : p8) (h9 : p9) (h10 : p10) (h11 : p11) (h12 : p12)
theorem many_is (sd wish : Int) : (if (if sd - 1 - 1 < wish then sd - 1 - 1 else wish) > 1 then if sd - 1 - 1 < wish then sd - 1 - 1 else wish else 1) = max 1 (min wish (sd - 2)) := by
  have e : (if sd - 1 - 1 < wish then sd - 1 - 1 else wish) = min wish (sd - 2) := by
    rw [show sd - 2 = sd - 1 - 1 from (Int.sub_sub sd 1 1).symm]
    generalize sd - 1 - 1 = k
    by_cases h : k < wish
    · rw [if_pos h, Int.min_eq_right (Int.le_of_lt h)]
    · rw [if_neg h, Int.min_eq_left (Int.not_lt.mp h)]
  rw [e]
  generalize min wish (sd - 2) = k
  by_cases h : k > 1
  · rw [if_pos h, Int.max_eq_right (Int.le_of_lt h)]
  · rw [if_neg h, Int.max_eq_left (Int.not_lt.mp h)]
theorem many_le {sd wish : Int} (h : ¬ sd < 2 * 1 + 1) : max 1 (min wish (sd - 2)) ≤ sd - 2 := Int.max_le.mpr ⟨by (first | (law_clear; lia) | lia | omega), Int.min_le_right _ _⟩
theorem one_le_many (sd wish : Int) : 1 ≤ max 1 (min wish (sd - 2)) := Int.le_max_left _ _
theorem mn1 (n : Nat) : n - 1 + min 1 n = n := by
  cases n with
  | zero => rfl
  | succ n => rw [Nat.min_eq_left (Nat.succ_le_succ (Nat.zero_le n))]; rfl
theorem mn2 (n : Nat) : n - (n - 1) + min (n - 1) n = n := by rw [Nat.min_eq_left (Nat.sub_le n 1)]; exact Nat.sub_add_cancel (Nat.sub_le n 1)
theorem letG {P : Prop} (h : let G := P; G) : P := h
section
variable {M : Model} {A : Around} {E : Value → Shared → Prop} {s : Shared} {env : Env} {pos : Pos} {Q : Value → Shared → Prop} {K : Frag}
/-! what is left to do, as names: a step then stores a name with its arguments, and no tree under a binder -/
noncomputable def fQ (M : Model) (A : Around) (E : Value → Shared → Prop) (env : Env) (pos : Pos) (args : List PySem.Expr) (Q : Value → Shared → Prop) (f : Value) (s : Shared) : Prop := wpAny M A (callWith pos f [] (backTo pos (starEach args env)) []) Q E s
noncomputable def consQ (v : Value) (F : List Value → Shared → Prop) (vs : List Value) (s : Shared) : Prop := F (v :: vs) s
noncomputable def argQ (M : Model) (A : Around) (E : Value → Shared → Prop) (env : Env) (pos : Pos) (rest : List PySem.Expr) (F : List Value → Shared → Prop) (v : Value) (s : Shared) : Prop := wpAny M A (spliced (backTo pos (starEach rest env))) (consQ v F) E s
noncomputable def callQ (K : Frag) (M : Model) (A : Around) (E : Value → Shared → Prop) (f : Value) (Q : Value → Shared → Prop) (vs : List Value) (s : Shared) : Prop := K.In s.heap ∧ wpAny M A (call f vs) Q E s
noncomputable def newLQ (M : Model) (A : Around) (E : Value → Shared → Prop) (Q : Value → Shared → Prop) (vs : List Value) (s : Shared) : Prop := wpAny M A (newList vs) Q E s
noncomputable def newTQ (M : Model) (A : Around) (E : Value → Shared → Prop) (Q : Value → Shared → Prop) (vs : List Value) (s : Shared) : Prop := wpAny M A (newTuple vs) Q E s
noncomputable def binR (M : Model) (A : Around) (E : Value → Shared → Prop) (op : Operator) (a : Value) (Q : Value → Shared → Prop) (b : Value) (s : Shared) : Prop := wpAny M A (binaryOp op a b) Q E s
noncomputable def binQ (M : Model) (A : Around) (E : Value → Shared → Prop) (env : Env) (op : Operator) (r : PySem.Expr) (Q : Value → Shared → Prop) (a : Value) (s : Shared) : Prop := wpAny M A (eval r env) (binR M A E op a Q) E s
noncomputable def trQ (M : Model) (A : Around) (E : Value → Shared → Prop) (Q : Bool → Shared → Prop) (v : Value) (s : Shared) : Prop := wpAny M A (truthy v) Q E s
noncomputable def cmpR (M : Model) (A : Around) (E : Value → Shared → Prop) (op : CmpOp) (a : Value) (Q : Bool → Shared → Prop) (b : Value) (s : Shared) : Prop := wpAny M A (compareOp op a b) (trQ M A E Q) E s
noncomputable def cmpQ (M : Model) (A : Around) (E : Value → Shared → Prop) (env : Env) (op : CmpOp) (r : PySem.Expr) (Q : Bool → Shared → Prop) (a : Value) (s : Shared) : Prop := wpAny M A (eval r env) (cmpR M A E op a Q) E s
noncomputable def subR (M : Model) (A : Around) (E : Value → Shared → Prop) (x i : PySem.Expr) (o : Value) (Q : Value → Shared → Prop) (v : Value) (s : Shared) : Prop := wpAny M A (subscriptTail x i o v) Q E s
noncomputable def subQ (M : Model) (A : Around) (E : Value → Shared → Prop) (env : Env) (x i : PySem.Expr) (Q : Value → Shared → Prop) (o : Value) (s : Shared) : Prop := wpAny M A (eval i env) (subR M A E x i o Q) E s
noncomputable def attQ (M : Model) (A : Around) (E : Value → Shared → Prop) (attr : Str) (Q : Value → Shared → Prop) (o : Value) (s : Shared) : Prop := wpAny M A (getAttr o attr true) Q E s
noncomputable def stoQ (M : Model) (A : Around) (E : Value → Shared → Prop) (env : Env) (x : Str) (Q : Flow → Shared → Prop) (v : Value) (s : Shared) : Prop := wpAny M A (storeName env x v) (fun _ => Q .next) E s
noncomputable def ifQ (M : Model) (A : Around) (E : Value → Shared → Prop) (env : Env) (body orelse : List Stmt) (Q : Flow → Shared → Prop) (b : Bool) (s : Shared) : Prop := if b = true then wpAny M A (execs body env) Q E s else wpAny M A (execs orelse env) Q E s
theorem call_S {f : PySem.Expr} {args : List PySem.Expr} (h : wpAny M A (eval f env) (fQ M A E env pos args Q) E s)
    (e : eval (f.Call args [] pos) env = (do let g ← eval f env; callWith pos g [] (backTo pos (starEach args env)) (backToKw pos (keywordEach [] env))) := by rfl) : wpAny M A (eval (f.Call args [] pos) env) Q E s := Call_ h e
theorem args_consS {e : PySem.Expr} {rest : List PySem.Expr} {F : List Value → Shared → Prop} (h : wpAny M A (eval e env) (argQ M A E env pos rest F) E s)
    (g : starEach (e :: rest) env = (false, eval e env) :: starEach rest env := by rfl) : wpAny M A (spliced (backTo pos (starEach (e :: rest) env))) F E s := args_cons h g
theorem callWith_KS {f : Value} {h₀ : Heap} {e : PySem.Expr} {rest : List PySem.Expr} (X : K.In h₀) (k : keepIn K f = true) (h : wpAny M A (spliced (backTo pos (starEach (e :: rest) env))) (callQ K M A E f Q) E s)
    (g : starEach (e :: rest) env = (false, eval e env) :: starEach rest env := by rfl) (g2 : ((backTo pos (starEach rest env)).any fun x => x.fst) = false := by rfl) : wpAny M A (callWith pos f [] (backTo pos (starEach (e :: rest) env)) []) Q E s :=
  callWith_K X k h g g2
theorem callQ_end {f : Value} {vs : List Value} (X : K.In s.heap) (h : wpAny M A (call f vs) Q E s) : callQ K M A E f Q vs s := ⟨X, h⟩
theorem bin_S {l : PySem.Expr} {op : Operator} {r : PySem.Expr} (h : wpAny M A (eval l env) (binQ M A E env op r Q) E s) : wpAny M A (eval (l.BinOp op r pos) env) Q E s := wpAny_BinOp h
theorem cmp_S {l : PySem.Expr} {op : CmpOp} {r : PySem.Expr} {whole : Sem Value} {Q : Bool → Shared → Prop} (h : wpAny M A (eval l env) (cmpQ M A E env op r Q) E s) (g : behindInMarks op r = false := by with_unfolding_all rfl) :
    wpAny M A (PySem.isTrue (l.Compare [op] [r] pos) env whole) Q E s := wpAny_isTrue_Compare1 h g
theorem true_S {e : PySem.Expr} {whole : Sem Value} {Q : Bool → Shared → Prop} (h : wpAny M A whole (trQ M A E Q) E s)
    (g : PySem.isTrue e env whole = (do let v ← whole; standAt e.pos; holding [v] (truthy v)) := by rfl) : wpAny M A (PySem.isTrue e env whole) Q E s := isTrue_plain h g
theorem sub_Sx {x i : PySem.Expr} (h : wpAny M A (eval x env) (subQ M A E env x i Q) E s) : wpAny M A (eval (x.Subscript i pos) env) Q E s := Subscript_ h
theorem assign_S {x : Str} {pos' : Pos} {value : PySem.Expr} {Q : Flow → Shared → Prop} (h : wpAny M A (eval value env) (stoQ M A E env x Q) E s) (g : swapsWith value (some (PySem.Expr.Name x pos')) pos.line env = pure false := by with_unfolding_all rfl) :
    wpAny M A (exec (.Assign [.Name x pos'] value pos) env) Q E s := wpAny_Assign_Name h g
theorem if_S {test : PySem.Expr} {body orelse : List Stmt} {Q : Flow → Shared → Prop} (h : wpAny M A (PySem.isTrue test env (eval test env)) (ifQ M A E env body orelse Q) E s) : wpAny M A (exec (.If test body orelse pos) env) Q E s := wpAny_If h
theorem ifQ_go {body orelse : List Stmt} {Q : Flow → Shared → Prop} {b : Bool} (h : if b = true then wpAny M A (execs body env) Q E s else wpAny M A (execs orelse env) Q E s) : ifQ M A E env body orelse Q b s := h
theorem list_S {elts : List PySem.Expr} (h : wpAny M A (spliced (backTo pos (starEach elts env))) (newLQ M A E Q) E s) : wpAny M A (eval (.List elts pos) env) Q E s := List_ h
theorem tuple_S {elts : List PySem.Expr} {k : Nat} (h : wpAny M A (spliced (backTo pos (starEach elts env))) (newTQ M A E Q) E s) : wpAny M A (eval (.Tuple elts k pos) env) Q E s := Tuple_ h
end
theorem mem_mid {α : Type} (a : List α) (x : α) (b : List α) : x ∈ a ++ x :: b := List.mem_append_right a (.head b)
theorem two_len (b : Bool) (x y : Addr) : (if b then [x, y] else [y, x]).length = 2 := by cases b <;> rfl
theorem side_in {cw ch : Int} (h : 0 ≤ cw ∧ cw < 1000 ∧ 0 ≤ ch ∧ ch < 1000) (r : Bool) : 0 ≤ (if r then cw else ch) ∧ (if r then cw else ch) < 1000 := by
  cases r
  · exact h.2.2
  · exact ⟨h.1, h.2.1⟩
theorem foldL {α : Type} {M : Model} {A : Around} {t : Sem α} {Q : α → Shared → Prop} {E : Value → Shared → Prop} {s : Shared} (h : let q := Q; let e := E; wpAny M A t q e s) : wpAny M A t Q E s := h
theorem mj_le {c j l j' : Nat} (h : j' = min c (j + l)) : j' ≤ c := h ▸ Nat.min_le_left _ _
theorem mj_eq {c j l j' : Nat} (h : j' = min c (j + l)) (h1 : j' < c) : j' = j + l := by
  rcases Nat.le_total c (j + l) with k | k
  · rw [Nat.min_eq_left k] at h
    exact absurd h1 (h ▸ Nat.lt_irrefl _)
  · rw [h, Nat.min_eq_right k]
theorem mj_step {c j l j' : Nat} (h : j' = min c (j + l)) (h1 : j' < c) : j' + 1 = min c (j + (l + 1)) := by
  have e := mj_eq h h1
  subst e
  exact (Nat.min_eq_right (show j + (l + 1) ≤ c from h1)).symm
theorem mj_end {c j l j' : Nat} (h : j' = min c (j + l)) (h1 : ¬ j' < c) : j' = min c (j + (l + 1)) := by
  have e : j' = c := Nat.le_antisymm (mj_le h) (Nat.le_of_not_lt h1)
  rw [e, Nat.min_eq_left]
  exact Nat.le_succ_of_le (e ▸ h ▸ Nat.min_le_right _ _)
theorem bnd1 {s : Shared} {fd : FuncData} {v0 : Value} (n0 : Str) (h : bindArgs fd ⟨[v0], []⟩ = pure [(n0, v0)]) : BindsTo s fd ⟨[v0], []⟩ [(n0, v0)] := .of_eq h
theorem bnd2 {s : Shared} {fd : FuncData} {v0 v1 : Value} (n0 n1 : Str) (h : bindArgs fd ⟨[v0, v1], []⟩ = pure [(n0, v0), (n1, v1)]) : BindsTo s fd ⟨[v0, v1], []⟩ [(n0, v0), (n1, v1)] := .of_eq h
theorem bnd3 {s : Shared} {fd : FuncData} {v0 v1 v2 : Value} (n0 n1 n2 : Str) (h : bindArgs fd ⟨[v0, v1, v2], []⟩ = pure [(n0, v0), (n1, v1), (n2, v2)]) : BindsTo s fd ⟨[v0, v1, v2], []⟩ [(n0, v0), (n1, v1), (n2, v2)] := .of_eq h
theorem bnd4 {s : Shared} {fd : FuncData} {v0 v1 v2 v3 : Value} (n0 n1 n2 n3 : Str) (h : bindArgs fd ⟨[v0, v1, v2, v3], []⟩ = pure [(n0, v0), (n1, v1), (n2, v2), (n3, v3)]) : BindsTo s fd ⟨[v0, v1, v2, v3], []⟩ [(n0, v0), (n1, v1), (n2, v2), (n3, v3)] := .of_eq h
theorem bnd8 {s : Shared} {fd : FuncData} {v0 v1 v2 v3 v4 v5 v6 v7 : Value} (n0 n1 n2 n3 n4 n5 n6 n7 : Str) (h : bindArgs fd ⟨[v0, v1, v2, v3, v4, v5, v6, v7], []⟩ = pure [(n0, v0), (n1, v1), (n2, v2), (n3, v3), (n4, v4), (n5, v5), (n6, v6), (n7, v7)]) : BindsTo s fd ⟨[v0, v1, v2, v3, v4, v5, v6, v7], []⟩ [(n0, v0), (n1, v1), (n2, v2), (n3, v3), (n4, v4), (n5, v5), (n6, v6), (n7, v7)] := .of_eq h
inductive K where
  | pane (p : Int)
  | row
  | col
  deriving DecidableEq
inductive T where
  | mk (a d l : Addr) (k : K) (w h x y : Int) (ps : List T)
inductive P where
  | mk (k : K) (w h : Int) (ps : List P)

noncomputable abbrev kindV : K → Tok → Value
  | .pane _, t => .str (Str.ofString "pane") t
  | .row, t => .str (Str.ofString "row") t
  | .col, t => .str (Str.ofString "column") t
noncomputable abbrev paneV : K → Tok → Value
  | .pane p, t => .int p t
  | .row, _ => .none
  | .col, _ => .none
noncomputable abbrev cellD (w : World) (t1 t2 t3 t4 t5 t6 t7 : Tok) (kind wd ht x y parts pane : Value) : Obj :=
  dictOf [⟨PyData.keyHash w.params (Str.ofString "kind"), .str (Str.ofString "kind") t1, kind⟩,
    ⟨PyData.keyHash w.params (Str.ofString "width"), .str (Str.ofString "width") t2, wd⟩,
    ⟨PyData.keyHash w.params (Str.ofString "height"), .str (Str.ofString "height") t3, ht⟩,
    ⟨PyData.keyHash w.params (Str.ofString "x"), .str (Str.ofString "x") t4, x⟩,
    ⟨PyData.keyHash w.params (Str.ofString "y"), .str (Str.ofString "y") t5, y⟩,
    ⟨PyData.keyHash w.params (Str.ofString "parts"), .str (Str.ofString "parts") t6, parts⟩,
    ⟨PyData.keyHash w.params (Str.ofString "pane"), .str (Str.ofString "pane") t7, pane⟩] 7
noncomputable abbrev refsA (as : List Addr) : Array Value := (as.map Value.ref).toArray
inductive CellIn (w : World) (N : Led) (a d l : Addr) (k : K) (wd ht x y : Int) (items : List Addr) : Prop
  | intro (t1 t2 t3 t4 t5 t6 t7 tk tw th tx ty tp : Tok) (e : Nat) (h1 : (a, instObj 31 d) ∈ N)
    (h2 : (d, cellD w t1 t2 t3 t4 t5 t6 t7 (kindV k tk) (.int wd tw) (.int ht th) (.int x tx) (.int y ty) (.ref l) (paneV k tp)) ∈ N) (h3 : (l, listOf (refsA items) e) ∈ N)
theorem CellIn.mk {w : World} {N : Led} {a d l : Addr} {k : K} {wd ht x y : Int} {items : List Addr} {t1 t2 t3 t4 t5 t6 t7 tk tw th tx ty tp : Tok} {e : Nat} (h1 : (a, instObj 31 d) ∈ N)
    (h2 : (d, cellD w t1 t2 t3 t4 t5 t6 t7 (kindV k tk) (.int wd tw) (.int ht th) (.int x tx) (.int y ty) (.ref l) (paneV k tp)) ∈ N) (h3 : (l, listOf (refsA items) e) ∈ N) : CellIn w N a d l k wd ht x y items :=
  ⟨_, _, _, _, _, _, _, _, _, _, _, _, _, _, h1, h2, h3⟩
theorem CellIn.sub {w : World} {N N' : Led} {a d l : Addr} {k : K} {wd ht x y : Int} {items : List Addr} (c : CellIn w N a d l k wd ht x y items)
    (ha : ∀ o, (a, o) ∈ N → (a, o) ∈ N') (hd : ∀ o, (d, o) ∈ N → (d, o) ∈ N') (hl : ∀ o, (l, o) ∈ N → (l, o) ∈ N') : CellIn w N' a d l k wd ht x y items := by
  refine letG ?_
  intro kG
  obtain ⟨t1, t2, t3, t4, t5, t6, t7, tk, tw, th, tx, ty, tp, e, h1, h2, h3⟩ := c
  k_unfold
  clear kG
  exact ⟨t1, t2, t3, t4, t5, t6, t7, tk, tw, th, tx, ty, tp, e, ha _ h1, hd _ h2, hl _ h3⟩

namespace T
noncomputable def adr : T → Addr | mk a _ _ _ _ _ _ _ _ => a
noncomputable def dic : T → Addr | mk _ d _ _ _ _ _ _ _ => d
noncomputable def lst : T → Addr | mk _ _ l _ _ _ _ _ _ => l
noncomputable def kin : T → K | mk _ _ _ k _ _ _ _ _ => k
noncomputable def wid : T → Int | mk _ _ _ _ w _ _ _ _ => w
noncomputable def hei : T → Int | mk _ _ _ _ _ h _ _ _ => h
noncomputable def xx : T → Int | mk _ _ _ _ _ _ x _ _ => x
noncomputable def yy : T → Int | mk _ _ _ _ _ _ _ y _ => y
noncomputable def par : T → List T | mk _ _ _ _ _ _ _ _ ps => ps
mutual
noncomputable def sz : T → Nat | mk _ _ _ _ _ _ _ _ ps => szL ps + 1
noncomputable def szL : List T → Nat
  | [] => 0
  | p :: r => p.sz + szL r
end
mutual
noncomputable def fp : T → List Addr | mk a d l _ _ _ _ _ ps => a :: d :: l :: fpL ps
noncomputable def fpL : List T → List Addr
  | [] => []
  | p :: r => p.fp ++ fpL r
end
mutual
noncomputable def er : T → P | mk _ _ _ k w h _ _ ps => .mk k w h (erL ps)
noncomputable def erL : List T → List P
  | [] => []
  | p :: r => p.er :: erL r
end
mutual
noncomputable def leaves : T → List T | mk a d l k w h x y ps => match k with
  | .pane _ => [mk a d l k w h x y ps]
  | _ => leavesL ps
noncomputable def leavesL : List T → List T
  | [] => []
  | p :: r => p.leaves ++ leavesL r
end
mutual
noncomputable def In (w : World) (N : Led) : T → Prop | mk a d l k wd ht x y ps => CellIn w N a d l k wd ht x y (ps.map adr) ∧ InL w N ps
noncomputable def InL (w : World) (N : Led) : List T → Prop
  | [] => True
  | p :: r => p.In w N ∧ InL w N r
end
end T
theorem T.In.cell {w : World} {N : Led} : ∀ {t : T}, t.In w N → CellIn w N t.adr t.dic t.lst t.kin t.wid t.hei t.xx t.yy (t.par.map T.adr)
  | .mk _ _ _ _ _ _ _ _ _, h => by rw [T.In] at h; exact h.1
theorem T.In.parts {w : World} {N : Led} : ∀ {t : T}, t.In w N → T.InL w N t.par
  | .mk _ _ _ _ _ _ _ _ _, h => by rw [T.In] at h; exact h.2
theorem News.one {h₀ h : Heap} {L : Addr} {N : Led} (n : News h₀ L h N) {a : Addr} {o o' : Obj} (h1 : (a, o) ∈ N) (h2 : (a, o') ∈ N) : o = o' := by
  have e1 := (n _ h1).1
  have e2 := (n _ h2).1
  exact Option.some.inj (e1.symm.trans e2)
noncomputable def wipe (d : Addr) (N : Led) : Led := N.filter fun p => p.1 != d
theorem wipe_ne {d : Addr} {N : Led} : ∀ p ∈ wipe d N, p.1 ≠ d := by
  intro p hp
  simpa using (List.mem_filter.mp hp).2
theorem mem_wipe {d : Addr} {N : Led} {p : Addr × Obj} (h : p ∈ N) (n : p.1 ≠ d) : p ∈ wipe d N := List.mem_filter.mpr ⟨h, by simpa using n⟩
theorem News.focus {h₀ h : Heap} {L d : Addr} {N : Led} {o : Obj} (n : News h₀ L h N) (hm : (d, o) ∈ N) : News h₀ L h ((d, o) :: wipe d N) := by
  intro p hp
  rcases List.mem_cons.mp hp with rfl | hp
  · exact n _ hm
  · exact n _ (List.mem_filter.mp hp).1
theorem News.also {h₀ h : Heap} {L a : Addr} {N : Led} {o : Obj} (n : News h₀ L h N) (hm : (a, o) ∈ N) : News h₀ L h ((a, o) :: N) := by
  intro p hp
  rcases List.mem_cons.mp hp with rfl | hp
  · exact n _ hm
  · exact n _ hp
theorem News.sub {h₀ h : Heap} {L : Addr} {N N' : Led} (n : News h₀ L h N) (hs : ∀ p ∈ N', p ∈ N) : News h₀ L h N' := fun p hp => n p (hs p hp)
theorem News.ne_of {h₀ h : Heap} {L a b : Addr} {N : Led} {o o' : Obj} (n : News h₀ L h N) (h1 : (a, o) ∈ N) (h2 : (b, o') ∈ N) (hne : o.cls ≠ o'.cls) : a ≠ b := by
  intro e
  subst e
  exact hne (congrArg Obj.cls (News.one n h1 h2))
theorem T.adr_in {a d l : Addr} {k : K} {w h x y : Int} {ps : List T} : a ∈ (T.mk a d l k w h x y ps).fp := by rw [T.fp]; exact .head _
theorem T.dic_in {a d l : Addr} {k : K} {w h x y : Int} {ps : List T} : d ∈ (T.mk a d l k w h x y ps).fp := by rw [T.fp]; exact .tail _ (.head _)
theorem T.lst_in {a d l : Addr} {k : K} {w h x y : Int} {ps : List T} : l ∈ (T.mk a d l k w h x y ps).fp := by rw [T.fp]; exact .tail _ (.tail _ (.head _))
theorem T.par_in {a d l z : Addr} {k : K} {w h x y : Int} {ps : List T} (g : z ∈ T.fpL ps) : z ∈ (T.mk a d l k w h x y ps).fp := by rw [T.fp]; exact .tail _ (.tail _ (.tail _ g))
theorem up_up (x : Str) (v u : Option Value) (m : Str → Option Value) : up x v (up x u m) = up x v m := by
  funext y; unfold up; split <;> rfl
theorem up_self (x : Str) (m : Str → Option Value) : up x (m x) m = m := by
  funext y; unfold up; split
  · rename_i h; rw [h]
  · rfl
theorem up_comm {x x' : Str} (hx : x ≠ x') (v u : Option Value) (m : Str → Option Value) : up x v (up x' u m) = up x' u (up x v m) := by
  funext y; unfold up
  by_cases h1 : y = x
  · subst h1; simp [hx]
  · simp [h1]
section
variable {prog : Program} {w : World} {A : Around} {E : Value → Shared → Prop} {s : Shared} {env : Env} {h₀ : Heap} {x : Str} {body : List Stmt} {Q : Flow → Shared → Prop}
noncomputable def LPost (h₀ : Heap) (L : Addr) (s₁ : Shared) (I : Addr) (it : Obj) (J : (Str → Option Value) → Led → Prop) (Q : Flow → Shared → Prop) (f : Flow) (s₂ : Shared) : Prop :=
  match f with
  | .ret v => Q (.ret v) s₂
  | .brk => Q .next s₂
  | _ => Halt (Ex4 fun h' tk m' N' => And5 (s₂ = { s₁ with heap := h', toks := tk }) (Fr h₀ L h' m') (News h₀ L h' ((I, it) :: N')) ((∀ p ∈ N', p.1 ≠ I)) (J m' N'))
theorem LPost.intro {L I : Addr} {it : Obj} {J : (Str → Option Value) → Led → Prop} {s₁ : Shared} {h' : Heap} {tk : Nat} {m' : Str → Option Value} {N' : Led} (F : Fr h₀ L h' m') (N : News h₀ L h' N') (hI : (I, it) ∈ N') (j : J m' (wipe I N')) :
    Halt (Ex4 fun h'' tk' m' N' => And5 (({ s₁ with heap := h', toks := tk } : Shared) = { s₁ with heap := h'', toks := tk' }) (Fr h₀ L h'' m') (News h₀ L h'' ((I, it) :: N')) ((∀ p ∈ N', p.1 ≠ I)) (J m' N')) :=
  ⟨h', tk, m', wipe I N', rfl, F, News.focus N hI, wipe_ne, j⟩
theorem listRest_of {I : Addr} {lp : Addr × Obj} (Inv : List Value → (Str → Option Value) → Led → Prop) (hin : ∀ r m N, Inv r m N → lp ∈ N)
    (turn : ∀ v r m N it h tk, Inv (v :: r) m N → (∀ p ∈ N, p.1 ≠ I) → it.cls = .type "list_iterator" → Fr h₀ env.locals h (fun y => if y = x then some v else m y) → News h₀ env.locals h ((I, it) :: N) →
      wpAny (model prog w) A (execs body env) (LPost h₀ env.locals { s with heap := h, toks := tk } I it (Inv r) Q) E { s with heap := h, toks := tk })
    (done : ∀ m N h tk, Inv [] m N → Fr h₀ env.locals h m → News h₀ env.locals h N → Q .next { s with heap := h, toks := tk }) :
    ∀ vs m N, Inv vs m N → (∀ p ∈ N, p.1 ≠ I) → ListRest prog w A E h₀ env x body Q s I lp vs m N := by
  intro vs
  induction vs with
  | nil => exact fun m N hI _ => ListRest.zero fun h tk F N' => done m N h tk hI F N'
  | cons v r ih =>
    intro m N hI hne
    refine ListRest.succ fun it h tk hc F N' => wpAny_mono (turn v r m N it h tk hI hne hc F N') (fun f s₂ p => ?_) fun _ _ e => e
    cases f with
    | ret v => exact p
    | brk => exact p
    | next =>
      refine letG ?_
      intro kG
      obtain ⟨h', tk', m', N'', e, F'', N3, hne', j⟩ := p
      k_unfold
      clear kG
      exact ⟨h', tk', m', N'', e, F'', N3, hne', hin _ _ _ j, ih m' N'' j hne'⟩
    | cont =>
      refine letG ?_
      intro kG
      obtain ⟨h', tk', m', N'', e, F'', N3, hne', j⟩ := p
      k_unfold
      clear kG
      exact ⟨h', tk', m', N'', e, F'', N3, hne', hin _ _ _ j, ih m' N'' j hne'⟩
theorem iter_led {L : Addr} {ax : Addr} {lo : Obj} {vs : List Value} {n : Nat} {m₀ : Str → Option Value} {news : Led} (F : Fr h₀ L s.heap m₀) (N : News h₀ L s.heap news) (hm : (ax, lo) ∈ news) (hL : env.locals = L) (hh : A.handled = none) (hc : lo.cls = .type "list") (hd : lo.data = .seq vs.toArray n)
    (Inv : List Value → (Str → Option Value) → Led → Prop) (h0 : Inv vs m₀ news) (hin : ∀ r m N, Inv r m N → (ax, lo) ∈ N)
    (turn : ∀ v r m N I it h tk, Inv (v :: r) m N → (∀ p ∈ N, p.1 ≠ I) → it.cls = .type "list_iterator" → Fr h₀ L h (fun y => if y = x then some v else m y) → News h₀ L h ((I, it) :: N) →
      wpAny (model prog w) A (execs body env) (LPost h₀ L { s with heap := h, toks := tk } I it (Inv r) Q) E { s with heap := h, toks := tk })
    (done : ∀ m N h tk, Inv [] m N → Fr h₀ L h m → News h₀ L h N → Q .next { s with heap := h, toks := tk }) :
    Halt (wpAny (model prog w) A (pyIter (.ref ax)) (fun it s₂ => LoopAtV prog w A h₀ env x body Q E it s₂) E s) := by
  subst hL
  exact iter_listUnr hh F N hm hc hd fun I hI => listRest_of Inv hin (fun v r m N it h tk => turn v r m N I it h tk) done vs m₀ news h0 fun p hp => Nat.ne_of_lt (hI p hp)
noncomputable def LPost0 (h₀ : Heap) (L : Addr) (s₁ : Shared) (m : Str → Option Value) (I : Addr) (it : Obj) (J : Led → Prop) (Q : Flow → Shared → Prop) (f : Flow) (s₂ : Shared) : Prop :=
  match f with
  | .ret v => Q (.ret v) s₂
  | .brk => Q .next s₂
  | _ => Halt (Ex3 fun h' tk N' => And5 (s₂ = { s₁ with heap := h', toks := tk }) (Fr h₀ L h' m) (News h₀ L h' ((I, it) :: N')) ((∀ p ∈ N', p.1 ≠ I)) (J N'))
theorem LPost0.intro {L I : Addr} {it : Obj} {J : Led → Prop} {s₁ : Shared} {h' : Heap} {tk : Nat} {m : Str → Option Value} {N' : Led} (F : Fr h₀ L h' m) (N : News h₀ L h' N') (hI : (I, it) ∈ N') (j : J (wipe I N')) :
    Halt (Ex3 fun h'' tk' N' => And5 (({ s₁ with heap := h', toks := tk } : Shared) = { s₁ with heap := h'', toks := tk' }) (Fr h₀ L h'' m) (News h₀ L h'' ((I, it) :: N')) ((∀ p ∈ N', p.1 ≠ I)) (J N')) :=
  ⟨h', tk, wipe I N', rfl, F, News.focus N hI, wipe_ne, j⟩
theorem iter_led0 {L : Addr} {ax : Addr} {lo : Obj} {vs : List Value} {n : Nat} {m₀ : Str → Option Value} {news : Led} (F : Fr h₀ L s.heap m₀) (N : News h₀ L s.heap news) (hm : (ax, lo) ∈ news) (hL : env.locals = L) (hh : A.handled = none) (hc : lo.cls = .type "list") (hd : lo.data = .seq vs.toArray n)
    (Inv : List Value → Led → Prop) (h0 : Inv vs news) (hin : ∀ r N, Inv r N → (ax, lo) ∈ N)
    (turn : ∀ v r N I it h tk, Inv (v :: r) N → (∀ p ∈ N, p.1 ≠ I) → it.cls = .type "list_iterator" → Fr h₀ L h (up x (some v) m₀) → News h₀ L h ((I, it) :: N) →
      wpAny (model prog w) A (execs body env) (LPost0 h₀ L { s with heap := h, toks := tk } (up x (some v) m₀) I it (Inv r) Q) E { s with heap := h, toks := tk })
    (done : ∀ u N h tk, Inv [] N → Fr h₀ L h (up x u m₀) → News h₀ L h N → Q .next { s with heap := h, toks := tk }) :
    Halt (wpAny (model prog w) A (pyIter (.ref ax)) (fun it s₂ => LoopAtV prog w A h₀ env x body Q E it s₂) E s) := by
  refine iter_led F N hm hL hh hc hd (fun r m N => (∃ u, m = up x u m₀) ∧ Inv r N) ⟨⟨m₀ x, (up_self x m₀).symm⟩, h0⟩ (fun r m N h => hin r N h.2) ?_ ?_
  · rintro v r m N I it h tk ⟨⟨u, rfl⟩, hI⟩ hne hc F' N'
    have F2 : Fr h₀ L h (up x (some v) m₀) := by
      have F3 : Fr h₀ L h (up x (some v) (up x u m₀)) := F'
      rw [up_up] at F3
      exact F3
    refine wpAny_mono (turn v r N I it h tk hI hne hc F2 N') (fun f s₂ p => ?_) fun _ _ e => e
    cases f with
    | ret v => exact p
    | brk => exact p
    | next =>
      refine letG ?_
      intro kG
      obtain ⟨h', tk', N'', e, F'', N3, hne', j⟩ := p
      k_unfold
      clear kG
      exact ⟨h', tk', _, N'', e, F'', N3, hne', ⟨_, rfl⟩, j⟩
    | cont =>
      refine letG ?_
      intro kG
      obtain ⟨h', tk', N'', e, F'', N3, hne', j⟩ := p
      k_unfold
      clear kG
      exact ⟨h', tk', _, N'', e, F'', N3, hne', ⟨_, rfl⟩, j⟩
  · rintro m N h tk ⟨⟨u, rfl⟩, hI⟩ F' N'
    exact done u N h tk hI F' N'
noncomputable def ovl : List (Str × Option Value) → (Str → Option Value) → Str → Option Value
  | [], m => m
  | (x, v) :: l, m => up x v (ovl l m)
theorem ovl_map : ∀ (S : List Str) (m m₀ : Str → Option Value), (∀ z, z ∉ S → m z = m₀ z) → ovl (S.zip (S.map m)) m₀ = m
  | [], m, m₀, h => by funext z; exact (h z (by first | exact mem_mid _ _ _ | exact .head _ | exact .tail _ (.head _) | exact .tail _ (.tail _ (.head _)) | simp)).symm
  | x :: S, m, m₀, h => by
    have e := ovl_map S m (fun z => if z = x then m z else m₀ z) fun z hz => by
      by_cases hx : z = x
      · simp [hx]
      · simp [hx]; exact h z (by simp [hx, hz])
    show up x (m x) (ovl (S.zip (S.map m)) m₀) = m
    have e2 : ∀ (T : List (Str × Option Value)) (m₁ m₂ : Str → Option Value), (∀ z, z ≠ x → m₁ z = m₂ z) → ∀ z, z ≠ x → ovl T m₁ z = ovl T m₂ z := by
      intro T
      induction T with
      | nil => intro m₁ m₂ h z hz; exact h z hz
      | cons p T ih =>
        intro m₁ m₂ h z hz
        show up p.1 p.2 _ z = up p.1 p.2 _ z
        unfold up
        split
        · rfl
        · exact ih m₁ m₂ h z hz
    funext z
    unfold up
    by_cases hx : z = x
    · simp [hx]
    · simp only [hx, if_false]
      rw [e2 _ m₀ (fun z => if z = x then m z else m₀ z) (fun z hz => by simp [hz]) z hx, e]
noncomputable def LPostS (h₀ : Heap) (L : Addr) (s₁ : Shared) (x : Str) (S : List Str) (m₀ : Str → Option Value) (I : Addr) (it : Obj) (J : List (Option Value) → Led → Prop) (Q : Flow → Shared → Prop) (f : Flow) (s₂ : Shared) : Prop :=
  match f with
  | .ret v => Q (.ret v) s₂
  | .brk => Q .next s₂
  | _ => Halt (Ex4 fun h' tk m' N' => And6 (s₂ = { s₁ with heap := h', toks := tk }) (Fr h₀ L h' m') (News h₀ L h' ((I, it) :: N')) ((∀ p ∈ N', p.1 ≠ I)) ((∀ z, z ≠ x → z ∉ S → m' z = m₀ z)) (J (S.map m') N'))
theorem LPostS.intro {L I : Addr} {it : Obj} {S : List Str} {m₀ : Str → Option Value} {J : (Str → Option Value) → Led → Prop} {s₁ : Shared} {h' : Heap} {tk : Nat} {m' : Str → Option Value} {N' : Led} (F : Fr h₀ L h' m') (N : News h₀ L h' N') (hI : (I, it) ∈ N')
    (hm : ∀ z, z ≠ x → z ∉ S → m' z = m₀ z) (j : J m' (wipe I N')) :
    Halt (Ex4 fun h'' tk' m' N' => And6 (({ s₁ with heap := h', toks := tk } : Shared) = { s₁ with heap := h'', toks := tk' }) (Fr h₀ L h'' m') (News h₀ L h'' ((I, it) :: N')) ((∀ p ∈ N', p.1 ≠ I)) ((∀ z, z ≠ x → z ∉ S → m' z = m₀ z)) (J m' N')) :=
  ⟨h', tk, m', wipe I N', rfl, F, News.focus N hI, wipe_ne, hm, j⟩
theorem LPostS.same {L I : Addr} {it : Obj} {S : List Str} {m₀ : Str → Option Value} {J : (Str → Option Value) → Led → Prop} {s₁ : Shared} {h' : Heap} {tk : Nat} {m' : Str → Option Value} {N : Led} (F : Fr h₀ L h' m') (N' : News h₀ L h' ((I, it) :: N)) (off : ∀ p ∈ N, p.1 ≠ I)
    (hm : ∀ z, z ≠ x → z ∉ S → m' z = m₀ z) (j : J m' N) :
    Halt (Ex4 fun h'' tk' m' N' => And6 (({ s₁ with heap := h', toks := tk } : Shared) = { s₁ with heap := h'', toks := tk' }) (Fr h₀ L h'' m') (News h₀ L h'' ((I, it) :: N')) ((∀ p ∈ N', p.1 ≠ I)) ((∀ z, z ≠ x → z ∉ S → m' z = m₀ z)) (J m' N')) :=
  ⟨h', tk, m', N, rfl, F, N', off, hm, j⟩
theorem iter_ledS {L : Addr} {ax : Addr} {lo : Obj} {vs : List Value} {n : Nat} {m₀ : Str → Option Value} {news : Led} (F : Fr h₀ L s.heap m₀) (N : News h₀ L s.heap news) (hm : (ax, lo) ∈ news) (hL : env.locals = L) (hh : A.handled = none) (hc : lo.cls = .type "list") (hd : lo.data = .seq vs.toArray n)
    (S : List Str) (Inv : List (Option Value) → List Value → Led → Prop) (h0 : Inv (S.map m₀) vs news) (hin : ∀ a r N, Inv a r N → (ax, lo) ∈ N)
    (turn : ∀ a v r N I it h tk, Inv a (v :: r) N → (∀ p ∈ N, p.1 ≠ I) → it.cls = .type "list_iterator" → Fr h₀ L h (up x (some v) (ovl (S.zip a) m₀)) → News h₀ L h ((I, it) :: N) →
      wpAny (model prog w) A (execs body env) (LPostS h₀ L { s with heap := h, toks := tk } x S m₀ I it (fun a N => Inv a r N) Q) E { s with heap := h, toks := tk })
    (done : ∀ a u N h tk, Inv a [] N → Fr h₀ L h (up x u (ovl (S.zip a) m₀)) → News h₀ L h N → Q .next { s with heap := h, toks := tk }) :
    Halt (wpAny (model prog w) A (pyIter (.ref ax)) (fun it s₂ => LoopAtV prog w A h₀ env x body Q E it s₂) E s) := by
  have canon : ∀ m : Str → Option Value, (∀ z, z ≠ x → z ∉ S → m z = m₀ z) → m = up x (m x) (ovl (S.zip (S.map m)) m₀) := by
    intro m hm
    have e := ovl_map (x :: S) m m₀ fun z hz => hm z (fun h => hz (by simp [h])) fun h => hz (by simp [h])
    exact e.symm
  refine iter_led F N hm hL hh hc hd (fun r m N => (∀ z, z ≠ x → z ∉ S → m z = m₀ z) ∧ Inv (S.map m) r N) ⟨fun _ _ _ => rfl, h0⟩ (fun r m N h => hin _ r N h.2) ?_ ?_
  · rintro v r m N I it h tk ⟨hm, hI⟩ hne hc F' N'
    have F2 : Fr h₀ L h (up x (some v) (ovl (S.zip (S.map m)) m₀)) := by
      have F3 : Fr h₀ L h (up x (some v) m) := F'
      rw [canon m hm, up_up] at F3
      exact F3
    refine wpAny_mono (turn _ v r N I it h tk hI hne hc F2 N') (fun f s₂ p => ?_) fun _ _ e => e
    cases f with
    | ret v => exact p
    | brk => exact p
    | next =>
      refine letG ?_
      intro kG
      obtain ⟨h', tk', m', N'', e, F'', N3, hne', hm', j⟩ := p
      k_unfold
      clear kG
      exact ⟨h', tk', m', N'', e, F'', N3, hne', hm', j⟩
    | cont =>
      refine letG ?_
      intro kG
      obtain ⟨h', tk', m', N'', e, F'', N3, hne', hm', j⟩ := p
      k_unfold
      clear kG
      exact ⟨h', tk', m', N'', e, F'', N3, hne', hm', j⟩
  · rintro m N h tk ⟨hm, hI⟩ F' N'
    exact done _ (m x) N h tk hI (canon m hm ▸ F') N'
end
section
variable {prog : Program} {w : World} {A : Around} {E : Value → Shared → Prop} {s : Shared} {h₀ : Heap} {L : Addr} {m : Str → Option Value}
theorem extend_led {D b : Addr} {ys : List Value} {n n2 : Nat} {its2 : Array Value} {N : Led} {Q : Value → Shared → Prop}
    (F : Fr h₀ L s.heap m) (n0 : News h₀ L s.heap N) (hm : (D, listOf ys.toArray n) ∈ N) (hb : (b, listOf its2 n2) ∈ N)
    (h : ∀ h' n', Fr h₀ L h' m → News h₀ L h' ((D, listOf (ys ++ its2.toList).toArray n') :: wipe D N) → Q .none { s with heap := h' })
    (hsz : ys.length + its2.size ≤ sizeLine) :
    Halt (wpAny (model prog w) A (call (.builtin "list.extend") [.ref D, .ref b]) Q E s) :=
  extend_in (own := []) (hsz := hsz) F (News.focus n0 hm) (fun _ h => nomatch h) wipe_ne (n0 _ hb).1 fun h' n' F' N' => h h' n' F' N'
theorem extend_refs {D b : Addr} {xs ys : List Addr} {n n2 : Nat} {N : Led} {Q : Value → Shared → Prop}
    (F : Fr h₀ L s.heap m) (n0 : News h₀ L s.heap N) (hm : (D, listOf (refsA xs) n) ∈ N) (hb : (b, listOf (refsA ys) n2) ∈ N)
    (hsz : xs.length + ys.length ≤ sizeLine)
    (h : ∀ h' n', Fr h₀ L h' m → News h₀ L h' ((D, listOf (refsA (xs ++ ys)) n') :: wipe D N) → Q .none { s with heap := h' }) :
    Halt (wpAny (model prog w) A (call (.builtin "list.extend") [.ref D, .ref b]) Q E s) := by
  refine extend_led F n0 hm hb (fun h' n' F' N' => h h' n' F' ?_) (by simpa using hsz)
  have e : (xs.map Value.ref ++ (refsA ys).toList).toArray = refsA (xs ++ ys) := by simp [refsA]
  rw [← e]
  exact N'
theorem add_led {a b : Addr} {xs ys : List Value} {n n2 : Nat} {N : Led} {Q : Value → Shared → Prop} (F : Fr h₀ L s.heap m) (n0 : News h₀ L s.heap N) (ha : (a, listOf xs.toArray n) ∈ N) (hb : (b, listOf ys.toArray n2) ∈ N) (hz : xs.length + ys.length ≤ sizeLine)
    (h : ∀ D h', Fr h₀ L h' m → News h₀ L h' ((D, listOf (xs ++ ys).toArray 0) :: N) → (∀ p ∈ N, p.1 < D) → Q (.ref D) { s with heap := h' }) : Halt (wpAny (model prog w) A (binaryOp .Add (.ref a) (.ref b)) Q E s) :=
  kmk_add_lit F n0 ⟨_, (n0 _ ha).1, rfl, _, rfl⟩ ⟨_, (n0 _ hb).1, rfl, _, rfl⟩ rfl h (by simpa using hz)
end
namespace T
theorem leavesL_append : ∀ (p q : List T), leavesL (p ++ q) = leavesL p ++ leavesL q
  | [], q => by simp [leavesL]
  | a :: p, q => by simp [leavesL, leavesL_append p q]
mutual
theorem leaves_len : ∀ t : T, t.leaves.length ≤ t.sz
  | mk a d l k w h x y ps => by
    have := leavesL_len ps
    cases k <;> simp [leaves, sz] <;> (first | (law_clear; lia) | lia | omega)
theorem leavesL_len : ∀ ps : List T, (leavesL ps).length ≤ szL ps
  | [] => by simp [leavesL]
  | p :: r => by
    have h1 := leaves_len p
    have h2 := leavesL_len r
    simp [leavesL, szL]; (first | (law_clear; lia) | lia | omega)
end
theorem sz_pos (t : T) : 1 ≤ t.sz := by cases t; simp [sz]
theorem lenL : ∀ ps : List T, ps.length ≤ szL ps
  | [] => by simp
  | p :: r => by
    have := lenL r
    have := sz_pos p
    simp [szL]; (first | (law_clear; lia) | lia | omega)
theorem szL_append : ∀ (p q : List T), szL (p ++ q) = szL p + szL q
  | [], q => by simp [szL]
  | a :: p, q => by simp [szL, szL_append p q]; (first | (law_clear; lia) | lia | omega)
theorem InL_mem {w : World} {N : Led} : ∀ {ps : List T}, InL w N ps → ∀ p ∈ ps, p.In w N
  | [], _, _, h => nomatch h
  | q :: r, h, p, hp => by
    rw [InL] at h
    rcases List.mem_cons.mp hp with rfl | hp
    · exact h.1
    · exact InL_mem h.2 p hp
theorem InL_of {w : World} {N : Led} : ∀ {ps : List T}, (∀ p ∈ ps, p.In w N) → InL w N ps
  | [], _ => by rw [InL]; trivial
  | q :: r, h => by rw [InL]; exact ⟨h q (.head _), InL_of fun p hp => h p (.tail _ hp)⟩
mutual
theorem In.to {w : World} {N N' : Led} : ∀ {t : T}, t.In w N → (∀ a ∈ t.fp, ∀ o, (a, o) ∈ N → (a, o) ∈ N') → t.In w N'
  | mk a d l k wd ht x y ps, h, hs => by
    rw [In] at h ⊢
    rw [fp] at hs
    exact ⟨h.1.sub (hs a (by first | exact mem_mid _ _ _ | exact .head _ | exact .tail _ (.head _) | exact .tail _ (.tail _ (.head _)) | simp)) (hs d (by first | exact mem_mid _ _ _ | exact .head _ | exact .tail _ (.head _) | exact .tail _ (.tail _ (.head _)) | simp)) (hs l (by first | exact mem_mid _ _ _ | exact .head _ | exact .tail _ (.head _) | exact .tail _ (.tail _ (.head _)) | simp)), InL.to h.2 fun b hb => hs b (by simp [hb])⟩
theorem InL.to {w : World} {N N' : Led} : ∀ {ps : List T}, InL w N ps → (∀ a ∈ fpL ps, ∀ o, (a, o) ∈ N → (a, o) ∈ N') → InL w N' ps
  | [], _, _ => by rw [InL]; trivial
  | p :: r, h, hs => by
    rw [InL] at h ⊢
    rw [fpL] at hs
    exact ⟨In.to h.1 fun b hb => hs b (by simp [hb]), InL.to h.2 fun b hb => hs b (by simp [hb])⟩
end
theorem In.all {w : World} {N N' : Led} {t : T} (h : t.In w N) (hs : ∀ p ∈ N, p ∈ N') : t.In w N' := h.to fun _ _ _ hm => hs _ hm
theorem InL.all {w : World} {N N' : Led} {ps : List T} (h : InL w N ps) (hs : ∀ p ∈ N, p ∈ N') : InL w N' ps := h.to fun _ _ _ hm => hs _ hm
end T
noncomputable def wipe3 (I C D : Addr) (N : Led) : Led := wipe I (wipe C (wipe D N))
theorem wipe3_off {I C D : Addr} {N : Led} : ∀ p ∈ wipe3 I C D N, p.1 ≠ I ∧ p.1 ≠ C ∧ p.1 ≠ D := by
  intro p hp
  have h1 := wipe_ne _ hp
  have hp := (List.mem_filter.mp hp).1
  have h2 := wipe_ne _ hp
  have hp := (List.mem_filter.mp hp).1
  exact ⟨h1, h2, wipe_ne _ hp⟩
theorem mem_wipe3 {I C D : Addr} {N : Led} {p : Addr × Obj} (h : p ∈ N) (n : p.1 ≠ I ∧ p.1 ≠ C ∧ p.1 ≠ D) : p ∈ wipe3 I C D N := mem_wipe (mem_wipe (mem_wipe h n.2.2) n.2.1) n.1
theorem wipe3_sub {I C D : Addr} {N : Led} : ∀ p ∈ wipe3 I C D N, p ∈ N := fun p hp => (List.mem_filter.mp (List.mem_filter.mp (List.mem_filter.mp hp).1).1).1
section
variable {prog : Program} {w : World} {A : Around} {E : Value → Shared → Prop} {env : Env} {h₀ : Heap} {L : Addr} {m : Str → Option Value}
open LCg in
noncomputable def CPost (h₀ : Heap) (L : Addr) (m : Str → Option Value) (s₁ : Shared) (I : Addr) (oI : Obj) (C : Addr) (oC : Obj) (D : Addr) (oD : Obj) (J : Value → Led → Prop) (y : Value) (s₂ : Shared) : Prop :=
  Halt (Ex3 fun h' tk N' => And5 (s₂ = { s₁ with heap := h', toks := tk }) (Fr h₀ L h' m) (News h₀ L h' ((I, oI) :: (C, oC) :: (D, oD) :: N')) ((∀ p ∈ N', p.1 ≠ I ∧ p.1 ≠ C ∧ p.1 ≠ D)) (J y N'))
theorem CPost.intro {I C D : Addr} {oI oC oD : Obj} {J : Led → Prop} {s₁ : Shared} {h' : Heap} {tk : Nat} {N' : Led} (F : Fr h₀ L h' m) (N : News h₀ L h' N') (hI : (I, oI) ∈ N') (hC : (C, oC) ∈ N') (hD : (D, oD) ∈ N') (j : J (wipe3 I C D N')) :
    Halt (Ex3 fun h'' tk' N' => And5 (({ s₁ with heap := h', toks := tk } : Shared) = { s₁ with heap := h'', toks := tk' }) (Fr h₀ L h'' m) (News h₀ L h'' ((I, oI) :: (C, oC) :: (D, oD) :: N')) ((∀ p ∈ N', p.1 ≠ I ∧ p.1 ≠ C ∧ p.1 ≠ D)) (J N')) :=
  ⟨h', tk, wipe3 I C D N', rfl, F, fun p hp => by
    rcases List.mem_cons.mp hp with rfl | hp
    · exact N _ hI
    · rcases List.mem_cons.mp hp with rfl | hp
      · exact N _ hC
      · rcases List.mem_cons.mp hp with rfl | hp
        · exact N _ hD
        · exact N _ (wipe3_sub _ hp), wipe3_off, j⟩
theorem CPost.same {I C D : Addr} {oI oC oD : Obj} {J : Led → Prop} {s₁ : Shared} {h' : Heap} {tk : Nat} {N : Led} (F : Fr h₀ L h' m) (N' : News h₀ L h' ((I, oI) :: (C, oC) :: (D, oD) :: N)) (off : ∀ p ∈ N, p.1 ≠ I ∧ p.1 ≠ C ∧ p.1 ≠ D) (j : J N) :
    Halt (Ex3 fun h'' tk' N' => And5 (({ s₁ with heap := h', toks := tk } : Shared) = { s₁ with heap := h'', toks := tk' }) (Fr h₀ L h'' m) (News h₀ L h'' ((I, oI) :: (C, oC) :: (D, oD) :: N')) ((∀ p ∈ N', p.1 ≠ I ∧ p.1 ≠ C ∧ p.1 ≠ D)) (J N')) := ⟨h', tk, N, rfl, F, N', off, j⟩
open LCg in
theorem compRest_of {elt : Expr} {x : Str} {scope : Scope} {cl : List (Str × Addr)} {s : Shared} {S : Led → Prop} {its : List Value} {Fin : List Value → Led → Prop}
    (Inv : List Value → List Value → Led → Prop) (hin : ∀ r ys N, Inv r ys N → S N)
    (turn : ∀ v r ys N I oI C oC D m₂ h tk E', Inv (v :: r) ys N → NsObj oC m₂ → m₂ x = some v → Fr h₀ L h m → News h₀ L h ((I, oI) :: (C, oC) :: (D, lst ys) :: N) → (∀ p ∈ N, p.1 ≠ I ∧ p.1 ≠ C ∧ p.1 ≠ D) → (I ≠ C ∧ I ≠ D ∧ C ≠ D) →
      wpAny (model prog w) A (eval elt (compEnvC scope cl C env)) (CPost h₀ L m { s with heap := h, toks := tk } I oI C oC D (lst ys) (fun y N' => Inv r (ys ++ [y]) N')) E' { s with heap := h, toks := tk })
    (done : ∀ ys N, Inv [] ys N → Fin ys N) :
    ∀ k i ys N, i + k = its.length → Inv (its.drop i) ys N → CompRest prog w A h₀ L m env elt x scope cl s S (fun i v => its.toArray[i]? = some v) Fin k i ys N := by
  intro k
  induction k with
  | zero =>
    intro i ys N hk hI
    rw [List.drop_eq_nil_of_le (by (first | (law_clear; lia) | lia | omega))] at hI
    exact CompRest.zero (done ys N hI)
  | succ k ih =>
    intro i ys N hk hI
    refine CompRest.succ fun v I oI C oC D m₂ h tk E' hv hC hx F N' off ne => ?_
    have hlt : i < its.length := by (first | (law_clear; lia) | lia | omega)
    have hv' : its[i] = v := by
      have : its[i]? = some v := by simpa using hv
      rw [List.getElem?_eq_getElem hlt] at this
      exact Option.some.inj this
    rw [List.drop_eq_getElem_cons hlt, hv'] at hI
    refine wpAny_mono (turn v _ ys N I oI C oC D m₂ h tk E' hI hC hx F N' off.mem ne) (fun y s₂ p => ?_) fun _ _ e => e
    refine letG ?_
    intro kG
    obtain ⟨h', tk', N'', e, F', N3, off', j⟩ := p
    k_unfold
    clear kG
    exact ⟨h', tk', N'', e, F', N3, Off3.of off', hin _ _ _ j, ih (i + 1) _ _ (by (first | (law_clear; lia) | lia | omega)) j⟩
open LCg in
theorem comp_led {elt : Expr} {x : Str} {scope : Scope} {cl : List (Str × Addr)} {Fin : Shared → List Value → Led → Prop} {ax : Addr} {its : List Value} {k : Nat} {news : Led} {s₁ : Shared}
    (hh : A.handled = none) (F : Fr h₀ L s₁.heap m) (N : News h₀ L s₁.heap news) (hm : (ax, listOf its.toArray k) ∈ news) (hsz : its.length ≤ sizeLine)
    (Inv : List Value → List Value → Led → Prop) (h0 : Inv its [] news) (hin : ∀ r ys N, Inv r ys N → (ax, listOf its.toArray k) ∈ N)
    (turn : ∀ v r ys N I oI C oC D m₂ h tk E', Inv (v :: r) ys N → NsObj oC m₂ → m₂ x = some v → Fr h₀ L h m → News h₀ L h ((I, oI) :: (C, oC) :: (D, lst ys) :: N) → (∀ p ∈ N, p.1 ≠ I ∧ p.1 ≠ C ∧ p.1 ≠ D) → (I ≠ C ∧ I ≠ D ∧ C ≠ D) →
      wpAny (model prog w) A (eval elt (compEnvC scope cl C env)) (CPost h₀ L m { s₁ with heap := h, toks := tk } I oI C oC D (lst ys) (fun y N' => Inv r (ys ++ [y]) N')) E' { s₁ with heap := h, toks := tk })
    (done : ∀ ys N g, Inv [] ys N → Fin { s₁ with heap := g } ys N) : Halt (CompSrc prog w A h₀ L m env elt x scope cl Fin (.ref ax) s₁) :=
  CompSrc.ledger hh F N hm (by simpa using hsz) fun g => by
    have := compRest_of (prog := prog) (w := w) (A := A) (env := env) (h₀ := h₀) (L := L) (m := m) (elt := elt) (x := x) (scope := scope) (cl := cl) (s := { s₁ with heap := g }) (S := SrcAt h₀ ax its.toArray) (its := its) (Fin := Fin { s₁ with heap := g }) Inv
      (fun r ys N h => .inr ⟨_, hin _ _ _ h, rfl, _, rfl⟩) turn (fun ys N h => done ys N g h) its.length 0 [] news (by (first | (law_clear; lia) | lia | omega)) (by simpa using h0)
    simpa using this
end
theorem off1_mem {D : Addr} : ∀ {l : Led}, LCg.Off1 D l → ∀ p ∈ l, p.1 ≠ D
  | [], _, _, h => nomatch h
  | _ :: _, x, p, h => by
    rcases List.mem_cons.mp h with rfl | h
    · exact x.1
    · exact off1_mem x.2 p h
theorem handed_kind (k : K) (t : Tok) : handedIn (kindV k t) = true := by cases k <;> rfl
theorem handed_pane (k : K) (t : Tok) : handedIn (paneV k t) = true := by cases k <;> rfl
namespace T
mutual
theorem In.has {w : World} {N : Led} : ∀ {t : T}, t.In w N → ∀ a ∈ t.fp, ∃ o, (a, o) ∈ N
  | mk a d l k wd ht x y ps, h, b, hb => by
    rw [In] at h
    rw [fp] at hb
    refine letG ?_
    intro kG
    obtain ⟨⟨t1, t2, t3, t4, t5, t6, t7, tk, tw, th, tx, ty, tp, e, ha, hdd, hl⟩, tl⟩ := h
    k_unfold
    clear kG
    rcases List.mem_cons.mp hb with rfl | hb
    · exact ⟨_, ha⟩
    rcases List.mem_cons.mp hb with rfl | hb
    · exact ⟨_, hdd⟩
    rcases List.mem_cons.mp hb with rfl | hb
    · exact ⟨_, hl⟩
    exact InL.has tl b hb
theorem InL.has {w : World} {N : Led} : ∀ {ps : List T}, InL w N ps → ∀ a ∈ fpL ps, ∃ o, (a, o) ∈ N
  | [], _, b, hb => by simp [fpL] at hb
  | p :: r, h, b, hb => by
    rw [InL] at h
    rw [fpL] at hb
    rcases List.mem_append.mp hb with hb | hb
    · exact In.has h.1 b hb
    · exact InL.has h.2 b hb
end
theorem fpL_append : ∀ (p q : List T), fpL (p ++ q) = fpL p ++ fpL q
  | [], q => by simp [fpL]
  | a :: p, q => by simp [fpL, fpL_append p q]
theorem erL_append : ∀ (p q : List T), erL (p ++ q) = erL p ++ erL q
  | [], q => by simp [erL]
  | a :: p, q => by simp [erL, erL_append p q]
theorem InL_append {w : World} {N : Led} {p q : List T} (h1 : InL w N p) (h2 : InL w N q) : InL w N (p ++ q) := InL_of fun x hx => (List.mem_append.mp hx).elim (InL_mem h1 x) (InL_mem h2 x)
theorem erL_length : ∀ ps : List T, (erL ps).length = ps.length
  | [] => rfl
  | p :: r => by simp [erL, erL_length r]
theorem fpL_flat : ∀ ps : List T, fpL ps = (ps.map fp).flatten
  | [] => by simp [fpL]
  | p :: r => by simp [fpL, fpL_flat r]
theorem fp_adr (t : T) : t.fp.headD 0 = t.adr := by cases t; simp [fp, adr]
theorem adr_mem (t : T) : t.adr ∈ t.fp := by cases t; simp [fp, adr]
theorem map_fp {a b : List T} (h : a.map fp = b.map fp) : fpL a = fpL b ∧ a.map adr = b.map adr := by
  refine ⟨by rw [fpL_flat, fpL_flat, h], ?_⟩
  have e : ∀ c : List T, c.map adr = (c.map fp).map (fun l => l.headD 0) := fun c => by
    rw [List.map_map]
    exact List.map_congr_left fun t _ => (fp_adr t).symm
  rw [e, e, h]
theorem InL_split {w : World} {N : Led} {a b : List T} (h : InL w N (a ++ b)) : InL w N a ∧ InL w N b :=
  ⟨InL_of fun p hp => InL_mem h p (List.mem_append_left _ hp), InL_of fun p hp => InL_mem h p (List.mem_append_right _ hp)⟩
theorem InL_replace {w : World} {N N' : Led} {dn rp : List T} {q q' : T} (h : InL w N (dn ++ q :: rp)) (nd : (fpL (dn ++ q :: rp)).Nodup) (h' : q'.In w N') (keep : ∀ p ∈ N, p.1 ∉ q.fp → p ∈ N') : InL w N' (dn ++ q' :: rp) := by
  rw [fpL_append, fpL] at nd
  have n1 := List.nodup_append.mp nd
  have n2 := List.nodup_append.mp n1.2.1
  have h1 := InL_split h
  have h2 := h1.2
  rw [InL] at h2
  refine InL_append (h1.1.to fun a ha o hm => keep _ hm fun hq => n1.2.2 a ha a (List.mem_append_left _ hq) rfl) ?_
  rw [InL]
  exact ⟨h', h2.2.to fun a ha o hm => keep _ hm fun hq => n2.2.2 a hq a ha rfl⟩
end T
noncomputable def New (N : Led) (a : Addr) : Prop := ∀ q ∈ N, q.1 ≠ a
theorem New.sub {N N' : Led} {a : Addr} (h : New N' a) (hs : ∀ p ∈ N, p ∈ N') : New N a := fun q hq => h q (hs q hq)
inductive Made (w : World) (N N' : Led) (t : T) : Prop
  | intro (h1 : t.In w N') (h2 : ∀ a ∈ t.fp, New N a) (h3 : t.fp.Nodup) (h4 : ∀ p ∈ N, p ∈ N')
section
variable {prog : Program} {w : World} {A : Around} {E : Value → Shared → Prop} {s : Shared} {env : Env} {h₀ : Heap} {target : Expr} {body : List Stmt} {Q : Flow → Shared → Prop}
noncomputable def PPost (h₀ : Heap) (L : Addr) (s₁ : Shared) (S : List Str) (m₀ : Str → Option Value) (its : Led) (J : List (Option Value) → Led → Prop) (Q : Flow → Shared → Prop) (f : Flow) (s₂ : Shared) : Prop :=
  match f with
  | .ret v => Q (.ret v) s₂
  | .brk => Q .next s₂
  | _ => Halt (Ex4 fun h' tk m' N' => And6 (s₂ = { s₁ with heap := h', toks := tk }) (Fr h₀ L h' m') (News h₀ L h' (its ++ N')) ((∀ p ∈ N', ∀ q ∈ its, p.1 ≠ q.1)) ((∀ z, z ∉ S → m' z = m₀ z)) (J (S.map m') N'))
theorem PPost.same {L : Addr} {its : Led} {S : List Str} {m₀ : Str → Option Value} {J : (Str → Option Value) → Led → Prop} {s₁ : Shared} {h' : Heap} {tk : Nat} {m' : Str → Option Value} {N : Led} (F : Fr h₀ L h' m') (N' : News h₀ L h' (its ++ N)) (off : ∀ p ∈ N, ∀ q ∈ its, p.1 ≠ q.1)
    (hm : ∀ z, z ∉ S → m' z = m₀ z) (j : J m' N) :
    Halt (Ex4 fun h'' tk' m' N' => And6 (({ s₁ with heap := h', toks := tk } : Shared) = { s₁ with heap := h'', toks := tk' }) (Fr h₀ L h'' m') (News h₀ L h'' (its ++ N')) ((∀ p ∈ N', ∀ q ∈ its, p.1 ≠ q.1)) ((∀ z, z ∉ S → m' z = m₀ z)) (J m' N')) :=
  ⟨h', tk, m', N, rfl, F, N', off, hm, j⟩
theorem itemsRest_of {L : Addr} (hL : env.locals = L) {ws : List (Addr × String)} {keep : Led} (S : List Str) (m₀ : Str → Option Value) (Inv : List (Option Value) → List Itm → Led → Prop) (hk : ∀ a r N, Inv a r N → SubL keep N)
    (turn : ∀ a x r N v h tk its, Inv a (x :: r) N → x.Is v h → (∀ p ∈ N, ∀ q ∈ its, p.1 ≠ q.1) → Fr h₀ L h (ovl (S.zip a) m₀) → News h₀ L h (its ++ N) →
      wpAny (model prog w) A (assign target env v) (fun _ s₂ => wpAny (model prog w) A (execs body env) (PPost h₀ L { s with heap := h, toks := tk } S m₀ its (fun a N => Inv a r N) Q) E s₂) E { s with heap := h, toks := tk })
    (done : ∀ a N h tk, Inv a [] N → Fr h₀ L h (ovl (S.zip a) m₀) → News h₀ L h N → Q .next { s with heap := h, toks := tk }) :
    ∀ xs m N, (∀ z, z ∉ S → m z = m₀ z) → Inv (S.map m) xs N → (∀ p ∈ N, ∀ q ∈ ws, p.1 ≠ q.1) → ItemsRest prog w A E h₀ env target body Q s ws keep xs m N := by
  subst hL
  intro xs
  induction xs with
  | nil =>
    intro m N hm hI _
    exact ItemsRest.zero fun h tk F N' => done _ N h tk hI ((ovl_map S m m₀ hm).symm ▸ F) N'
  | cons x r ih =>
    intro m N hm hI hoff v h tk hv F
    have F2 : Fr h₀ env.locals h (ovl (S.zip (S.map m)) m₀) := (ovl_map S m m₀ hm).symm ▸ F
    have all : ∀ (ws' : List (Addr × String)) (k : Led → Prop), (∀ its, its.map (·.1) = ws'.map (·.1) → k its) → AllObj ws' k := by
      intro ws'
      induction ws' with
      | nil => intro k hk; exact hk [] rfl
      | cons w' r' ih' => intro k hk o _; exact ih' _ fun its e => hk _ (by simp [e])
    refine all ws _ fun its hits N' => ?_
    have hoff' : ∀ p ∈ N, ∀ q ∈ its, p.1 ≠ q.1 := fun p hp q hq => by
      have h1 : q.1 ∈ its.map (·.1) := List.mem_map.mpr ⟨q, hq, rfl⟩
      rw [hits] at h1
      refine letG ?_
      intro kG
      obtain ⟨q', hq', e⟩ := List.mem_map.mp h1
      k_unfold
      clear kG
      rw [← e]
      exact hoff p hp q' hq'
    refine wpAny_mono (turn _ x r N v h tk its hI hv hoff' F2 N') (fun _ s₂ h₂ => wpAny_mono h₂ (fun f s₃ p => ?_) fun _ _ e => e) fun _ _ e => e
    have back : ∀ {N'' : Led}, (∀ p ∈ N'', ∀ q ∈ its, p.1 ≠ q.1) → ∀ p ∈ N'', ∀ q ∈ ws, p.1 ≠ q.1 := fun ho p hp q hq => by
      have h1 : q.1 ∈ ws.map (·.1) := List.mem_map.mpr ⟨q, hq, rfl⟩
      rw [← hits] at h1
      refine letG ?_
      intro kG
      obtain ⟨q', hq', e⟩ := List.mem_map.mp h1
      k_unfold
      clear kG
      rw [← e]
      exact ho p hp q' hq'
    cases f with
    | ret v => exact p
    | brk => exact p
    | next =>
      refine letG ?_
      intro kG
      obtain ⟨h', tk', m', N'', e, F'', N3, hne', hm', j⟩ := p
      k_unfold
      clear kG
      exact ⟨h', tk', m', N'', e, F'', N3, hne', hk _ _ _ j, ih m' N'' hm' j (back hne')⟩
    | cont =>
      refine letG ?_
      intro kG
      obtain ⟨h', tk', m', N'', e, F'', N3, hne', hm', j⟩ := p
      k_unfold
      clear kG
      exact ⟨h', tk', m', N'', e, F'', N3, hne', hk _ _ _ j, ih m' N'' hm' j (back hne')⟩
theorem enum_led {L : Addr} {elts : List Expr} {k : Nat} {pos : Pos} {l : Addr} {lo : Obj} {vs : List Value} {n : Nat} {m₀ : Str → Option Value} {news : Led}
    (F : Fr h₀ L s.heap m₀) (N : News h₀ L s.heap news) (hm : (l, lo) ∈ news) (hL : env.locals = L) (hh : A.handled = none) (hc : lo.cls = .type "list") (hd : lo.data = .seq vs.toArray n)
    (S : List Str) (Inv : List (Option Value) → Nat → List Value → Led → Prop) (h0 : Inv (S.map m₀) 0 vs news) (hin : ∀ a i r N, Inv a i r N → (l, lo) ∈ N)
    (turn : ∀ a i v r N its T t h tk, Inv a i (v :: r) N → IsTup h T #[.int i t, v] → (∀ p ∈ N, ∀ q ∈ its, p.1 ≠ q.1) → Fr h₀ L h (ovl (S.zip a) m₀) → News h₀ L h (its ++ N) →
      wpAny (model prog w) A (assign (.Tuple elts k pos) env (.ref T)) (fun _ s₂ => wpAny (model prog w) A (execs body env) (PPost h₀ L { s with heap := h, toks := tk } S m₀ its (fun a N => Inv a (i + 1) r N) Q) E s₂) E { s with heap := h, toks := tk })
    (done : ∀ a i N h tk, Inv a i [] N → Fr h₀ L h (ovl (S.zip a) m₀) → News h₀ L h N → Q .next { s with heap := h, toks := tk }) :
    Halt (wpAny (model prog w) A (call (.type "enumerate") [.ref l]) (fun xv s₁ => wpAny (model prog w) A (pyIter xv) (fun it s₂ => TurnsAt prog w A h₀ env (.Tuple elts k pos) body Q E it s₂) E s₁) E s) := by
  subst hL
  refine ktu_enum hh F N hm hc hd rfl fun I hI => ?_
  refine itemsRest_of rfl S m₀ (fun a xs N => Ex2 fun i r => xs = enumItems i r ∧ Inv a i r N) (fun a r N h => ?_) ?_ ?_ _ m₀ news (fun _ _ => rfl) ⟨0, vs, rfl, h0⟩ ?_
  · refine letG ?_
    intro kG
    obtain ⟨i, r, _, h⟩ := h
    k_unfold
    clear kG
    exact ⟨hin _ _ _ _ h, trivial⟩
  · rintro a x r N v h tk its ⟨i, r', e, hI'⟩ hv hoff F' N'
    cases r' with
    | nil => simp [enumItems] at e
    | cons v' r' =>
      simp only [enumItems, List.cons.injEq] at e
      obtain ⟨rfl, rfl⟩ := e
      refine letG ?_
      intro kG
      obtain ⟨T, t, rfl, hT⟩ := hv
      k_unfold
      clear kG
      refine wpAny_mono (turn a i v' r' N its T t h tk hI' hT hoff F' N') (fun _ s₂ h₂ => wpAny_mono h₂ (fun f s₃ p => ?_) fun _ _ e => e) fun _ _ e => e
      cases f with
      | ret v => exact p
      | brk => exact p
      | next =>
        refine letG ?_
        intro kG
        obtain ⟨h', tk', m', N'', e, F'', N3, hne', hm', j⟩ := p
        k_unfold
        clear kG
        exact ⟨h', tk', m', N'', e, F'', N3, hne', hm', _, _, rfl, j⟩
      | cont =>
        refine letG ?_
        intro kG
        obtain ⟨h', tk', m', N'', e, F'', N3, hne', hm', j⟩ := p
        k_unfold
        clear kG
        exact ⟨h', tk', m', N'', e, F'', N3, hne', hm', _, _, rfl, j⟩
  · rintro a N h tk ⟨i, r', e, hI'⟩ F' N'
    cases r' with
    | nil => exact done a i N h tk hI' F' N'
    | cons v' r' => simp [enumItems] at e
  · intro p hp q hq
    have := hI p hp
    rcases List.mem_cons.mp hq with rfl | hq
    · exact Nat.ne_of_lt (Nat.lt_succ_of_lt this)
    · rcases List.mem_cons.mp hq with rfl | hq
      · exact Nat.ne_of_lt this
      · cases hq
theorem zip_led {L : Addr} {elts : List Expr} {k : Nat} {pos : Pos} {l1 l2 : Addr} {lo1 lo2 : Obj} {xs ys : List Value} {n1 n2 : Nat} {m₀ : Str → Option Value} {news : Led}
    (F : Fr h₀ L s.heap m₀) (N : News h₀ L s.heap news) (hm1 : (l1, lo1) ∈ news) (hm2 : (l2, lo2) ∈ news) (hL : env.locals = L) (hh : A.handled = none) (hc1 : lo1.cls = .type "list") (hd1 : lo1.data = .seq xs.toArray n1) (hc2 : lo2.cls = .type "list") (hd2 : lo2.data = .seq ys.toArray n2)
    (S : List Str) (Inv : List (Option Value) → List Value → List Value → Led → Prop) (h0 : Inv (S.map m₀) xs ys news) (hin : ∀ a r q N, Inv a r q N → (l1, lo1) ∈ N ∧ (l2, lo2) ∈ N)
    (turn : ∀ a x r y q N its T h tk, Inv a (x :: r) (y :: q) N → IsTup h T #[x, y] → (∀ p ∈ N, ∀ q ∈ its, p.1 ≠ q.1) → Fr h₀ L h (ovl (S.zip a) m₀) → News h₀ L h (its ++ N) →
      wpAny (model prog w) A (assign (.Tuple elts k pos) env (.ref T)) (fun _ s₂ => wpAny (model prog w) A (execs body env) (PPost h₀ L { s with heap := h, toks := tk } S m₀ its (fun a N => Inv a r q N) Q) E s₂) E { s with heap := h, toks := tk })
    (done : ∀ a r q N h tk, Inv a r q N → r = [] ∨ q = [] → Fr h₀ L h (ovl (S.zip a) m₀) → News h₀ L h N → Q .next { s with heap := h, toks := tk }) :
    Halt (wpAny (model prog w) A (call (.type "zip") [.ref l1, .ref l2]) (fun xv s₁ => wpAny (model prog w) A (pyIter xv) (fun it s₂ => TurnsAt prog w A h₀ env (.Tuple elts k pos) body Q E it s₂) E s₁) E s) := by
  subst hL
  refine ktu_zip hh F N hm1 hc1 hd1 hm2 hc2 hd2 fun I hI => ?_
  refine itemsRest_of rfl S m₀ (fun a xs N => Ex2 fun r q => xs = zipItems r q ∧ Inv a r q N) (fun a r N h => ?_) ?_ ?_ _ m₀ news (fun _ _ => rfl) ⟨xs, ys, rfl, h0⟩ ?_
  · refine letG ?_
    intro kG
    obtain ⟨r, q, _, h⟩ := h
    k_unfold
    clear kG
    exact ⟨(hin _ _ _ _ h).1, (hin _ _ _ _ h).2, trivial⟩
  · rintro a x r N v h tk its ⟨r', q', e, hI'⟩ hv hoff F' N'
    cases r' with
    | nil => simp [zipItems] at e
    | cons x' r' =>
      cases q' with
      | nil => simp [zipItems] at e
      | cons y' q' =>
        simp only [zipItems, List.cons.injEq] at e
        obtain ⟨rfl, rfl⟩ := e
        refine letG ?_
        intro kG
        obtain ⟨T, t, rfl, hT⟩ := hv
        k_unfold
        clear kG
        refine wpAny_mono (turn a x' r' y' q' N its T h tk hI' hT hoff F' N') (fun _ s₂ h₂ => wpAny_mono h₂ (fun f s₃ p => ?_) fun _ _ e => e) fun _ _ e => e
        cases f with
        | ret v => exact p
        | brk => exact p
        | next =>
          refine letG ?_
          intro kG
          obtain ⟨h', tk', m', N'', e, F'', N3, hne', hm', j⟩ := p
          k_unfold
          clear kG
          exact ⟨h', tk', m', N'', e, F'', N3, hne', hm', _, _, rfl, j⟩
        | cont =>
          refine letG ?_
          intro kG
          obtain ⟨h', tk', m', N'', e, F'', N3, hne', hm', j⟩ := p
          k_unfold
          clear kG
          exact ⟨h', tk', m', N'', e, F'', N3, hne', hm', _, _, rfl, j⟩
  · rintro a N h tk ⟨r', q', e, hI'⟩ F' N'
    refine done a r' q' N h tk hI' ?_ F' N'
    cases r' with
    | nil => exact .inl rfl
    | cons x' r' =>
      cases q' with
      | nil => exact .inr rfl
      | cons y' q' => simp [zipItems] at e
  · intro p hp q hq
    have := hI p hp
    have lt : ∀ k, p.1 ≠ I + k := fun k => ktu_ne k this
    simp only [List.mem_cons, List.not_mem_nil, or_false] at hq
    rcases hq with rfl | rfl | rfl | rfl | rfl
    · exact lt 4
    · exact lt 2
    · exact lt 3
    · exact lt 0
    · exact lt 1
end
section
variable {prog : Program} {w : World} {A : Around} {E : Value → Shared → Prop} {s : Shared} {env : Env} {h₀ : Heap} {L : Addr} {body : List Stmt} {Q : Flow → Shared → Prop}
noncomputable def WPost (h₀ : Heap) (L : Addr) (s₁ : Shared) (S : List Str) (m₀ : Str → Option Value) (J : List (Option Value) → Led → Prop) (Q : Flow → Shared → Prop) (f : Flow) (s₂ : Shared) : Prop :=
  match f with
  | .ret v => Q (.ret v) s₂
  | .brk => Q .next s₂
  | _ => Halt (Ex4 fun h' tk m' N' => And5 (s₂ = { s₁ with heap := h', toks := tk }) (Fr h₀ L h' m') (News h₀ L h' N') ((∀ z, z ∉ S → m' z = m₀ z)) (J (S.map m') N'))
theorem WPost.intro {S : List Str} {m₀ : Str → Option Value} {J : (Str → Option Value) → Led → Prop} {s₁ : Shared} {h' : Heap} {tk : Nat} {m' : Str → Option Value} {N : Led} (F : Fr h₀ L h' m') (N' : News h₀ L h' N)
    (hm : ∀ z, z ∉ S → m' z = m₀ z) (j : J m' N) :
    Halt (Ex4 fun h'' tk' m' N' => And5 (({ s₁ with heap := h', toks := tk } : Shared) = { s₁ with heap := h'', toks := tk' }) (Fr h₀ L h'' m') (News h₀ L h'' N') ((∀ z, z ∉ S → m' z = m₀ z)) (J m' N')) :=
  ⟨h', tk, m', N, rfl, F, N', hm, j⟩
theorem while_led {test : Expr} {pos : Pos} {m₀ : Str → Option Value} {news : Led} {n₀ : Nat} (F : Fr h₀ L s.heap m₀) (N : News h₀ L s.heap news)
    (S : List Str) (Inv : Nat → List (Option Value) → Led → Prop) (h0 : Inv n₀ (S.map m₀) news)
    (turn : ∀ n a N h tk, Inv n a N → Fr h₀ L h (ovl (S.zip a) m₀) → News h₀ L h N →
      wpAny (model prog w) A (isTrue test env (eval test env)) (fun b s₂ => if b = true then wpAny (model prog w) A (execs body env) (WPost h₀ L s S m₀ (fun a N => ∃ k, k < n ∧ Inv k a N) Q) E s₂ else Q .next s₂) E { s with heap := h, toks := tk })
    (hE : PassesOwn (model prog w) A env E := by passes_own) :
    Halt (wpAny (model prog w) A (exec (.While test body [] pos) env) Q E s) := by
  refine While_inv2 (fun n m N => (∀ z, z ∉ S → m z = m₀ z) ∧ Inv n (S.map m) N) F N ⟨fun _ _ => rfl, h0⟩ ?_ hE
  rintro n m₁ N₁ h₁ tk₁ F₁ N₁' ⟨hm, hI⟩
  refine wpAny_mono (turn n _ N₁ h₁ tk₁ hI ((ovl_map S m₁ m₀ hm).symm ▸ F₁) N₁') (fun b s₂ p => ?_) fun _ _ x => x
  cases b with
  | false => simpa using p
  | true =>
    simp only [if_true] at p ⊢
    refine wpAny_mono p (fun f s₃ q => ?_) fun _ _ x => x
    cases f with
    | ret v => exact q
    | brk => exact q
    | next =>
      refine letG ?_
      intro kG
      obtain ⟨h', tk', m', N', rfl, F', N2, hm', k, hk, hI'⟩ := q
      k_unfold
      clear kG
      exact ⟨h', tk', m', N', k, rfl, F', N2, hk, hm', hI'⟩
    | cont =>
      refine letG ?_
      intro kG
      obtain ⟨h', tk', m', N', rfl, F', N2, hm', k, hk, hI'⟩ := q
      k_unfold
      clear kG
      exact ⟨h', tk', m', N', k, rfl, F', N2, hk, hm', hI'⟩
end
noncomputable abbrev sideK (r : Bool) : K := if r then .row else .col
namespace P
noncomputable def kin : P → K | mk k _ _ _ => k
noncomputable def wid : P → Int | mk _ w _ _ => w
noncomputable def hei : P → Int | mk _ _ h _ => h
noncomputable def par : P → List P | mk _ _ _ ps => ps
mutual
noncomputable def growF (r : Bool) (m : Nat) : P → P
  | mk k w h ps => mk k (if r then w + m else w) (if r then h else h + m) (if k = sideK r then growFH r m ps else growFA r m ps)
noncomputable def growFH (r : Bool) (m : Nat) : List P → List P
  | [] => []
  | p :: q => growF r m p :: q
noncomputable def growFA (r : Bool) (m : Nat) : List P → List P
  | [] => []
  | p :: q => growF r m p :: growFA r m q
end
noncomputable def cnt (m len i : Nat) : Nat := m / len + (if i < m % len then 1 else 0)
noncomputable def deal (r : Bool) (m len : Nat) : Nat → List P → List P
  | _, [] => []
  | i, p :: q => growF r (cnt m len i) p :: deal r m len (i + 1) q
mutual
noncomputable def grow (r : Bool) (m : Nat) : P → P
  | mk k w h ps => mk k (if r then w + m else w) (if r then h else h + m) (if k = sideK r then deal r m ps.length 0 ps else growA r m ps)
noncomputable def growA (r : Bool) (m : Nat) : List P → List P
  | [] => []
  | p :: q => grow r m p :: growA r m q
end
mutual
theorem growF_zero (r : Bool) : ∀ p : P, growF r 0 p = p
  | mk k w h ps => by
    rw [growF]
    have h1 := growFH_zero r ps
    have h2 := growFA_zero r ps
    by_cases hk : k = sideK r <;> cases r <;> simp_all
theorem growFH_zero (r : Bool) : ∀ ps : List P, growFH r 0 ps = ps
  | [] => rfl
  | p :: q => by rw [growFH, growF_zero]
theorem growFA_zero (r : Bool) : ∀ ps : List P, growFA r 0 ps = ps
  | [] => rfl
  | p :: q => by rw [growFA, growF_zero, growFA_zero r q]
end
mutual
theorem growF_succ (r : Bool) (c : Nat) : ∀ p : P, growF r 1 (growF r c p) = growF r (c + 1) p
  | mk k w h ps => by
    rw [growF, growF, growF]
    have h1 := growFH_succ r c ps
    have h2 := growFA_succ r c ps
    by_cases hk : k = sideK r
    · simp only [hk, if_true, h1]
      cases r <;> simp <;> (first | (law_clear; lia) | lia | omega)
    · simp only [hk, if_false, h2]
      cases r <;> simp <;> (first | (law_clear; lia) | lia | omega)
theorem growFH_succ (r : Bool) (c : Nat) : ∀ ps : List P, growFH r 1 (growFH r c ps) = growFH r (c + 1) ps
  | [] => rfl
  | p :: q => by rw [growFH, growFH, growFH, growF_succ]
theorem growFA_succ (r : Bool) (c : Nat) : ∀ ps : List P, growFA r 1 (growFA r c ps) = growFA r (c + 1) ps
  | [] => rfl
  | p :: q => by rw [growFA, growFA, growFA, growF_succ, growFA_succ r c q]
end
theorem deal_append (r : Bool) (m len : Nat) : ∀ (a b : List P) (i : Nat), deal r m len i (a ++ b) = deal r m len i a ++ deal r m len (i + a.length) b
  | [], b, i => by simp [deal]
  | p :: a, b, i => by
    rw [List.cons_append, deal, deal, deal_append r m len a b (i + 1)]
    have e : i + 1 + a.length = i + (p :: a).length := by simp; (first | (law_clear; lia) | lia | omega)
    rw [e]
    rfl
theorem deal_length (r : Bool) (m len : Nat) : ∀ (a : List P) (i : Nat), (deal r m len i a).length = a.length
  | [], _ => rfl
  | _ :: a, i => by rw [deal, List.length_cons, List.length_cons, deal_length r m len a (i + 1)]
theorem cnt_succ_ne {j len i : Nat} (hi : i < len) (hne : i ≠ j % len) : cnt (j + 1) len i = cnt j len i := by
  have hl : 0 < len := Nat.lt_of_le_of_lt (Nat.zero_le _) hi
  have hr := Nat.mod_lt j hl
  have e : j + 1 = len * (j / len) + (j % len + 1) := by have := Nat.div_add_mod j len; (first | (law_clear; lia) | lia | omega)
  unfold cnt
  by_cases hc : j % len + 1 < len
  · have e1 : (j + 1) / len = j / len := by rw [e, Nat.mul_add_div hl, Nat.div_eq_of_lt hc]; (first | (law_clear; lia) | lia | omega)
    have e2 : (j + 1) % len = j % len + 1 := by rw [e, Nat.mul_add_mod, Nat.mod_eq_of_lt hc]
    rw [e1, e2]
    by_cases h : i < j % len
    · simp [h, Nat.lt_succ_of_lt h]
    · have : ¬ i < j % len + 1 := by (first | (law_clear; lia) | lia | omega)
      simp [h, this]
  · have hc' : j % len + 1 = len := by (first | (law_clear; lia) | lia | omega)
    have e1 : (j + 1) / len = j / len + 1 := by rw [e, hc', Nat.mul_add_div hl, Nat.div_self hl]
    have e2 : (j + 1) % len = 0 := by rw [e, hc', Nat.mul_add_mod, Nat.mod_self]
    rw [e1, e2]
    have : i < j % len := by (first | (law_clear; lia) | lia | omega)
    simp [this]
theorem cnt_succ_eq {j len : Nat} (hl : 0 < len) : cnt (j + 1) len (j % len) = cnt j len (j % len) + 1 := by
  have hr := Nat.mod_lt j hl
  have e : j + 1 = len * (j / len) + (j % len + 1) := by have := Nat.div_add_mod j len; (first | (law_clear; lia) | lia | omega)
  unfold cnt
  by_cases hc : j % len + 1 < len
  · have e1 : (j + 1) / len = j / len := by rw [e, Nat.mul_add_div hl, Nat.div_eq_of_lt hc]; (first | (law_clear; lia) | lia | omega)
    have e2 : (j + 1) % len = j % len + 1 := by rw [e, Nat.mul_add_mod, Nat.mod_eq_of_lt hc]
    rw [e1, e2]
    simp
  · have hc' : j % len + 1 = len := by (first | (law_clear; lia) | lia | omega)
    have e1 : (j + 1) / len = j / len + 1 := by rw [e, hc', Nat.mul_add_div hl, Nat.div_self hl]
    have e2 : (j + 1) % len = 0 := by rw [e, hc', Nat.mul_add_mod, Nat.mod_self]
    rw [e1, e2]
    simp
theorem deal_same {r : Bool} {j len : Nat} : ∀ (a : List P) (i : Nat), i + a.length ≤ len → (∀ x, i ≤ x → x < i + a.length → x ≠ j % len) → deal r (j + 1) len i a = deal r j len i a
  | [], _, _, _ => rfl
  | p :: a, i, hl, h => by
    rw [List.length_cons] at hl h
    rw [deal, deal, cnt_succ_ne (by (first | (law_clear; lia) | lia | omega)) (h i (Nat.le_refl _) (by (first | (law_clear; lia) | lia | omega))), deal_same a (i + 1) (by (first | (law_clear; lia) | lia | omega)) fun x h1 h2 => h x (by (first | (law_clear; lia) | lia | omega)) (by (first | (law_clear; lia) | lia | omega))]
theorem deal_succ {r : Bool} {j len : Nat} {a b : List P} {p : P} (hl : (a ++ p :: b).length = len) (ha : a.length = j % len) :
    deal r (j + 1) len 0 (a ++ p :: b) = deal r j len 0 a ++ growF r 1 (growF r (cnt j len (j % len)) p) :: deal r j len (j % len + 1) b := by
  rw [List.length_append, List.length_cons] at hl
  rw [deal_append, deal, growF_succ, Nat.zero_add, ha, ← cnt_succ_eq (by (first | (law_clear; lia) | lia | omega) : 0 < len)]
  rw [deal_same a 0 (by (first | (law_clear; lia) | lia | omega)) fun x _ h2 => by (first | (law_clear; lia) | lia | omega), deal_same b (j % len + 1) (by (first | (law_clear; lia) | lia | omega)) fun x h1 _ => by (first | (law_clear; lia) | lia | omega)]
theorem cnt_one {len i : Nat} (h : i < len) : cnt 1 len i = if i = 0 then 1 else 0 := by
  unfold cnt
  by_cases h1 : len = 1
  · subst h1
    have : i = 0 := by (first | (law_clear; lia) | lia | omega)
    subst this
    decide
  · have e1 : 1 / len = 0 := Nat.div_eq_of_lt (by (first | (law_clear; lia) | lia | omega))
    have e2 : 1 % len = 1 := Nat.mod_eq_of_lt (by (first | (law_clear; lia) | lia | omega))
    rw [e1, e2]
    by_cases hi : i = 0
    · simp [hi]
    · have : ¬ i < 1 := by (first | (law_clear; lia) | lia | omega)
      simp [hi]
theorem deal_one_rest {r : Bool} {len : Nat} : ∀ (a : List P) (i : Nat), 0 < i → i + a.length ≤ len → deal r 1 len i a = a
  | [], _, _, _ => rfl
  | p :: a, i, h0, hl => by
    rw [List.length_cons] at hl
    rw [deal, cnt_one (by (first | (law_clear; lia) | lia | omega)), if_neg (by (first | (law_clear; lia) | lia | omega)), growF_zero, deal_one_rest a (i + 1) (by (first | (law_clear; lia) | lia | omega)) (by (first | (law_clear; lia) | lia | omega))]
mutual
theorem grow_one (r : Bool) : ∀ p : P, grow r 1 p = growF r 1 p
  | mk k w h ps => by
    rw [grow, growF]
    by_cases hk : k = sideK r
    · simp only [hk, if_true]
      congr 1
      cases ps with
      | nil => rfl
      | cons p q =>
        rw [deal, growFH, cnt_one (by first | exact mem_mid _ _ _ | exact .head _ | exact .tail _ (.head _) | exact .tail _ (.tail _ (.head _)) | simp), if_pos rfl, deal_one_rest q 1 (by (first | (law_clear; lia) | lia | omega)) (by simp; (first | (law_clear; lia) | lia | omega))]
    · simp only [hk, if_false]
      rw [growA_one r ps]
theorem growA_one (r : Bool) : ∀ ps : List P, growA r 1 ps = growFA r 1 ps
  | [] => rfl
  | p :: q => by rw [growA, growFA, grow_one, growA_one r q]
end
theorem growA_append (r : Bool) (m : Nat) : ∀ a b : List P, growA r m (a ++ b) = growA r m a ++ growA r m b
  | [], b => rfl
  | p :: a, b => by rw [List.cons_append, growA, growA, growA_append r m a b]; rfl
theorem deal_zero (r : Bool) (len : Nat) : ∀ (a : List P) (i : Nat), deal r 0 len i a = a
  | [], _ => rfl
  | p :: a, i => by
    rw [deal, deal_zero r len a (i + 1)]
    have : cnt 0 len i = 0 := by unfold cnt; simp
    rw [this, growF_zero]
theorem deal_step {r : Bool} {j len : Nat} {ps D R : List P} {q : P} (hl : ps.length = len) (h : D ++ q :: R = deal r j len 0 ps) (hD : D.length = j % len) :
    D ++ growF r 1 q :: R = deal r (j + 1) len 0 ps := by
  have h1 : (D ++ q :: R).length = len := by rw [h, deal_length, hl]
  rw [List.length_append, List.length_cons] at h1
  have hlt : j % len < ps.length := by (first | (law_clear; lia) | lia | omega)
  have e : ps = ps.take (j % len) ++ ps[j % len] :: ps.drop (j % len + 1) := by
    rw [← List.drop_eq_getElem_cons hlt, List.take_append_drop]
  have ht : (ps.take (j % len)).length = j % len := by rw [List.length_take]; exact Nat.min_eq_left (Nat.le_of_lt hlt)
  rw [e, deal_succ (by rw [← e]; exact hl) ht]
  rw [e, deal_append, deal, Nat.zero_add, ht] at h
  have h2 := List.append_inj h (by rw [deal_length, hD, ht])
  have h3 := List.cons.inj h2.2
  rw [h2.1, h3.1, h3.2]
end P
theorem seqIndex_at {k : Int} {n j : Nat} (h : (0 ≤ k ∧ k = (j : Int)) ∨ (k < 0 ∧ k + (n : Int) = (j : Int))) (hj : j < n) : seqIndex? k n = some j := by
  unfold seqIndex?
  rcases h with ⟨h0, h1⟩ | ⟨h0, h1⟩
  · have : ¬ k < 0 := by (first | (law_clear; lia) | lia | omega)
    simp only [this, if_false]
    rw [if_pos (by simp only [Bool.and_eq_true, decide_eq_true_eq]; (first | (law_clear; lia) | lia | omega)), h1]
    simp
  · simp only [h0, if_true]
    rw [if_pos (by simp only [Bool.and_eq_true, decide_eq_true_eq]; (first | (law_clear; lia) | lia | omega)), h1]
    simp
theorem kl_cut_at : ∀ (p q : List Value) (y : Value), kl_cut (p ++ y :: q) p.length = some (p, y, q)
  | [], q, y => rfl
  | a :: p, q, y => by
    show kl_cut (a :: (p ++ y :: q)) (p.length + 1) = _
    unfold kl_cut
    rw [kl_cut_at p q y]
section
variable {prog : Program} {w : World} {A : Around} {E : Value → Shared → Prop} {s : Shared} {h₀ : Heap} {L : Addr} {m : Str → Option Value}
theorem getItem_led {l : Addr} {xs : List Value} {n : Nat} {N : Led} {k : Int} {u : Tok} {v : Value} {j : Nat} {Q : Value → Shared → Prop} (n0 : News h₀ L s.heap N) (hm : (l, listOf xs.toArray n) ∈ N)
    (hj : seqIndex? k xs.length = some j) (hx : xs[j]? = some v) (h1 : -(2 ^ 63) ≤ k) (h2 : k < 2 ^ 63) (h : Q v s) : wpAny (model prog w) A (getItem (.ref l) (.int k u)) Q E s := by
  have hl : s.heap.IsList l xs.toArray := ⟨_, (n0 _ hm).1, rfl, _, rfl⟩
  unfold seqIndex? at hj
  by_cases h0 : 0 ≤ k
  · have : ¬ k < 0 := by (first | (law_clear; lia) | lia | omega)
    simp only [this, if_false] at hj
    split at hj
    · obtain rfl := Option.some.inj hj
      exact wpAny_getItem_list hl h0 h2 (by simpa using hx) h
    · cases hj
  · have hk : k < 0 := by (first | (law_clear; lia) | lia | omega)
    simp only [hk, if_true] at hj
    split at hj
    · rename_i hc
      obtain rfl := Option.some.inj hj
      simp only [Bool.and_eq_true, decide_eq_true_eq] at hc
      exact wpAny_getItem_list_neg hl hk (by simp only [List.size_toArray]; (first | (law_clear; lia) | lia | omega)) h1 (by simpa using hx) h
    · cases hj
theorem item_led {value slice : Expr} {l : Addr} {xs : List Value} {n : Nat} {N : Led} {k : Int} {u : Tok} {v : Value} {j : Nat} {Q : Value → Shared → Prop} (n0 : News h₀ L s.heap N) (hm : (l, listOf xs.toArray n) ∈ N)
    (hj : seqIndex? k xs.length = some j) (hx : xs[j]? = some v) (h1 : -(2 ^ 63) ≤ k) (h2 : k < 2 ^ 63) (h : Q v s)
    (hs : subscripted slice false (.ref l) (.int k u) = operate [.ref l, .int k u] (getItem (.ref l) (.int k u)) := by with_unfolding_all rfl) :
    wpAny (model prog w) A (subscriptTail value slice (.ref l) (.int k u)) Q E s := by
  have hl : s.heap.IsList l xs.toArray := ⟨_, (n0 _ hm).1, rfl, _, rfl⟩
  exact tail_any hl.typeIs slot_list_getitem.lookup (getItem_led n0 hm hj hx h1 h2 h) hs
theorem setat_led {D : Addr} {xs : List Value} {n : Nat} {N : Led} {k : Int} {t : Tok} {v : Value} {Q : Unit → Shared → Prop} (F : Fr h₀ L s.heap m) (n0 : News h₀ L s.heap N) (hm : (D, listOf xs.toArray n) ∈ N)
    (h0 : 0 ≤ k) (h1 : k < xs.length) (h2 : k < 2 ^ 63)
    (h : ∀ h' n', Fr h₀ L h' m → News h₀ L h' ((D, listOf (xs.set k.toNat v).toArray n') :: wipe D N) → Q () { s with heap := h' }) :
    Halt (wpAny (model prog w) A (setItem (.ref D) (.int k t) v) Q E s) := by
  have N2 := News.focus n0 hm
  have z := N2 _ (List.Mem.head _)
  refine ki_setAt z.1 h0 h2 (by simpa using h1) (h _ n (F.change (Heap.SameBut.update ..) z.2.1 z.2.2) (ki_turn (pre := []) _ N2 (fun _ h => nomatch h) wipe_ne ?_ ?_))
  · apply Array.toList_inj.mp
    simp
  · simp
theorem popat_led {D : Addr} {p q : List Value} {y : Value} {n : Nat} {N : Led} {i : Int} {t : Tok} {Q : Value → Shared → Prop} (F : Fr h₀ L s.heap m) (n0 : News h₀ L s.heap N) (hm : (D, listOf (p ++ y :: q).toArray n) ∈ N)
    (hi : i = (p.length : Int)) (hz : (p ++ y :: q).length ≤ sizeLine) (h2 : i < 2 ^ 63)
    (h : ∀ h' n', Fr h₀ L h' m → News h₀ L h' ((D, listOf (p ++ q).toArray n') :: wipe D N) → Q y { s with heap := h' }) :
    Halt (wpAny (model prog w) A (call (.builtin "list.pop") [.ref D, .int i t]) Q E s) := by
  have N2 := News.focus n0 hm
  have z := N2 _ (List.Mem.head _)
  have hcut : kl_cut (p ++ y :: q).toArray.toList p.length = some (p, y, q) := kl_cut_at p q y
  have hk : seqIndex? i (p ++ y :: q).toArray.size = some p.length := by
    unfold seqIndex?
    have h3 : ¬ i < 0 := by (first | (law_clear; lia) | lia | omega)
    simp only [h3, if_false]
    rw [if_pos]
    · rw [hi]; simp
    · simp only [List.size_toArray, List.length_append, List.length_cons, Bool.and_eq_true, decide_eq_true_eq]; (first | (law_clear; lia) | lia | omega)
  have hf : Builtin.List.listFitsIndex i = true := by
    unfold Builtin.List.listFitsIndex
    simp only [Bool.and_eq_true, decide_eq_true_eq]
    (first | (law_clear; lia) | lia | omega)
  exact kl_popAt F N2 hf hk hcut (.head wipe_ne) (by simpa using hz) fun h' F' N' => h h' (n + 1) F' N'
theorem len_led {l : Addr} {xs : List Value} {n : Nat} {N : Led} {Q : Value → Shared → Prop} (n0 : News h₀ L s.heap N) (hm : (l, listOf xs.toArray n) ∈ N) (hz : (xs.length : Int) < 2 ^ 63)
    (h : Q (.int (xs.length : Int) (s.toks + 1)) { s with toks := s.toks + 1 + 1 }) : wpAny (model prog w) A (call (.builtin "len") [.ref l]) Q E s := by
  refine len_list (items := xs.toArray) ⟨_, (n0 _ hm).1, rfl, _, rfl⟩ (by simpa using hz) ?_
  simpa using h
end
section
variable {prog : Program} {w : World} {A : Around} {E : Value → Shared → Prop} {s : Shared} {h₀ : Heap} {L : Addr} {m : Str → Option Value}
theorem setItem_list_slice {l sl b : Addr} {items new : Array Value} {n n2 : Nat} {vl vu vs : Value} {lo hi st : Option Int} {Q : Unit → Shared → Prop} (hl : s.heap.get? l = some (listOf items n)) (hb : s.heap.get? b = some (listOf new n2)) (hne : l ≠ b)
    (hs : s.heap.IsSliceOf sl vl vu vs) (pl : IsPart vl lo) (pu : IsPart vu hi) (ps : IsPart vs st) (h0 : st = none) (hz : items.size + new.size ≤ 100000)
    (h : Q () { s with heap := s.heap.update l (Obj.mapSeq fun xs => xs.extract 0 (sliceBounds lo hi st items.size).1.toNat ++ new ++ xs.extract (max (sliceBounds lo hi st items.size).1 (sliceBounds lo hi st items.size).2.1).toNat xs.size) }) :
    wpAny (model prog w) A (setItem (.ref l) (.ref sl) (.ref b)) Q E s := by
  have hL : s.heap.IsList l items := PySem.IsL.isList (n := n) hl
  have hB : s.heap.IsList b new := PySem.IsL.isList (n := n2) hb
  refine letG ?_
  intro kG
  obtain ⟨os, hos, hcs, hds⟩ := id hs
  k_unfold
  clear kG
  have hTs : s.TypeIs (.ref sl) "slice" := ⟨os, hos, hcs⟩
  unfold setItem
  try with_reducible refine wpAny_holding ?_
  first | refine wpAny_bind (wpAny_pure ?_) | skip
  refine wpAny_bind (wpAny_sequenceKey hL.typeIs (by decide) ?_)
  refine wpAny_bind (wpAny_callSpecial?_slot (name := Str.ofString "__setitem__") hL.typeIs slot_list_setitem
    (wpAny_call_entry slot_list_setitem hL.typeIs entry_list_setitem ?_ (args_list_setitem _ _ _)))
  show wpAny _ _ (Builtin.List.listSubscript? (.ref sl) >>= _) _ _ s
  refine wpAny_bind ?_
  unfold Builtin.List.listSubscript?
  refine wpAny_bind (wpAny_specialOf hTs slice_no_index ?_)
  simp only [Option.isNone_none, if_true]
  refine wpAny_pure ?_
  show wpAny _ _ (typeOf (.ref sl) >>= _) _ _ s
  refine wpAny_bind (wpAny_typeOf hTs ?_)
  rw [if_neg (by decide)]
  rw [listSliceParts_eq]
  have hstep : ¬ ((rawPart st == rawInt 0) = true) := by
    subst h0
    exact Bool.false_ne_true
  refine wpAny_bind (wpAny_bind (wpAny_field hos hds (x := vs) rfl (wpAny_bind (wpAny_listPart ps ?_))))
  rw [if_neg hstep]
  refine wpAny_bind (wpAny_field hos hds (x := vl) rfl (wpAny_bind (wpAny_listPart pl ?_)))
  refine wpAny_bind (wpAny_field hos hds (x := vu) rfl (wpAny_bind (wpAny_listPart pu (wpAny_pure ?_))))
  have hsr : Builtin.List.listSameRef (.ref l) (.ref b) = false := by
    show (l == b) = false
    simpa using hne
  rw [hsr]
  simp only [Bool.false_eq_true, if_false]
  refine wpAny_bind (m := Builtin.List.listAllItems (.ref b) "must assign iterable to extended slice") ?_
  unfold Builtin.List.listAllItems
  refine wpAny_bind (wpAny_typeOf hB.typeIs ?_)
  simp only [beq_self_eq_true, Bool.true_or, if_true]
  unfold Builtin.List.listItems
  refine wpAny_bind (wpAny_seqItems hb rfl (wpAny_pure ?_))
  refine wpAny_bind (m := Builtin.List.listItems (.ref l)) ?_
  unfold Builtin.List.listItems
  refine wpAny_bind (wpAny_seqItems hl rfl (wpAny_pure ?_))
  refine wpAny_bind (wpAny_of_eq (sliceIndices_raw lo hi st items.size (by rw [h0]; simp)) ?_)
  have hone : (sliceBounds lo hi st items.size).2.2 = 1 := by subst h0; rfl
  rw [hone]
  simp only [beq_self_eq_true, if_true]
  refine wpAny_bind (wpAny_rule ?_)
  have hlong : Builtin.List.listTooLong (items.size + new.size) = false := by
    unfold Builtin.List.listTooLong sizeLine
    exact decide_eq_false (by (first | (law_clear; lia) | lia | omega))
  rw [hlong]
  simp only [Bool.false_eq_true, if_false]
  have hl1 : items.size ≤ sizeLine := by rw [sizeLine_eq]; (first | (law_clear; lia) | lia | omega)
  refine wpAny_bind (wpAny_updateSeq hl rfl (wpAny_bind (wpAny_letGo (wpAny_pure ⟨_, rfl, wpAny_pure h⟩))) hl1 ?_)
  rw [sizeLine_eq]
  simp only [Array.size_append, Array.size_extract]
  exact Nat.le_trans (Nat.add_le_add (Nat.add_le_add_right (Nat.le_trans (Nat.sub_le _ _) (Nat.min_le_right _ _)) _) (Nat.le_trans (Nat.sub_le _ _) (Nat.min_le_right _ _))) (by (first | (law_clear; lia) | lia | omega))
theorem setslice_led {D sl b : Addr} {p q new : List Value} {y : Value} {n n2 : Nat} {N : Led} {vl vu : Value} {lo hi : Int} {os : Obj} {Q : Unit → Shared → Prop} (F : Fr h₀ L s.heap m) (n0 : News h₀ L s.heap N) (hm : (D, listOf (p ++ y :: q).toArray n) ∈ N) (hb : (b, listOf new.toArray n2) ∈ N) (hne : D ≠ b)
    (hs : (sl, os) ∈ N) (hc : os.cls = .type "slice") (hd : os.data = .fields #[vl, vu, .none]) (pl : IsPart vl (some lo)) (pu : IsPart vu (some hi)) (hlo : lo = (p.length : Int)) (hhi : hi = lo + 1) (hz : (p ++ y :: q).length + new.length ≤ 100000)
    (h : ∀ h' n', Fr h₀ L h' m → News h₀ L h' ((D, listOf (p ++ new ++ q).toArray n') :: wipe D N) → Q () { s with heap := h' }) :
    wpAny (model prog w) A (setItem (.ref D) (.ref sl) (.ref b)) Q E s := by
  have N2 := News.focus n0 hm
  have z := N2 _ (List.Mem.head _)
  refine setItem_list_slice z.1 (n0 _ hb).1 hne ⟨os, (n0 _ hs).1, hc, hd⟩ pl pu .none rfl (by simpa using hz) (h _ _ (F.change (Heap.SameBut.update ..) z.2.1 z.2.2) (ki_turn (pre := []) _ N2 (fun _ h => nomatch h) wipe_ne ?_ rfl))
  have e1 : (sliceBounds (some lo) (some hi) none (p ++ y :: q).toArray.size).1 = (p.length : Int) := by
    simp only [sliceBounds, Option.getD_none, List.size_toArray, List.length_append, List.length_cons]
    have h1 : ¬ lo < 0 := by (first | (law_clear; lia) | lia | omega)
    simp only [h1, if_false]
    rw [if_pos (by decide)]
    (first | (law_clear; lia) | lia | omega)
  have e2 : (sliceBounds (some lo) (some hi) none (p ++ y :: q).toArray.size).2.1 = (p.length : Int) + 1 := by
    simp only [sliceBounds, Option.getD_none, List.size_toArray, List.length_append, List.length_cons]
    have h1 : ¬ hi < 0 := by (first | (law_clear; lia) | lia | omega)
    simp only [h1, if_false]
    rw [if_pos (by decide)]
    (first | (law_clear; lia) | lia | omega)
  rw [e1, e2]
  have e3 : (max (p.length : Int) ((p.length : Int) + 1)).toNat = p.length + 1 := by (first | (law_clear; lia) | lia | omega)
  rw [e3]
  apply Array.toList_inj.mp
  simp
  exact List.take_of_length_le (by (first | (law_clear; lia) | lia | omega))
end
local macro_rules | `(tactic| k_room) => `(tactic| first | exact rmz (by assumption) | exact rm0 (by assumption) (Nat.le_of_ble_eq_true rfl))
local macro_rules | `(tactic| k_all) => `(tactic| assumption)
local macro_rules | `(tactic| k_mem) => `(tactic| first | exact List.Mem.head _ | (refine List.mem_cons_of_mem _ ?_; k_mem) | ktr_member)
local macro_rules | `(tactic| walk_at $k:str) => if (["pyIter ref", "call ref", "call builtin:list.extend", "CompSrc", "binaryOp Add ref ref", "call type:enumerate", "call type:zip", "exec While Compare cons nil", "setItem ref int", "call builtin:list.pop", "compareOp In int ref", "compareOp NotIn int ref"] : List String).any fun p => k.getString == p || k.getString.startsWith (p ++ " ") then `(tactic| refine halt ?_) else Lean.Macro.throwUnsupported
local macro_rules | `(tactic| walk_at $k:str) => if ["exec For Name Name cons nil", "exec For Name Call cons nil", "exec For Name Subscript cons nil"].contains k.getString then `(tactic| ((rename Fr _ _ _ _ => lF'); (with_unfolding_all refine' For_invVF lF' ?k1 ?k2 ?_; (case k1 => exact rfl); (case k2 => exact rfl); k_whole))) else Lean.Macro.throwUnsupported
local macro_rules | `(tactic| k_handed) => `(tactic| first | exact handed_kind _ _ | exact handed_pane _ _)
local macro_rules | `(tactic| walk_at "exec Assign cons ListComp") => `(tactic| (k_dflt (refine LCg.Assign_ListComp_U (F₀ := by k_asm) (by rfl) (by with_unfolding_all rfl) (by with_unfolding_all rfl) (by decide) (by rfl) (by decide) (by rfl) (by rfl) (by rfl) ?_)))
local macro_rules | `(tactic| walk_at "exec For Tuple Call cons nil") => `(tactic| (k_dflt (refine For_turns (by k_asm) ?_)))
local macro_rules | `(tactic| k_steps) => `(tactic| repeat' (first | ((fail_if_success k_unfold); (with_reducible show wpAny _ _ _ _ _ _); (first | walk1 | (dsimp only; walk1) | (leave1; (try dsimp only)))) | ((first | with_reducible show consQ _ _ _ _ | with_reducible show callQ _ _ _ _ _ _ _ _); (first | ((refine' callQ_end ?kX ?_); (case kX => k_in)) | (refine (?_ : wpAny _ _ _ _ _ _)))) | ((first | with_reducible show fQ _ _ _ _ _ _ _ _ _ | with_reducible show argQ _ _ _ _ _ _ _ _ _ | with_reducible show binQ _ _ _ _ _ _ _ _ _ | with_reducible show binR _ _ _ _ _ _ _ _ | with_reducible show stoQ _ _ _ _ _ _ _ _ | with_reducible show cmpQ _ _ _ _ _ _ _ _ _ | with_reducible show cmpR _ _ _ _ _ _ _ _ | with_reducible show trQ _ _ _ _ _ _ | with_reducible show subQ _ _ _ _ _ _ _ _ _ | with_reducible show subR _ _ _ _ _ _ _ _ _ | with_reducible show newLQ _ _ _ _ _ _ | with_reducible show newTQ _ _ _ _ _ _); (refine (?_ : wpAny _ _ _ _ _ _))) | (with_reducible refine ifQ_go ?_) | ((with_reducible show contQ _ _ _ _ _ _ _ _); (first | with_reducible refine contQ_ret ?_ | (refine (?_ : wpAny _ _ (execs _ _) _ _ _)) | with_reducible refine contQ_brk ?_ | with_reducible refine contQ_cnt ?_)) | (k_unfold; (try dsimp only)) | walk1 | (dsimp only; walk1) | (leave1; (try dsimp only)) | (k_end; kc_close) | fail "no step"))
local macro_rules | `(tactic| walk_at $k:str) => if ["eval Constant int", "eval Constant str", "binaryOp Add int int", "binaryOp Sub int int", "inplaceOp Add int int", "unaryOp USub int"].contains k.getString then `(tactic| (first | refine cint_S ?_ | refine cstr_S ?_ | refine add_S ?_ | refine sub_S ?_ | refine iadd_S ?_ | refine neg_S ?_)) else Lean.Macro.throwUnsupported
local macro_rules | `(tactic| walk_at $k:str) => match (match ((["LPost", "LPost0", "CPost", "LPostS", "PPost", "WPost", "storeName", "getAttr ref", "newList", "eval ListComp", "eval Name", "assignInOrder", "isTrue Name", "isTrue Call", "eval List", "eval Tuple", "eval Compare", "eval IfExp"] : List String).find? fun p => k.getString.startsWith (p ++ " ")) with | some p => p | none => if k.getString.startsWith "callWith builtin" then "callWith" else k.getString) with
  | "LPost" => `(tactic| (dsimp only [LPost]))
  | "LPost0" => `(tactic| (dsimp only [LPost0]))
  | "CPost" => `(tactic| (unfold CPost))
  | "LPostS" => `(tactic| (dsimp only [LPostS]))
  | "PPost" => `(tactic| (dsimp only [PPost]))
  | "WPost" => `(tactic| (dsimp only [WPost]))
  | "storeName" => `(tactic| ((first | ((with_reducible refine' storeX_S ?F ?N ?_ ?ok); (case ok => kernel_rfl)) | ((with_reducible refine' storeX_SC ?ok ?F ?N ?_); (case ok => kernel_rfl!))); k_dflt ((case F => k_asm); (case N => k_asm); k_whole); intro _ _ _; (try k_sweep)))
  | "getAttr ref" => `(tactic| ((with_reducible refine' own_C ?k1 ?k2 ?k3 ?k8 ?k9 ?_ ?k); k_dflt ((case k1 => k_asm); (case k2 => k_asm); (case k3 => k_inst); (case k8 => k_get); (case k9 => k_handed); (case k => kernel_rfl); k_whole)))
  | "newList" => `(tactic| ((with_reducible refine' newList_S ?k1 ?k2 ?_ ?z); k_dflt ((case k1 => k_asm); (case k2 => k_asm); (case z => first | (refine zlen ?_; kernel_rfl!) | size_fits); k_whole); intro l' h' F' N' l1; (try k_lt l1); (try k_sweep)))
  | "eval ListComp" => `(tactic| (k_dflt (refine LCg.ListComp_U (F₀ := by k_asm) (by with_unfolding_all rfl) (by decide) (by rfl) (by decide) (by rfl) ?_)))
  | "eval Name" => `(tactic| first
    | ((with_reducible refine' nmL ?F ?v ?_ ?ok); k_dflt ((case F => k_asm); (case v => eq_refl); (case ok => kernel_rfl); k_whole))
    | ((with_reducible refine' nmK ?F ?X ?T ?e ?_ ?ok); k_dflt ((case F => k_asm); (case X => k_asm); (case T => k_asm); (case e => k_is); (case ok => kernel_rfl); k_whole))
    | ((with_reducible refine' nmB ?n ?F ?X ?T ?e ?v ?_ ?ok); k_dflt ((case F => k_asm); (case X => k_asm); (case T => k_asm); (case e => k_is); (case v => boot_fast); (case n => kernel_rfl!); (case ok => kernel_rfl); k_whole))
    | ((with_reducible refine' nmLC ?ok ?F ?v ?_); (case ok => kernel_rfl); k_dflt ((case F => k_asm); (case v => eq_refl); k_whole))
    | ((with_reducible refine' nmCC ?ok ?N ?c ?m ?d ?_); (case ok => kernel_rfl); k_dflt ((case N => k_asm); (case c => eq_refl); (case m => k_mem); (case d => k_asm); k_whole))
    | ((with_reducible refine' nmKC ?ok ?F ?X ?T ?e ?_); (case ok => kernel_rfl); k_dflt ((case F => k_asm); (case X => k_asm); (case T => k_asm); (case e => k_is); k_whole))
    | ((with_reducible refine' nmBC ?ok ?n ?F ?X ?T ?e ?v ?_); (case ok => kernel_rfl); (case n => kernel_rfl!); k_dflt ((case F => k_asm); (case X => k_asm); (case T => k_asm); (case e => k_is); (case v => boot_fast); k_whole)))
  | "ite" => `(tactic| (first | with_reducible refine ite_tt ?_ | with_reducible refine ite_ff ?_ | (k_closed; k_dflt (first | (refine' iteT ?c ?_; (case c => kernel_rfl!)) | (refine' iteF ?c ?_; (case c => kernel_rfl!))))))
  | "callWith" => `(tactic| first
    | ((with_reducible refine' PyProof.Rows.callWith_builtin1 ?_ ?e ?p); (case e => kernel_rfl); (case p => kernel_rfl))
    | with_reducible refine callWith_method0 ?_
    | k_dflt (refine' callWith_method1 ?_ ?e ?p; (case e => kernel_rfl); (case p => kernel_rfl)))
  | "assignInOrder" => `(tactic| (k_dflt (first | refine assignInOrder_cons ?_ | refine assignInOrder_nil ?_)))
  | "execs nil" => `(tactic| (refine wpAny_execs_nil ?_))
  | "eval Call" => `(tactic| (k_dflt (first | k_compRoot | refine call_S ?_)))
  | "spliced" => `(tactic| (first | ((with_reducible refine' args_consS ?_ ?g); (case g => kernel_rfl)) | ((refine args_nil ?_); (with_reducible show consQ _ _ _ _))))
  | "eval Compare" => `(tactic| (first | k_compRoot | refine wpAny_Compare1 ?_))
  | "eval IfExp" => `(tactic| (first | k_compRoot | with_reducible refine IfExp_ ?_))
  | "isTrue Name" => `(tactic| ((with_reducible refine' true_S ?_ ?g); (case g => k_dflt rfl)))
  | "isTrue Call" => `(tactic| (first | k_compRoot | ((with_reducible refine' true_S ?_ ?g); (case g => k_dflt rfl))))
  | "isTrue" => `(tactic| (first | k_compRoot | ((with_reducible refine' true_S ?_ ?g); (case g => k_dflt rfl))))
  | "exec Assign" => `(tactic| ((with_reducible refine' assign_S ?_ ?g); (case g => with_unfolding_all exact rfl)))
  | "eval List" => `(tactic| (first | k_compRoot | refine list_S ?_))
  | "eval Tuple" => `(tactic| (first | k_compRoot | refine tuple_S ?_))
  | k => if k.startsWith "execs cons Return" then `(tactic| (first | refine execs_ret ?_ | refine execs_consN ?_))
    else if k.startsWith "execs cons" then `(tactic| (refine execs_consN ?_))
    else if k.startsWith "exec If" then `(tactic| (refine if_S ?_))
    else if k.startsWith "eval BinOp" then `(tactic| (first | k_compRoot | refine bin_S ?_))
    else if k.startsWith "eval Subscript" then `(tactic| (first | k_compRoot | refine sub_Sx ?_))
    else if k.startsWith "isTrue Compare" then `(tactic| (first | k_compRoot | refine cmp_S ?_))
    else if k.startsWith "truthy bool" then `(tactic| with_reducible refine wpAny_truthy_bool ?_)
    else if k.startsWith "eval Call Name" then `(tactic| (first | k_compRoot | ((with_reducible refine' call_S ?_ ?e); (case e => kernel_rfl))))
    else if k.startsWith "callWith ref" then `(tactic| ((with_reducible refine' callWith_KS ?k1 ?k2 ?_ ?g ?g2); k_dflt ((case k1 => k_asm); (case k2 => k_is); (case g => kernel_rfl); (case g2 => kernel_rfl); k_whole)))
    else Lean.Macro.throwUnsupported
local macro_rules | `(tactic| walk_at $k:str) => match (["subscriptTail Name UnaryOp ref int", "subscriptTail Name Slice ref ref", "subscriptTail Name BinOp ref int", "subscriptTail Name Name ref int", "exec For Name Tuple cons nil", "exec Assign cons ListComp", "call builtin:list.append", "compareOp NotEq ref ref", "call builtin:dict.get", "compareOp Eq ref ref", "call builtin:len", "setItem ref ref", "setItem ref str", "setItem ref int", "subscriptTail", "getMethod ref", "eval ListComp", "eval IfExp", "eval Dict", "CompSrcT", "KdnMade", "QPost"] : List String).find? (fun p => k.getString == p || k.getString.startsWith (p ++ " ")) with
  | some p => let q := Lean.Syntax.mkStrLit p; if p.startsWith "subscriptTail " then `(tactic| first | k_extra $q | k_extra "subscriptTail") else `(tactic| k_extra $q)
  | none => Lean.Macro.throwUnsupported
example (w : World) : PySem.Challenge.rw_og0246_01 = PySem.Challenge.rw_og0246_01 ∧ heapO w.params = heapO w.params := by
  k_fill
  exact ⟨rfl, rfl⟩
noncomputable def kno : K → Nat
  | .pane _ => 0
  | .row => 1
  | .col => 2
noncomputable def sameK (k k' : K) : Bool := kno k == kno k'
section
variable {prog : Program} {w : World} {A : Around} {E : Value → Shared → Prop} {s : Shared} {Q : Value → Shared → Prop}
theorem ne_kind {k k' : K} {t t' : Tok} (h : Q (.bool (!sameK k k')) s) : wpAny (model prog w) A (compareOp .NotEq (kindV k t) (kindV k' t')) Q E s := by
  cases k <;> cases k' <;> (dsimp only [kindV]; k_steps; exact h)
theorem eq_kind {k k' : K} {t t' : Tok} (h : Q (.bool (sameK k k')) s) : wpAny (model prog w) A (compareOp .Eq (kindV k t) (kindV k' t')) Q E s := by
  cases k <;> cases k' <;> (dsimp only [kindV]; k_steps; exact h)
theorem ne_kindB {k k' : K} {t t' : Tok} {b : Bool} (e : (!sameK k k') = b) (h : Q (.bool b) s) : wpAny (model prog w) A (compareOp .NotEq (kindV k t) (kindV k' t')) Q E s := by
  subst e
  exact ne_kind h
theorem eq_kindB {k k' : K} {t t' : Tok} {b : Bool} (e : sameK k k' = b) (h : Q (.bool b) s) : wpAny (model prog w) A (compareOp .Eq (kindV k t) (kindV k' t')) Q E s := by
  subst e
  exact eq_kind h
end
theorem layout_set_side (w : World) (N : Led) {a d l : Addr} {k : K} {wd ht x y : Int} {items : List Addr} (C : CellIn w N a d l k wd ht x y items) (r : Bool) (v : Int) (tv : Tok) :
    Tell w 87 [.ref a, .bool r, .int v tv] 20 N (fun φ => ∀ N', CellIn w N' a d l k (if r then v else wd) (if r then ht else v) x y items → (∀ p ∈ N, p.1 ≠ d → p ∈ N') → φ .none N') := by
  unfold Tell
  intro cx A₀ base h₀ L m mean mg mb s Q E B hf hk F X N₀ TT hd hu ret
  refine letG ?_
  intro kG
  obtain ⟨t1, t2, t3, t4, t5, t6, t7, tk, tw, th, tx, ty, tp, e, ha, hdd, hl⟩ := C
  k_unfold
  clear kG
  have ad : a ≠ d := News.ne_of N₀ ha hdd (by first | exact mem_mid _ _ _ | exact .head _ | exact .tail _ (.head _) | exact .tail _ (.tail _ (.head _)) | simp)
  have ld : l ≠ d := News.ne_of N₀ hl hdd (by first | exact mem_mid _ _ _ | exact .head _ | exact .tail _ (.head _) | exact .tail _ (.tail _ (.head _)) | simp)
  have wn := wipe_ne (d := d) (N := N)
  have ha' := mem_wipe ha ad
  have hl' := mem_wipe hl ld
  have keep : ∀ p ∈ N, p.1 ≠ d → p ∈ wipe d N := fun p h n => mem_wipe h n
  have N := News.focus N₀ hdd
  clear N₀
  (refine wpAny_call ?_; k_dflt (refine' code_def ?k1 ?k2 ?k3 ?k4 ?k5 ?kA ?kF ?kK ?k6 ?k7 ?k8 ?k9 ?kB ?_ ?c2 ?c3 ?c4 ?c5; (case kA => exact rfl); (case kF => assumption); (case kK => assumption); (case k1 => k_asm); (case k2 => k_asm); (case k3 => k_asm); (case k4 => k_asm); (case k5 => k_asm); (case k6 => k_is); (case k7 => k_is); (case k8 => k_room); (case k9 => exact bnd3 "cell" "is_row" "side" rfl); (case c5 => decide); (case kB => exact locs rfl); (case c2 => exact rfl); (case c3 => exact rfl); (case c4 => exact rfl); k_whole; intro _ _ _ _ _ _ _ _ _; (try dsimp only); (try (refine foldL ?_; intro kQ kE))))
  k_steps
  all_goals (refine ret _ ?_ (fun p hp hn => List.mem_cons_of_mem _ (keep p hp hn)) _ _ (by k_asm) (by k_asm))
  all_goals (rename r = _ => hr; subst hr)
  all_goals exact CellIn.mk (List.mem_cons_of_mem _ ha') (List.Mem.head _) (List.mem_cons_of_mem _ hl')
noncomputable def ListK (N : Led) (xs : Array Value) (φ : Value → Led → Prop) : Prop :=
  ∀ N' (l : Addr) (e : Nat) (h : (l, listOf xs e) ∈ N') (lt : ∀ q ∈ N, q.1 < l) (sub : ∀ p ∈ N, p ∈ N'), φ (.ref l) N'
theorem layout_leaves (w : World) : ∀ (n : Nat) (t : T) (N : Led), t.sz ≤ n → t.In w N → 
    Tell w 54 [.ref t.adr] (5 * n + 20) N (ListK N (refsA (t.leaves.map T.adr))) := by
  intro n
  induction n with
  | zero => intro t N h; cases t; simp [T.sz] at h
  | succ n ih =>
  intro t N₀ hn tin
  unfold Tell
  intro cx A₀ base h₀ L m mean mg mb s Q E B hf hk F X N TT hd hu ret
  cases t with | mk a d l k wd ht x y ps =>
  rw [T.In] at tin
  refine letG ?_
  intro kG
  obtain ⟨⟨t1, t2, t3, t4, t5, t6, t7, tk, tw, th, tx, ty, tp, e, ha, hdd, hl⟩, tl⟩ := tin
  k_unfold
  clear kG
  simp only [T.adr]
  (refine wpAny_call ?_; k_dflt (refine' code_def ?k1 ?k2 ?k3 ?k4 ?k5 ?kA ?kF ?kK ?k6 ?k7 ?k8 ?k9 ?kB ?_ ?c2 ?c3 ?c4 ?c5; (case kA => exact rfl); (case kF => assumption); (case kK => assumption); (case k1 => k_asm); (case k2 => k_asm); (case k3 => k_asm); (case k4 => k_asm); (case k5 => k_asm); (case k6 => k_is); (case k7 => k_is); (case k8 => k_room); (case k9 => exact bnd1 "cell" rfl); (case c5 => decide); (case kB => exact locs rfl); (case c2 => exact rfl); (case c3 => exact rfl); (case c4 => exact rfl); k_whole; intro _ _ _ _ _ _ _ _ _; (try dsimp only); (try (refine foldL ?_; intro kQ kE))))
  have key : k ≠ K.pane 0 → True := fun _ => trivial
  by_cases kp : ∃ p, k = K.pane p
  · obtain ⟨p, rfl⟩ := kp
    dsimp only [kindV, paneV] at hdd
    k_steps
    rename News h₀ L _ _ => nn
    rename ∀ p ∈ N₀, p.1 < _ => lt
    exact ret _ _ _ (by simp only [T.leaves]; exact List.Mem.head _) lt (fun p hp => List.mem_cons_of_mem _ hp) _ _ (by k_asm) nn
  · have hlv : (T.mk a d l k wd ht x y ps).leaves = T.leavesL ps := by
      cases k with
      | pane p => exact absurd ⟨p, rfl⟩ kp
      | row => simp [T.leaves]
      | col => simp [T.leaves]
    rw [hlv] at ret
    rw [T.sz] at hn
    k_steps
    refine eq_kindB (k' := .pane 0) (b := false) (by cases k with | pane p => exact absurd ⟨p, rfl⟩ kp | row => rfl | col => rfl) ?_
    clear hlv kp key
    k_steps
    all_goals (
      rename ∀ p ∈ N₀, p.1 < _ => lt
      rename Fr _ _ _ _ => F2
      rename News _ _ _ _ => N2
      rename Below _ _ (_ :: _) _ => B2
      rename Frag.In _ _ => X2
      rename Top _ _ _ _ _ _ => T2
      rename_i fl _ _
      refine iter_led0 F2 N2 (List.mem_cons_of_mem _ hl) rfl rfl rfl rfl (fun r N => Ex3 fun (dn rp : List T) (e' : Nat) => And4 (ps = dn ++ rp) (r = (rp.map T.adr).map Value.ref) ((fl, listOf (refsA ((T.leavesL dn).map T.adr)) e') ∈ N) (∀ p ∈ N₀, p ∈ N))
        ⟨[], ps, _, rfl, rfl, List.Mem.head _, fun p hp => List.mem_cons_of_mem _ hp⟩ (fun r N h => by obtain ⟨dn, rp, e', h1, h2, h3, h4⟩ := h; exact h4 _ hl) ?_ ?_
      · intro v r N I it h tk HI hne hc F3 N3
        (try (refine foldL ?_; intro kQ kE))
        refine letG ?_
        intro kG
        obtain ⟨dn, rp, e', hps, hv, hfl, hN⟩ := HI
        k_unfold
        clear kG
        cases rp with
        | nil => simp at hv
        | cons q rp =>
        simp only [List.map_cons, List.cons.injEq] at hv
        obtain ⟨rfl, rfl⟩ := hv
        clear F2 N2
        k_steps
        have hsz : T.szL dn + (q.sz + T.szL rp) ≤ n := by rw [hps, T.szL_append, T.szL] at hn; (first | (law_clear; lia) | lia | omega)
        have hq : q.In w ((I, it) :: N) := (T.InL_mem tl q (by first | exact hps ▸ mem_mid _ _ _ | simp [hps])).all fun p hp => List.mem_cons_of_mem _ (hN p hp)
        refine Tell.use (ih q _ (by (first | (law_clear; lia) | lia | omega)) hq) B2 F3 X2 N3 T2 rfl rfl (by (first | exact rm1 hd (Nat.le_of_ble_eq_true rfl) | exact rm2 hd (Nat.le_of_ble_eq_true rfl) | (dsimp only; (first | (law_clear; lia) | lia | omega)))) (by (first | exact ru1 hu (Nat.le_of_ble_eq_true rfl) | exact ru2 hu (Nat.le_of_ble_eq_true rfl) | (dsimp only; (first | (law_clear; lia) | lia | omega)))) ?_
        intro kQ kM
        intro news2 l2 e2 hl2 lt2 sub2 h2 tk2 F4 N4
        clear F3 N3
        k_steps
        have s1 := T.leavesL_len dn
        have s2 := T.leaves_len q
        refine extend_refs F4 N4 (sub2 _ (List.mem_cons_of_mem _ hfl)) hl2 (by simp only [List.length_map, sizeLine_eq]; simp only [recursionLimit] at hd; (first | (law_clear; lia) | lia | omega)) ?_
        intro h3 n3 F5 N5
        clear F4 N4
        k_steps
        refine LPost0.intro F5 N5 (List.mem_cons_of_mem _ (mem_wipe (sub2 _ (.head _)) fun e => hne _ hfl e.symm)) ⟨dn ++ [q], rp, n3, by simp [hps], rfl, ?_, fun p hp => ?_⟩
        · refine mem_wipe ?_ (show fl ≠ I from hne _ hfl)
          simp [T.leavesL_append, T.leavesL]
        · exact mem_wipe (List.mem_cons_of_mem _ (mem_wipe (sub2 _ (List.mem_cons_of_mem _ (hN p hp))) (Nat.ne_of_lt (lt p hp)))) (hne _ (hN p hp))
      · intro u N h tk HI F3 N3
        (try (refine foldL ?_; intro kQ kE))
        refine letG ?_
        intro kG
        obtain ⟨dn, rp, e', hps, hv, hfl, hN⟩ := HI
        k_unfold
        clear kG
        have : rp = [] := by cases rp with | nil => rfl | cons => simp at hv
        subst this
        rw [List.append_nil] at hps
        subst hps
        clear F2 N2
        k_steps
        rename News h₀ L _ _ => nn
        exact ret _ _ _ hfl lt hN _ _ (by k_asm) nn)
noncomputable def CellK (w : World) (N : Led) (kind wd ht x y l pane : Value) (φ : Value → Led → Prop) : Prop :=
  ∀ N' (a d : Addr) (t1 t2 t3 t4 t5 t6 t7 : Tok) (h1 : (a, instObj 31 d) ∈ N') (h2 : (d, cellD w t1 t2 t3 t4 t5 t6 t7 kind wd ht x y l pane) ∈ N') (l1 : ∀ q ∈ N, q.1 < d) (l2 : d < a) (sub : ∀ p ∈ N, p ∈ N'), φ (.ref a) N'
noncomputable def LeafK (w : World) (N : Led) (p wd ht : Int) (φ : Value → Led → Prop) : Prop :=
  ∀ N' (a d l : Addr) (h : (T.mk a d l (.pane p) wd ht 0 0 []).In w N') (l1 : ∀ q ∈ N, q.1 < l) (l2 : l < d) (l3 : d < a) (sub : ∀ p ∈ N, p ∈ N'), φ (.ref a) N'
noncomputable def TokK (v : Tok → Value) (N : Led) (φ : Value → Led → Prop) : Prop :=
  ∀ N' (t : Tok) (e : N' = N), φ (v t) N'
theorem new_cell (w : World) (kind wd ht x y pane : Value) (l : Addr) (N : Led) :
    Tell w 31 [kind, wd, ht, x, y, .ref l, pane] 20 N (CellK w N kind wd ht x y (.ref l) pane) := by
  unfold Tell
  intro cx A₀ base h₀ L m mean mg mb s Q E B hf hk F X N₀ TT hd hu ret
  k_dflt (refine' call_cls ?k1 ?k2 ?k3 ?k4 ?k5 ?k6 ?_; (case k1 => k_asm); (case k2 => k_asm); (case k3 => k_asm); (case k4 => k_is); (case k5 => k_is); (case k6 => k_is); k_whole)
  intro a d h1 F1 N1 l1 l2
  clear F N₀
  have l3 := allLt_of l1
  have l4 := ltN l2
  k_dflt (refine' code_def ?k1 ?k2 ?k3 ?k4 ?k5 ?kA ?kF ?kK ?k6 ?k7 ?k8 ?k9 ?kB ?_ ?c2 ?c3 ?c4 ?c5; (case kA => exact rfl); (case kF => assumption); (case kK => assumption); (case k1 => k_asm); (case k2 => k_asm); (case k3 => k_asm); (case k4 => k_asm); (case k5 => k_asm); (case k6 => k_is); (case k7 => k_is); (case k8 => k_room); (case k9 => exact bnd8 "self" "kind" "width" "height" "x" "y" "parts" "pane" rfl); (case c5 => decide); (case kB => exact locs rfl); (case c2 => exact rfl); (case c3 => exact rfl); (case c4 => exact rfl); k_whole; intro _ _ _ _ _ _ _ _ _; (try dsimp only); (try (refine foldL ?_; intro kQ kE)))
  k_steps
  exact ret _ a d _ _ _ _ _ _ _ (List.Mem.head _) (List.Mem.tail _ (List.Mem.head _)) l1 l2 (fun p hp => List.mem_cons_of_mem _ (List.mem_cons_of_mem _ hp)) _ _ (by k_asm) (by k_asm)
theorem layout_leaf (w : World) (p wd ht : Int) (tp tw th : Tok) (N : Led) :
    Tell w 42 [.int p tp, .int wd tw, .int ht th] 40 N (LeafK w N p wd ht) := by
  unfold Tell
  intro cx A₀ base h₀ L m mean mg mb s Q E B hf hk F X N₀ TT hd hu ret
  (refine wpAny_call ?_; k_dflt (refine' code_def ?k1 ?k2 ?k3 ?k4 ?k5 ?kA ?kF ?kK ?k6 ?k7 ?k8 ?k9 ?kB ?_ ?c2 ?c3 ?c4 ?c5; (case kA => exact rfl); (case kF => assumption); (case kK => assumption); (case k1 => k_asm); (case k2 => k_asm); (case k3 => k_asm); (case k4 => k_asm); (case k5 => k_asm); (case k6 => k_is); (case k7 => k_is); (case k8 => k_room); (case k9 => exact bnd3 "pane" "width" "height" rfl); (case c5 => decide); (case kB => exact locs rfl); (case c2 => exact rfl); (case c3 => exact rfl); (case c4 => exact rfl); k_whole; intro _ _ _ _ _ _ _ _ _; (try dsimp only); (try (refine foldL ?_; intro kQ kE))))
  k_steps
  rename Fr _ _ _ _ => F2
  rename News _ _ _ _ => N2
  rename Below _ _ (_ :: _) _ => B2
  rename Frag.In _ _ => X2
  rename Top _ _ _ _ _ _ => T2
  refine Tell.use (new_cell w _ _ _ _ _ _ _ _) B2 F2 X2 N2 T2 rfl rfl (by (first | exact rm1 hd (Nat.le_of_ble_eq_true rfl) | exact rm2 hd (Nat.le_of_ble_eq_true rfl) | (dsimp only; (first | (law_clear; lia) | lia | omega)))) (by (first | exact ru1 hu (Nat.le_of_ble_eq_true rfl) | exact ru2 hu (Nat.le_of_ble_eq_true rfl) | (dsimp only; (first | (law_clear; lia) | lia | omega)))) ?_
  intro kQ kM
  intro news2 a d t1 t2 t3 t4 t5 t6 t7 ha hd2 l1 l2 sub h2 tk2 F4 N4
  k_steps
  rename News h₀ L _ _ => nn
  rename ∀ p ∈ N, p.1 < _ => lt
  refine ret _ a d _ ?_ lt (l1 _ (List.Mem.head _)) l2 (fun p hp => sub _ (List.mem_cons_of_mem _ hp)) _ _ (by k_asm) nn
  rw [T.In]
  exact ⟨CellIn.mk ha hd2 (sub _ (List.Mem.head _)), by rw [T.InL]; trivial⟩
noncomputable abbrev kindS (r : Bool) : K := if r then .row else .col
theorem layout_kind (w : World) (r : Bool) (N : Led) : Tell w 73 [.bool r] 20 N (TokK (kindV (if r then .row else .col)) N) := by
  unfold Tell
  intro cx A₀ base h₀ L m mean mg mb s Q E B hf hk F X N₀ TT hd hu ret
  (refine wpAny_call ?_; k_dflt (refine' code_def ?k1 ?k2 ?k3 ?k4 ?k5 ?kA ?kF ?kK ?k6 ?k7 ?k8 ?k9 ?kB ?_ ?c2 ?c3 ?c4 ?c5; (case kA => exact rfl); (case kF => assumption); (case kK => assumption); (case k1 => k_asm); (case k2 => k_asm); (case k3 => k_asm); (case k4 => k_asm); (case k5 => k_asm); (case k6 => k_is); (case k7 => k_is); (case k8 => k_room); (case k9 => exact bnd1 "is_row" rfl); (case c5 => decide); (case kB => exact locs rfl); (case c2 => exact rfl); (case c3 => exact rfl); (case c4 => exact rfl); k_whole; intro _ _ _ _ _ _ _ _ _; (try dsimp only); (try (refine foldL ?_; intro kQ kE))))
  cases r
  all_goals k_steps
  all_goals exact ret _ _ rfl _ _ (by k_asm) (by k_asm)
theorem layout_side (w : World) (N : Led) {a d l : Addr} {k : K} {wd ht x y : Int} {items : List Addr} (C : CellIn w N a d l k wd ht x y items) (r : Bool) :
    Tell w 80 [.ref a, .bool r] 20 N (TokK (.int (if r then wd else ht)) N) := by
  unfold Tell
  intro cx A₀ base h₀ L m mean mg mb s Q E B hf hk F X N₀ TT hd hu ret
  refine letG ?_
  intro kG
  obtain ⟨t1, t2, t3, t4, t5, t6, t7, tk, tw, th, tx, ty, tp, e, ha, hdd, hl⟩ := C
  k_unfold
  clear kG
  (refine wpAny_call ?_; k_dflt (refine' code_def ?k1 ?k2 ?k3 ?k4 ?k5 ?kA ?kF ?kK ?k6 ?k7 ?k8 ?k9 ?kB ?_ ?c2 ?c3 ?c4 ?c5; (case kA => exact rfl); (case kF => assumption); (case kK => assumption); (case k1 => k_asm); (case k2 => k_asm); (case k3 => k_asm); (case k4 => k_asm); (case k5 => k_asm); (case k6 => k_is); (case k7 => k_is); (case k8 => k_room); (case k9 => exact bnd2 "cell" "is_row" rfl); (case c5 => decide); (case kB => exact locs rfl); (case c2 => exact rfl); (case c3 => exact rfl); (case c4 => exact rfl); k_whole; intro _ _ _ _ _ _ _ _ _; (try dsimp only); (try (refine foldL ?_; intro kQ kE))))
  cases r
  all_goals k_steps
  all_goals exact ret _ _ rfl _ _ (by k_asm) (by k_asm)
structure Area where
  pane : Int
  x : Int
  y : Int
  w : Int
  h : Int
  deriving DecidableEq
namespace T
mutual
noncomputable def areas : T → List Area | mk _ _ _ k w h x y ps => match k with
  | .pane p => [⟨p, x, y, w, h⟩]
  | _ => areasL ps
noncomputable def areasL : List T → List Area
  | [] => []
  | p :: r => p.areas ++ areasL r
end
end T
namespace T
theorem areasL_append : ∀ (p q : List T), areasL (p ++ q) = areasL p ++ areasL q
  | [], q => by simp [areasL]
  | a :: p, q => by simp [areasL, areasL_append p q]
end T
noncomputable def CopyK (w : World) (N : Led) (t : T) (φ : Value → Led → Prop) : Prop :=
  ∀ N' (t' : T) (h1 : Made w N N' t') (h2 : t'.er = t.er) (h3 : t'.areas = t.areas), φ (.ref t'.adr) N'
theorem layout_copy (w : World) : ∀ (n : Nat) (t : T) (N : Led), t.sz ≤ n → t.In w N → 
    Tell w 47 [.ref t.adr] (5 * n + 40) N (CopyK w N t) := by
  intro n
  induction n with
  | zero => intro t N h; cases t; simp [T.sz] at h
  | succ n ih =>
  intro t N₀ hn tin
  unfold Tell
  intro cx A₀ base h₀ L m mean mg mb s Q E B hf hk F X N TT hd hu ret
  cases t with | mk a d l k wd ht x y ps =>
  rw [T.In] at tin
  refine letG ?_
  intro kG
  obtain ⟨⟨t1, t2, t3, t4, t5, t6, t7, tk, tw, th, tx, ty, tp, e, ha, hdd, hl⟩, tl⟩ := tin
  k_unfold
  clear kG
  simp only [T.adr]
  (refine wpAny_call ?_; k_dflt (refine' code_def ?k1 ?k2 ?k3 ?k4 ?k5 ?kA ?kF ?kK ?k6 ?k7 ?k8 ?k9 ?kB ?_ ?c2 ?c3 ?c4 ?c5; (case kA => exact rfl); (case kF => assumption); (case kK => assumption); (case k1 => k_asm); (case k2 => k_asm); (case k3 => k_asm); (case k4 => k_asm); (case k5 => k_asm); (case k6 => k_is); (case k7 => k_is); (case k8 => k_room); (case k9 => exact bnd1 "cell" rfl); (case c5 => decide); (case kB => exact locs rfl); (case c2 => exact rfl); (case c3 => exact rfl); (case c4 => exact rfl); k_whole; intro _ _ _ _ _ _ _ _ _; (try dsimp only); (try (refine foldL ?_; intro kQ kE))))
  k_steps
  rename Fr _ _ _ _ => F2
  rename News _ _ _ _ => N2
  rename Below _ _ (_ :: _) _ => B2
  rename Frag.In _ _ => X2
  rename Top _ _ _ _ _ _ => T2
  rw [T.sz] at hn
  have hsz : T.szL ps ≤ n := by (first | (law_clear; lia) | lia | omega)
  have lim : n ≤ 200 := by simp only [recursionLimit] at hd; (first | (law_clear; lia) | lia | omega)
  refine comp_led rfl F2 N2 hl ?_ (fun r ys N => Ex3 fun (dn rp cs : List T) => And9 (ps = dn ++ rp) (r = (rp.map T.adr).map Value.ref) (ys = (cs.map T.adr).map Value.ref) (T.InL w N cs) ((∀ a ∈ T.fpL cs, New N₀ a)) ((T.fpL cs).Nodup) (T.erL cs = T.erL dn) (T.areasL cs = T.areasL dn) (∀ p ∈ N₀, p ∈ N))
    ⟨[], ps, [], rfl, rfl, rfl, by rw [T.InL]; trivial, by simp [T.fpL], by simp [T.fpL], rfl, rfl, fun p hp => hp⟩ (fun r ys N h => by obtain ⟨dn, rp, cs, h1, h2, h3, h4, h5, h6, h7, h8, h9⟩ := h; exact h9 _ hl) ?_ ?_
  · have := T.lenL ps
    simp only [List.length_map, sizeLine_eq]
    (first | (law_clear; lia) | lia | omega)
  · intro v r ys N I oI C oC D m₂ h tk E' HI hC hx F3 N3 off ne
    (try (refine foldL ?_; intro kQ kE))
    refine letG ?_
    intro kG
    obtain ⟨dn, rp, cs, hps, hv, hys, hcs, hnew, hnd, her, hareas, hN⟩ := HI
    k_unfold
    clear kG
    cases rp with
    | nil => simp at hv
    | cons q rp =>
    simp only [List.map_cons, List.cons.injEq] at hv
    obtain ⟨rfl, rfl⟩ := hv
    clear F2 N2
    k_steps
    have hq : q.In w ((I, oI) :: (C, oC) :: (D, LCg.lst ys) :: N) := (T.InL_mem tl q (by first | exact hps ▸ mem_mid _ _ _ | simp [hps])).all fun p hp => List.mem_cons_of_mem _ (List.mem_cons_of_mem _ (List.mem_cons_of_mem _ (hN p hp)))
    have hqz : q.sz ≤ n := by rw [hps, T.szL_append, T.szL] at hsz; (first | (law_clear; lia) | lia | omega)
    refine Tell.use (ih q _ hqz hq) B2 F3 X2 N3 T2 rfl rfl (by (first | exact rm1 hd (Nat.le_of_ble_eq_true rfl) | exact rm2 hd (Nat.le_of_ble_eq_true rfl) | (dsimp only; (first | (law_clear; lia) | lia | omega)))) (by (first | exact ru1 hu (Nat.le_of_ble_eq_true rfl) | exact ru2 hu (Nat.le_of_ble_eq_true rfl) | (dsimp only; (first | (law_clear; lia) | lia | omega)))) ?_
    intro kQ kM
    rintro news2 t' ⟨hin, hnw, hnd', hsub⟩ her' har' h2 tk2 F4 N4
    clear F3 N3
    k_steps
    have offt : ∀ a ∈ t'.fp, a ≠ I ∧ a ≠ C ∧ a ≠ D := fun a ha => ⟨(hnw a ha _ (.head _)).symm, (hnw a ha _ (.tail _ (.head _))).symm, (hnw a ha _ (.tail _ (.tail _ (.head _)))).symm⟩
    have hup : ∀ p ∈ N, p ∈ wipe3 I C D news2 := fun p hp => mem_wipe3 (hsub _ (List.mem_cons_of_mem _ (List.mem_cons_of_mem _ (List.mem_cons_of_mem _ hp)))) (off p hp)
    refine CPost.intro F4 N4 (hsub _ (.head _)) (hsub _ (.tail _ (.head _))) (hsub _ (.tail _ (.tail _ (.head _)))) ⟨dn ++ [q], rp, cs ++ [t'], by simp [hps], rfl, by simp [hys], ?_, ?_, ?_, ?_, ?_, fun p hp => hup _ (hN p hp)⟩
    · exact T.InL_append (hcs.all hup) (by rw [T.InL]; exact ⟨hin.to fun a ha o hm => mem_wipe3 hm (offt a ha), by rw [T.InL]; trivial⟩)
    · intro a ha
      rw [T.fpL_append] at ha
      rcases List.mem_append.mp ha with ha | ha
      · exact hnew a ha
      · simp only [T.fpL, List.append_nil] at ha
        exact (hnw a ha).sub fun p hp => List.mem_cons_of_mem _ (List.mem_cons_of_mem _ (List.mem_cons_of_mem _ (hN p hp)))
    · rw [T.fpL_append]
      simp only [T.fpL, List.append_nil]
      refine List.nodup_append.mpr ⟨hnd, hnd', fun a ha b hb e => ?_⟩
      subst e
      obtain ⟨o, ho⟩ := hcs.has a ha
      exact hnw a hb _ (List.mem_cons_of_mem _ (List.mem_cons_of_mem _ (List.mem_cons_of_mem _ ho))) rfl
    · simp [T.erL_append, T.erL, her, her']
    · simp [T.areasL_append, T.areasL, hareas, har']
  · rintro ys N g ⟨dn, rp, cs, hps, hv, hys, hcs, hnew, hnd, her, hareas, hN⟩
    have : rp = [] := by cases rp with | nil => rfl | cons => simp at hv
    subst this
    rw [List.append_nil] at hps
    subst hps
    unfold LCg.FinA
    intro D h tk F3 N3 o1
    clear F2 N2
    have ha2 := hN _ ha
    have hd2 := hN _ hdd
    k_steps
    refine Tell.use (new_cell w _ _ _ _ _ _ _ _) B2 F3 X2 N3 T2 rfl rfl (by (first | exact rm1 hd (Nat.le_of_ble_eq_true rfl) | exact rm2 hd (Nat.le_of_ble_eq_true rfl) | (dsimp only; (first | (law_clear; lia) | lia | omega)))) (by (first | exact ru1 hu (Nat.le_of_ble_eq_true rfl) | exact ru2 hu (Nat.le_of_ble_eq_true rfl) | (dsimp only; (first | (law_clear; lia) | lia | omega)))) ?_
    intro kQ kM
    intro news2 a' d' u1 u2 u3 u4 u5 u6 u7 ha' hd' l1 l2 sub h2 tk2 F4 N4
    clear F3 N3
    k_steps
    refine ret _ (T.mk a' d' D k wd ht x y cs) ⟨?_, ?_, ?_, fun p hp => sub _ (List.mem_cons_of_mem _ (hN p hp))⟩ ?_ ?_ _ _ (by k_asm) (by k_asm)
    · rw [T.In]
      refine ⟨CellIn.mk ha' hd' (e := ys.length) ?_, hcs.all fun p hp => sub _ (List.mem_cons_of_mem _ hp)⟩
      rw [hys] at sub
      have := sub _ (List.Mem.head _)
      rw [hys]
      exact this
    · intro b hb
      rw [T.fp] at hb
      rcases List.mem_cons.mp hb with rfl | hb
      · exact fun p hp => Nat.ne_of_lt (Nat.lt_trans (l1 _ (List.mem_cons_of_mem _ (hN p hp))) l2)
      rcases List.mem_cons.mp hb with rfl | hb
      · exact fun p hp => Nat.ne_of_lt (l1 _ (List.mem_cons_of_mem _ (hN p hp)))
      rcases List.mem_cons.mp hb with rfl | hb
      · exact fun p hp => off1_mem o1 p (hN p hp)
      · exact hnew b hb
    · have lD := l1 _ (List.Mem.head _)
      rw [T.fp]
      have hlt : ∀ b ∈ T.fpL cs, b < d' := fun b hb => by
        obtain ⟨o, ho⟩ := hcs.has b hb
        exact l1 _ (List.mem_cons_of_mem _ ho)
      have hne : D ∉ T.fpL cs := fun hb => by
        obtain ⟨o, ho⟩ := hcs.has D hb
        exact off1_mem o1 _ ho rfl
      have h1 : a' ≠ d' := Nat.ne_of_gt l2
      have h2 : a' ≠ D := Nat.ne_of_gt (Nat.lt_trans lD l2)
      have h3 : d' ≠ D := Nat.ne_of_gt lD
      have h4 : a' ∉ T.fpL cs := fun hb => Nat.lt_irrefl _ (Nat.lt_trans (hlt _ hb) l2)
      have h5 : d' ∉ T.fpL cs := fun hb => Nat.lt_irrefl _ (hlt _ hb)
      simp [h1, h2, h3, h4, h5, hne, hnd]
    · simp [T.er, her]
    · cases k <;> simp [T.areas, hareas]
namespace T
noncomputable def num (t : T) : Int := match t.kin with
  | .pane p => p
  | _ => 0
noncomputable def isPane (t : T) : Prop := t.kin = .pane t.num
noncomputable def area (t : T) : Area := ⟨t.num, t.xx, t.yy, t.wid, t.hei⟩
mutual
theorem leaves_pane : ∀ (t : T), ∀ q ∈ t.leaves, q.isPane
  | mk a d l k w h x y ps, q, hq => by
    cases k with
    | pane p => simp only [leaves, List.mem_singleton] at hq; subst hq; rfl
    | row => simp only [leaves] at hq; exact leavesL_pane ps q hq
    | col => simp only [leaves] at hq; exact leavesL_pane ps q hq
theorem leavesL_pane : ∀ (ps : List T), ∀ q ∈ leavesL ps, q.isPane
  | [], q, hq => by simp [leavesL] at hq
  | p :: r, q, hq => by
    rw [leavesL] at hq
    rcases List.mem_append.mp hq with hq | hq
    · exact leaves_pane p q hq
    · exact leavesL_pane r q hq
end
mutual
theorem areas_eq : ∀ (t : T), t.areas = t.leaves.map area
  | mk a d l k w h x y ps => by
    cases k with
    | pane p => simp [leaves, areas, area, num, kin, xx, yy, wid, hei]
    | row => simp only [leaves, areas]; exact areasL_eq ps
    | col => simp only [leaves, areas]; exact areasL_eq ps
theorem areasL_eq : ∀ (ps : List T), areasL ps = (leavesL ps).map area
  | [] => by simp [leavesL, areasL]
  | p :: r => by rw [leavesL, areasL, List.map_append, areas_eq p, areasL_eq r]
end
mutual
theorem leaves_in {w : World} {N : Led} : ∀ {t : T}, t.In w N → ∀ q ∈ t.leaves, q.In w N
  | mk a d l k wd h x y ps, hin, q, hq => by
    cases k with
    | pane p => simp only [leaves, List.mem_singleton] at hq; subst hq; exact hin
    | row => simp only [leaves] at hq; rw [In] at hin; exact leavesL_in hin.2 q hq
    | col => simp only [leaves] at hq; rw [In] at hin; exact leavesL_in hin.2 q hq
theorem leavesL_in {w : World} {N : Led} : ∀ {ps : List T}, InL w N ps → ∀ q ∈ leavesL ps, q.In w N
  | [], _, q, hq => by simp [leavesL] at hq
  | p :: r, hin, q, hq => by
    rw [InL] at hin
    rw [leavesL] at hq
    rcases List.mem_append.mp hq with hq | hq
    · exact leaves_in hin.1 q hq
    · exact leavesL_in hin.2 q hq
end
noncomputable def panes (t : T) : List Int := t.leaves.map num
theorem panes_areas (t : T) : t.panes = t.areas.map Area.pane := by rw [panes, areas_eq, List.map_map]; rfl
end T
noncomputable def IntsK (N₀ : Led) (ns : List Int) (φ : Value → Led → Prop) : Prop :=
  ∀ N' (l : Addr) (its : List Value) (e : Nat) (h : (l, listOf its.toArray e) ∈ N') (h2 : IntsAre its ns) (nw : New N₀ l) (sub : ∀ p ∈ N₀, p ∈ N'), φ (.ref l) N'
theorem layout_panes (w : World) (n : Nat) (t : T) (N₀ : Led) (hn : t.sz ≤ n) (tin : t.In w N₀) :
    Tell w 59 [.ref t.adr] (5 * n + 60) N₀ (IntsK N₀ t.panes) := by
  unfold Tell
  intro cx A₀ base h₀ L m mean mg mb s Q E B hf hk F X N TT hd hu ret
  (refine wpAny_call ?_; k_dflt (refine' code_def ?k1 ?k2 ?k3 ?k4 ?k5 ?kA ?kF ?kK ?k6 ?k7 ?k8 ?k9 ?kB ?_ ?c2 ?c3 ?c4 ?c5; (case kA => exact rfl); (case kF => assumption); (case kK => assumption); (case k1 => k_asm); (case k2 => k_asm); (case k3 => k_asm); (case k4 => k_asm); (case k5 => k_asm); (case k6 => k_is); (case k7 => k_is); (case k8 => k_room); (case k9 => exact bnd1 "cell" rfl); (case c5 => decide); (case kB => exact locs rfl); (case c2 => exact rfl); (case c3 => exact rfl); (case c4 => exact rfl); k_whole; intro _ _ _ _ _ _ _ _ _; (try dsimp only); (try (refine foldL ?_; intro kQ kE))))
  k_steps
  rename Fr _ _ _ _ => F2
  rename News _ _ _ _ => N2
  rename Below _ _ (_ :: _) _ => B2
  rename Frag.In _ _ => X2
  rename Top _ _ _ _ _ _ => T2
  have lim : n ≤ 200 := by simp only [recursionLimit] at hd; (first | (law_clear; lia) | lia | omega)
  have lv := T.leaves_len t
  refine Tell.use (layout_leaves w n t N₀ hn tin) B2 F2 X2 N2 T2 rfl rfl (by (first | exact rm1 hd (Nat.le_of_ble_eq_true rfl) | exact rm2 hd (Nat.le_of_ble_eq_true rfl) | (dsimp only; (first | (law_clear; lia) | lia | omega)))) (by (first | exact ru1 hu (Nat.le_of_ble_eq_true rfl) | exact ru2 hu (Nat.le_of_ble_eq_true rfl) | (dsimp only; (first | (law_clear; lia) | lia | omega)))) ?_
  intro kQ kM
  intro news2 l2 e2 hl2 lt2 sub2 h2 tk2 F4 N4
  clear F2 N2
  k_steps
  refine comp_led rfl F4 N4 hl2 ?_ (fun r ys N => Ex2 fun (dn rp : List T) => And5 (t.leaves = dn ++ rp) (r = (rp.map T.adr).map Value.ref) (IntsAre ys (dn.map T.num)) ((∀ p ∈ N₀, p ∈ N)) ((l2, listOf (refsA (t.leaves.map T.adr)) e2) ∈ N))
    ⟨[], t.leaves, rfl, rfl, .nil, sub2, hl2⟩ (fun r ys N h => by obtain ⟨dn, rp, h1, h2, h3, h4, h5⟩ := h; exact h5) ?_ ?_
  · simp only [List.length_map, sizeLine_eq]
    (first | (law_clear; lia) | lia | omega)
  · intro v r ys N I oI C oC D m₂ h tk E' HI hC hx F3 N3 off ne
    (try (refine foldL ?_; intro kQ kE))
    refine letG ?_
    intro kG
    obtain ⟨dn, rp, hps, hv, hys, hN, hl⟩ := HI
    k_unfold
    clear kG
    cases rp with
    | nil => simp at hv
    | cons q rp =>
    simp only [List.map_cons, List.cons.injEq] at hv
    obtain ⟨rfl, rfl⟩ := hv
    clear F4 N4
    have hq : q ∈ t.leaves := by rw [hps]; simp
    have hqi := (T.leaves_in tin q hq).all hN
    have hqp := T.leaves_pane t q hq
    refine letG ?_
    intro kG
    obtain ⟨t1, t2, t3, t4, t5, t6, t7, tk, tw, th, tx, ty, tp, e, ha, hdd, hl⟩ := hqi.cell
    k_unfold
    clear kG
    rw [hqp] at hdd
    dsimp only [kindV, paneV] at hdd
    k_steps
    refine CPost.same F3 N3 off ⟨dn ++ [q], rp, by simp [hps], rfl, ?_, hN, by assumption⟩
    rw [List.map_append]
    exact hys.append (IntsAre.cons _ _ .nil)
  · rintro ys N g ⟨dn, rp, hps, hv, hys, hN, hl⟩
    have : rp = [] := by cases rp with | nil => rfl | cons => simp at hv
    subst this
    rw [List.append_nil] at hps
    unfold LCg.FinE
    intro D h tk F3 N3 o1
    clear F4 N4
    k_steps
    refine ret _ D ys ys.length (List.Mem.head _) ?_ (fun p hp => off1_mem o1 p (hN p hp)) (fun p hp => List.mem_cons_of_mem _ (hN p hp)) _ _ (by k_asm) (by k_asm)
    rw [T.panes, hps]
    exact hys
namespace T
mutual
noncomputable def path (t : T) (p : Int) : Option (List T) := match t with
  | mk a d l k w h x y ps => match k with
    | .pane q => if q = p then some [mk a d l k w h x y ps] else none
    | _ => (pathL ps p).map (mk a d l k w h x y ps :: ·)
noncomputable def pathL (ps : List T) (p : Int) : Option (List T) := match ps with
  | [] => none
  | q :: r => match q.path p with
    | some l => some l
    | none => pathL r p
end
theorem pathL_append (p : Int) : ∀ (a b : List T), pathL a p = none → pathL (a ++ b) p = pathL b p
  | [], b, _ => rfl
  | q :: a, b, h => by
    rw [pathL] at h
    rw [List.cons_append, pathL]
    cases hq : q.path p with
    | some l => rw [hq] at h; simp at h
    | none => rw [hq] at h; simp only at h ⊢; exact pathL_append p a b h
mutual
theorem path_len : ∀ (t : T) (p : Int) (l : List T), t.path p = some l → l.length ≤ t.sz
  | mk a d l k w h x y ps, p, r, e => by
    cases k with
    | pane q =>
      simp only [path] at e
      split at e
      · cases e; simp [sz]
      · cases e
    | row =>
      simp only [path] at e
      refine letG ?_
      intro kG
      obtain ⟨r', e1, rfl⟩ := Option.map_eq_some_iff.mp e
      k_unfold
      clear kG
      have := pathL_len ps p r' e1
      simp [sz]; (first | (law_clear; lia) | lia | omega)
    | col =>
      simp only [path] at e
      refine letG ?_
      intro kG
      obtain ⟨r', e1, rfl⟩ := Option.map_eq_some_iff.mp e
      k_unfold
      clear kG
      have := pathL_len ps p r' e1
      simp [sz]; (first | (law_clear; lia) | lia | omega)
theorem pathL_len : ∀ (ps : List T) (p : Int) (l : List T), pathL ps p = some l → l.length ≤ szL ps
  | [], p, l, e => by simp [pathL] at e
  | q :: r, p, l, e => by
    rw [pathL] at e
    cases hq : q.path p with
    | some l' =>
      rw [hq] at e
      cases e
      have := path_len q p l hq
      simp [szL]; (first | (law_clear; lia) | lia | omega)
    | none =>
      rw [hq] at e
      have := pathL_len r p l e
      simp [szL]; (first | (law_clear; lia) | lia | omega)
end
end T
theorem layout_path (w : World) (p : Int) (tp0 : Tok) : ∀ (n : Nat) (t : T) (N : Led), t.sz ≤ n → t.In w N → 
    Tell w 66 [.ref t.adr, .int p tp0] (5 * n + 20) N (PostK fun r N' => (match t.path p with
      | none => r = .none
      | some l => Ex2 fun a e => And3 (r = .ref a) ((a, listOf (refsA (l.map T.adr)) e) ∈ N') (New N a)) ∧ ∀ p ∈ N, p ∈ N') := by
  intro n
  induction n with
  | zero => intro t N h; cases t; simp [T.sz] at h
  | succ n ih =>
  intro t N₀ hn tin
  unfold Tell
  intro cx A₀ base h₀ L m mean mg mb s Q E B hf hk F X N TT hd hu ret
  cases t with | mk a d l k wd ht x y ps =>
  rw [T.In] at tin
  refine letG ?_
  intro kG
  obtain ⟨⟨t1, t2, t3, t4, t5, t6, t7, tk, tw, th, tx, ty, tp, e, ha, hdd, hl⟩, tl⟩ := tin
  k_unfold
  clear kG
  simp only [T.adr]
  (refine wpAny_call ?_; k_dflt (refine' code_def ?k1 ?k2 ?k3 ?k4 ?k5 ?kA ?kF ?kK ?k6 ?k7 ?k8 ?k9 ?kB ?_ ?c2 ?c3 ?c4 ?c5; (case kA => exact rfl); (case kF => assumption); (case kK => assumption); (case k1 => k_asm); (case k2 => k_asm); (case k3 => k_asm); (case k4 => k_asm); (case k5 => k_asm); (case k6 => k_is); (case k7 => k_is); (case k8 => k_room); (case k9 => exact bnd2 "cell" "pane" rfl); (case c5 => decide); (case kB => exact locs rfl); (case c2 => exact rfl); (case c3 => exact rfl); (case c4 => exact rfl); k_whole; intro _ _ _ _ _ _ _ _ _; (try dsimp only); (try (refine foldL ?_; intro kQ kE))))
  by_cases kp : ∃ p, k = K.pane p
  · obtain ⟨q, rfl⟩ := kp
    dsimp only [kindV, paneV] at hdd
    k_steps
    · refine ret _ _ ⟨?_, fun p hp => List.mem_cons_of_mem _ hp⟩ _ _ (by k_asm) (by k_asm)
      rename q = p => hqp
      rename ∀ p ∈ N₀, p.1 < _ => lt
      rw [T.path]
      simp only [hqp, if_true]
      exact ⟨_, _, rfl, List.Mem.head _, fun q hq => Nat.ne_of_lt (lt q hq)⟩
    · refine ret _ _ ⟨?_, fun p hp => hp⟩ _ _ (by k_asm) (by k_asm)
      rename q ≠ p => hqp
      rw [T.path]
      simp only [hqp, if_false]
  · have hlv : (T.mk a d l k wd ht x y ps).path p = (T.pathL ps p).map (T.mk a d l k wd ht x y ps :: ·) := by
      cases k with
      | pane p => exact absurd ⟨p, rfl⟩ kp
      | row => simp only [T.path]
      | col => simp only [T.path]
    rw [hlv] at ret
    rw [T.sz] at hn
    k_steps
    refine eq_kindB (k' := .pane 0) (b := false) (by cases k with | pane p => exact absurd ⟨p, rfl⟩ kp | row => rfl | col => rfl) ?_
    clear hlv kp
    k_steps
    all_goals (
      rename Fr _ _ _ _ => F2
      rename News _ _ _ _ => N2
      rename Below _ _ (_ :: _) _ => B2
      rename Frag.In _ _ => X2
      rename Top _ _ _ _ _ _ => T2
      refine iter_ledS F2 N2 hl rfl rfl rfl rfl ["found"] (fun a r N => Ex3 fun (v : Option Value) (dn rp : List T) => And5 (a = [v]) (ps = dn ++ rp) (r = (rp.map T.adr).map Value.ref) (T.pathL dn p = none) (∀ p ∈ N₀, p ∈ N))
        ⟨_, [], ps, rfl, rfl, rfl, rfl, fun p hp => hp⟩ (fun a r N h => by obtain ⟨v, dn, rp, h0, h1, h2, h3, h4⟩ := h; exact h4 _ hl) ?_ ?_
      · intro av v r N I it h tk HI hne hc F3 N3
        (try (refine foldL ?_; intro kQ kE))
        refine letG ?_
        intro kG
        obtain ⟨fv, dn, rp, rfl, hps, hv, hpn, hN⟩ := HI
        k_unfold
        clear kG
        cases rp with
        | nil => simp at hv
        | cons q rp =>
        simp only [List.map_cons, List.cons.injEq] at hv
        obtain ⟨rfl, rfl⟩ := hv
        clear F2 N2
        k_steps
        have hsz : T.szL dn + (q.sz + T.szL rp) ≤ n := by rw [hps, T.szL_append, T.szL] at hn; (first | (law_clear; lia) | lia | omega)
        have hq : q.In w ((I, it) :: N) := (T.InL_mem tl q (by first | exact hps ▸ mem_mid _ _ _ | simp [hps])).all fun p hp => List.mem_cons_of_mem _ (hN p hp)
        refine Tell.use (ih q _ (by (first | (law_clear; lia) | lia | omega)) hq) B2 F3 X2 N3 T2 rfl rfl (by (first | exact rm1 hd (Nat.le_of_ble_eq_true rfl) | exact rm2 hd (Nat.le_of_ble_eq_true rfl) | (dsimp only; (first | (law_clear; lia) | lia | omega)))) (by (first | exact ru1 hu (Nat.le_of_ble_eq_true rfl) | exact ru2 hu (Nat.le_of_ble_eq_true rfl) | (dsimp only; (first | (law_clear; lia) | lia | omega)))) ?_
        intro kQ kM
        rintro r2 news2 ⟨hr, sub2⟩
        intro h2 tk2 F4 N4
        clear F3 N3
        cases hqp : q.path p with
        | none =>
          rw [hqp] at hr
          subst hr
          k_steps
          refine LPostS.intro (by k_asm) (by k_asm) (sub2 _ (.head _)) ?_ ⟨_, dn ++ [q], rp, rfl, by simp [hps], rfl, ?_, fun p hp => mem_wipe (sub2 _ (.tail _ (hN p hp))) (hne _ (hN p hp))⟩
          · intro z hz1 hz2
            simp only [List.mem_singleton] at hz2
            simp +zetaDelta [up, ovl, hz1, hz2]
          · rw [T.pathL_append _ _ _ hpn, T.pathL, hqp]
            rfl
        | some l' =>
          rw [hqp] at hr
          refine letG ?_
          intro kG
          obtain ⟨a2, e2, rfl, hl2, hnew⟩ := hr
          k_unfold
          clear kG
          k_steps
          have s1 := T.path_len q p l' hqp
          refine add_led (by k_asm) (by k_asm) (List.Mem.head _) (.tail _ hl2) (by simp only [List.length_map, sizeLine_eq, List.length_cons, List.length_nil]; simp only [recursionLimit] at hd; (first | (law_clear; lia) | lia | omega)) ?_
          intro D h5 F5 N5 lt5
          k_steps
          refine ret _ _ ⟨?_, fun p hp => .tail _ (.tail _ (sub2 _ (.tail _ (hN p hp))))⟩ _ _ (by k_asm) (by k_asm)
          rw [hps, T.pathL_append _ _ _ hpn, T.pathL, hqp]
          exact ⟨_, _, rfl, List.Mem.head _, fun q hq => Nat.ne_of_lt (lt5 _ (.tail _ (sub2 _ (.tail _ (hN q hq)))))⟩
      · intro av u N h tk HI F3 N3
        (try (refine foldL ?_; intro kQ kE))
        refine letG ?_
        intro kG
        obtain ⟨fv, dn, rp, rfl, hps, hv, hpn, hN⟩ := HI
        k_unfold
        clear kG
        have : rp = [] := by cases rp with | nil => rfl | cons => simp at hv
        subst this
        rw [List.append_nil] at hps
        subst hps
        clear F2 N2
        k_steps
        refine ret _ _ ⟨?_, hN⟩ _ _ (by k_asm) (by k_asm)
        rw [hpn]
        rfl)
noncomputable def IdxK (N₀ : Led) (as : List Addr) (c : Addr) (φ : Value → Led → Prop) : Prop :=
  ∀ N' (i : Nat) (t : Tok) (h : as[i]? = some c) (h2 : c ∉ as.take i) (sub : ∀ p ∈ N₀, p ∈ N'), φ (.int (i : Int) t) N'
theorem layout_index (w : World) (N₀ : Led) (l : Addr) (as : List Addr) (e : Nat) (hl : (l, listOf (refsA as) e) ∈ N₀) (c : Addr) (hc : c ∈ as) (hcell : ∀ a ∈ as, ∃ d, (a, instObj 31 d) ∈ N₀) :
    Tell w 94 [.ref l, .ref c] 20 N₀ (IdxK N₀ as c) := by
  unfold Tell
  intro cx A₀ base h₀ L m mean mg mb s Q E B hf hk F X N TT hd hu ret
  (refine wpAny_call ?_; k_dflt (refine' code_def ?k1 ?k2 ?k3 ?k4 ?k5 ?kA ?kF ?kK ?k6 ?k7 ?k8 ?k9 ?kB ?_ ?c2 ?c3 ?c4 ?c5; (case kA => exact rfl); (case kF => assumption); (case kK => assumption); (case k1 => k_asm); (case k2 => k_asm); (case k3 => k_asm); (case k4 => k_asm); (case k5 => k_asm); (case k6 => k_is); (case k7 => k_is); (case k8 => k_room); (case k9 => exact bnd2 "parts" "cell" rfl); (case c5 => decide); (case kB => exact locs rfl); (case c2 => exact rfl); (case c3 => exact rfl); (case c4 => exact rfl); k_whole; intro _ _ _ _ _ _ _ _ _; (try dsimp only); (try (refine foldL ?_; intro kQ kE))))
  k_steps
  rename Fr _ _ _ _ => F2
  rename News _ _ _ _ => N2
  refine enum_led F2 N2 hl (by rfl) (by rfl) (by rfl) (by rfl) ["at", "part"] (fun a i r N => Ex4 fun (u v : Option Value) (dn rp : List Addr) => And6 (a = [u, v]) (as = dn ++ rp) (dn.length = i) (r = rp.map Value.ref) (c ∉ dn) (∀ p ∈ N₀, p ∈ N))
    ⟨_, _, [], as, rfl, rfl, rfl, rfl, by simp, fun p hp => hp⟩ (fun a i r N h => by obtain ⟨u, v, dn, rp, h0, h1, h2, h3, h4, h5⟩ := h; exact h5 _ hl) ?_ ?_
  · intro a i v r N its T t h tk HI hT off F3 N3
    (try (refine foldL ?_; intro kQ kE))
    refine letG ?_
    intro kG
    obtain ⟨u1, u2, dn, rp, rfl, has, hi, hr, hcd, hN⟩ := HI
    k_unfold
    clear kG
    cases rp with
    | nil => simp at hr
    | cons q rp =>
    simp only [List.map_cons, List.cons.injEq] at hr
    obtain ⟨rfl, rfl⟩ := hr
    clear F2 N2
    k_steps
    by_cases hq : q = c
    · subst hq
      refine wpAny_is_ref_self ?_
      k_steps
      exact ret _ i _ (by simp [has, ← hi]) (by simpa [has, ← hi] using hcd) (fun p hp => hp) _ _ (by k_asm) (News.sub (by k_asm) fun p hp => List.mem_append.mpr (.inr (hN p hp)))
    · obtain ⟨d1, hd1⟩ := hcell q (by simp [has])
      obtain ⟨d2, hd2⟩ := hcell c hc
      rename News _ _ _ (_ ++ _) => N4
      refine kto_is (N4 _ (List.mem_append.mpr (.inr (hN _ hd1)))).1 (N4 _ (List.mem_append.mpr (.inr (hN _ hd2)))).1 hq (by first | exact mem_mid _ _ _ | exact .head _ | exact .tail _ (.head _) | exact .tail _ (.tail _ (.head _)) | simp) ?_
      k_steps
      refine PPost.same (by k_asm) (by k_asm) off ?_ ⟨_, _, dn ++ [q], rp, rfl, by simp [has], by simp [hi], rfl, by simp [hcd, Ne.symm hq], hN⟩
      intro z hz
      simp only [List.mem_cons, List.not_mem_nil, or_false, not_or] at hz
      simp +zetaDelta [up, ovl, hz]
  · intro a i N h tk HI F3 N3
    (try (refine foldL ?_; intro kQ kE))
    refine letG ?_
    intro kG
    obtain ⟨u, v, dn, rp, rfl, has, hi, hr, hcd, hN⟩ := HI
    k_unfold
    clear kG
    have : rp = [] := by cases rp with | nil => rfl | cons => simp at hr
    subst this
    rw [List.append_nil] at has
    subst has
    exact absurd hc hcd
noncomputable def K.isPane : K → Bool
  | .pane _ => true
  | _ => false
namespace P
mutual
noncomputable def Ok : P → Prop
  | mk k _ _ ps => (if k.isPane then ps = [] else 2 ≤ ps.length ∧ ∀ p ∈ ps, p.kin ≠ k) ∧ OkL ps
noncomputable def OkL : List P → Prop
  | [] => True
  | p :: q => p.Ok ∧ OkL q
end
theorem OkL_mem : ∀ {ps : List P}, OkL ps → ∀ p ∈ ps, p.Ok
  | [], _, _, h => nomatch h
  | q :: r, h, p, hp => by
    rw [OkL] at h
    rcases List.mem_cons.mp hp with rfl | hp
    · exact h.1
    · exact OkL_mem h.2 p hp
theorem growF_kin (r : Bool) (m : Nat) (p : P) : (growF r m p).kin = p.kin := by cases p; rw [growF]; rfl
theorem growFA_mem (r : Bool) (m : Nat) : ∀ {ps : List P} {p : P}, p ∈ growFA r m ps → ∃ q ∈ ps, p.kin = q.kin
  | [], p, h => by simp [growFA] at h
  | a :: ps, p, h => by
    rw [growFA] at h
    rcases List.mem_cons.mp h with rfl | h
    · exact ⟨a, by simp, growF_kin r m a⟩
    · refine letG ?_
      intro kG
      obtain ⟨q, hq, e⟩ := growFA_mem r m h
      k_unfold
      clear kG
      exact ⟨q, by simp [hq], e⟩
theorem growFA_length (r : Bool) (m : Nat) : ∀ ps : List P, (growFA r m ps).length = ps.length
  | [] => rfl
  | a :: ps => by rw [growFA, List.length_cons, List.length_cons, growFA_length r m ps]
theorem growFH_length (r : Bool) (m : Nat) : ∀ ps : List P, (growFH r m ps).length = ps.length
  | [] => rfl
  | a :: ps => by rw [growFH, List.length_cons, List.length_cons]
mutual
theorem growF_ok (r : Bool) (m : Nat) : ∀ p : P, p.Ok → (growF r m p).Ok
  | mk k w h ps, hp => by
    rw [growF]
    rw [Ok] at hp ⊢
    by_cases hk : k = sideK r
    · simp only [if_pos hk]
      have hi : k.isPane = false := by rw [hk]; cases r <;> rfl
      rw [hi] at hp ⊢
      simp only [Bool.false_eq_true, if_false] at hp ⊢
      refine ⟨⟨by rw [growFH_length]; exact hp.1.1, fun p hq => ?_⟩, growFH_ok r m ps hp.2⟩
      cases ps with
      | nil => simp [growFH] at hq
      | cons a ps =>
        rw [growFH] at hq
        rcases List.mem_cons.mp hq with rfl | hq
        · rw [growF_kin]; exact hp.1.2 a (by first | exact mem_mid _ _ _ | exact .head _ | exact .tail _ (.head _) | exact .tail _ (.tail _ (.head _)) | simp)
        · exact hp.1.2 p (by simp [hq])
    · simp only [if_neg hk]
      refine ⟨?_, growFA_ok r m ps hp.2⟩
      have h1 := hp.1
      split
      · rename_i hi
        rw [if_pos hi] at h1
        rw [h1]; rfl
      · rename_i hi
        rw [if_neg hi] at h1
        refine ⟨by rw [growFA_length]; exact h1.1, fun p hq => ?_⟩
        refine letG ?_
        intro kG
        obtain ⟨q, hq', e⟩ := growFA_mem r m hq
        k_unfold
        clear kG
        rw [e]; exact h1.2 q hq'
theorem growFH_ok (r : Bool) (m : Nat) : ∀ ps : List P, OkL ps → OkL (growFH r m ps)
  | [], _ => by rw [growFH, OkL]; trivial
  | a :: ps, h => by
    rw [growFH, OkL]
    rw [OkL] at h
    exact ⟨growF_ok r m a h.1, h.2⟩
theorem growFA_ok (r : Bool) (m : Nat) : ∀ ps : List P, OkL ps → OkL (growFA r m ps)
  | [], _ => by rw [growFA, OkL]; trivial
  | a :: ps, h => by
    rw [growFA, OkL]
    rw [OkL] at h
    exact ⟨growF_ok r m a h.1, growFA_ok r m ps h.2⟩
end
theorem deal_ok (r : Bool) (m len : Nat) : ∀ (i : Nat) (ps : List P), OkL ps → OkL (deal r m len i ps)
  | _, [], _ => by rw [deal, OkL]; trivial
  | i, a :: ps, h => by
    rw [deal, OkL]
    rw [OkL] at h
    exact ⟨growF_ok _ _ _ h.1, deal_ok r m len (i + 1) ps h.2⟩
end P
namespace T
mutual
theorem sz_fp : ∀ t : T, t.fp.length = 3 * t.sz
  | mk a d l k w h x y ps => by
    have := szL_fp ps
    simp [fp, sz]; (first | (law_clear; lia) | lia | omega)
theorem szL_fp : ∀ ps : List T, (fpL ps).length = 3 * szL ps
  | [] => by simp [fpL, szL]
  | p :: r => by
    have h1 := sz_fp p
    have h2 := szL_fp r
    simp [fpL, szL]; (first | (law_clear; lia) | lia | omega)
end
theorem szL_mem : ∀ {ps : List T} {p : T}, p ∈ ps → p.sz ≤ szL ps
  | q :: r, p, h => by
    rw [szL]
    rcases List.mem_cons.mp h with rfl | h
    · (first | (law_clear; lia) | lia | omega)
    · have := szL_mem h
      (first | (law_clear; lia) | lia | omega)
end T
theorem sameK_pane (k : K) (q : Int) : sameK k (.pane q) = k.isPane := by cases k <;> rfl
theorem sameK_side (k : K) (r : Bool) : sameK k (sideK r) = decide (k = sideK r) := by
  cases k <;> cases r <;> rfl
noncomputable def ChangeK (w : World) (N : Led) (t : T) (r : Bool) (m : Nat) (φ : Value → Led → Prop) : Prop :=
  ∀ N' (t' : T) (h1 : t'.In w N') (h2 : t'.fp = t.fp) (h3 : t'.er = t.er.grow r m) (h4 : ∀ p ∈ N, p.1 ∉ t.fp → p ∈ N'), φ .none N'
theorem layout_change (w : World) (r : Bool) : ∀ (n : Nat) (t : T) (N : Led) (m : Nat) (tm : Tok), t.sz ≤ n → t.In w N → t.fp.Nodup → t.er.Ok → m < 1000000 →
    Tell w 106 [.ref t.adr, .bool r, .int (m : Int) tm] (5 * n + 40) N (ChangeK w N t r m) := by
  intro n
  induction n with
  | zero => intro t N m tm h; cases t; simp [T.sz] at h
  | succ n ih =>
  intro t N₀ c tm hn tin hnd hok hc
  unfold Tell
  intro cx A₀ base h₀ L m mean mg mb s Q E B hf hk F X N TT hd hu ret
  cases t with | mk a d l k wd ht x y ps =>
  have tin0 := tin
  rw [T.In] at tin
  have C := tin.1
  have tl := tin.2
  simp only [T.adr]
  (refine wpAny_call ?_; k_dflt (refine' code_def ?k1 ?k2 ?k3 ?k4 ?k5 ?kA ?kF ?kK ?k6 ?k7 ?k8 ?k9 ?kB ?_ ?c2 ?c3 ?c4 ?c5; (case kA => exact rfl); (case kF => assumption); (case kK => assumption); (case k1 => k_asm); (case k2 => k_asm); (case k3 => k_asm); (case k4 => k_asm); (case k5 => k_asm); (case k6 => k_is); (case k7 => k_is); (case k8 => k_room); (case k9 => exact bnd3 "cell" "is_row" "change" rfl); (case c5 => decide); (case kB => exact locs rfl); (case c2 => exact rfl); (case c3 => exact rfl); (case c4 => exact rfl); k_whole; intro _ _ _ _ _ _ _ _ _; (try dsimp only); (try (refine foldL ?_; intro kQ kE))))
  k_steps
  rename Fr _ _ _ _ => F2
  rename News _ _ _ _ => N2
  rename Below _ _ (_ :: _) _ => B2
  rename Frag.In _ _ => X2
  rename Top _ _ _ _ _ _ => T2
  refine Tell.use (layout_side w N₀ C r) B2 F2 X2 N2 T2 rfl rfl (by (first | exact rm1 hd (Nat.le_of_ble_eq_true rfl) | exact rm2 hd (Nat.le_of_ble_eq_true rfl) | (dsimp only; (first | (law_clear; lia) | lia | omega)))) (by (first | exact ru1 hu (Nat.le_of_ble_eq_true rfl) | exact ru2 hu (Nat.le_of_ble_eq_true rfl) | (dsimp only; (first | (law_clear; lia) | lia | omega)))) ?_
  intro kQ kM
  rintro N3 ts rfl h3 tk3 F3 N3'
  clear F2 N2
  k_steps
  refine Tell.use (layout_set_side w N3 C r _ _) B2 F3 X2 N3' T2 rfl rfl (by (first | exact rm1 hd (Nat.le_of_ble_eq_true rfl) | exact rm2 hd (Nat.le_of_ble_eq_true rfl) | (dsimp only; (first | (law_clear; lia) | lia | omega)))) (by (first | exact ru1 hu (Nat.le_of_ble_eq_true rfl) | exact ru2 hu (Nat.le_of_ble_eq_true rfl) | (dsimp only; (first | (law_clear; lia) | lia | omega)))) ?_
  intro kQ kM
  intro N4 C4 keep4 h4 tk4 F4 N4'
  clear F3 N3'
  rw [T.fp] at hnd
  rw [T.sz] at hn
  rw [T.er, P.Ok] at hok
  have hd1 : d ∉ T.fpL ps := fun h => by simp [h] at hnd
  have hl1 : l ∉ T.fpL ps := fun h => by simp [h] at hnd
  have ha1 : a ∉ T.fpL ps := fun h => by simp [h] at hnd
  have hnps : (T.fpL ps).Nodup := by simp at hnd; exact hnd.2.2.2
  have hsz : T.szL ps ≤ n := by (first | (law_clear; lia) | lia | omega)
  have tl4 : T.InL w N4 ps := tl.to fun b hb o hm => keep4 _ hm fun e => hd1 (e ▸ hb)
  have C5 := C4
  refine letG ?_
  intro kG
  obtain ⟨t1, t2, t3, t4, t5, t6, t7, tk, tw, th, tx, ty, tp, e, ha, hdd, hl⟩ := C5
  k_unfold
  clear kG
  k_steps
  refine Tell.use (layout_kind w r N4) B2 F4 X2 N4' T2 rfl rfl (by (first | exact rm1 hd (Nat.le_of_ble_eq_true rfl) | exact rm2 hd (Nat.le_of_ble_eq_true rfl) | (dsimp only; (first | (law_clear; lia) | lia | omega)))) (by (first | exact ru1 hu (Nat.le_of_ble_eq_true rfl) | exact ru2 hu (Nat.le_of_ble_eq_true rfl) | (dsimp only; (first | (law_clear; lia) | lia | omega)))) ?_
  intro kQ kM
  rintro N5 tq rfl h5 tk5 F5 N5'
  clear F4 N4'
  k_steps
  have hside : CellIn w N5 a d l k (if r then wd + (c : Int) else wd) (if r then ht else ht + (c : Int)) x y (ps.map T.adr) := by
    cases r
    · simpa using C4
    · simpa using C4
  have hsk := sameK_side k r
  by_cases hk1 : k = sideK r
  · refine ne_kindB (k' := sideK r) (b := false) (by rw [hsk, decide_eq_true hk1]; rfl) ?_
    k_steps
    rename Fr _ _ _ _ => F6
    have hlen : 2 ≤ ps.length := by
      have h1 := hok.1
      rw [hk1] at h1
      cases r <;> simp [K.isPane, T.erL_length] at h1 <;> exact h1.1
    have hel : (T.erL ps).length = ps.length := T.erL_length ps
    refine while_led (n₀ := c) F6 N5' ["change", "part"] (fun n a N => Ex4 fun (cs : List T) (j : Nat) (tc : Tok) (u : Option Value) => And8 (a = [some (.int ((c : Int) - (j : Int)) tc), u]) (n = c - j) (j ≤ c) ((j % ps.length = 0 ∨ j = c)) (cs.map T.fp = ps.map T.fp) (T.InL w N cs) (T.erL cs = P.deal r j ps.length 0 (T.erL ps)) (∀ p ∈ N5, p.1 ∉ T.fpL ps → p ∈ N)) ⟨ps, 0, _, _, (by rw [show ((c : Int) - ((0 : Nat) : Int)) = (c : Int) from by simp]; rfl), rfl, Nat.zero_le _, .inl (by first | exact mem_mid _ _ _ | exact .head _ | exact .tail _ (.head _) | exact .tail _ (.tail _ (.head _)) | simp), rfl, tl4, (P.deal_zero _ _ _ _).symm, fun p hp _ => hp⟩ ?_
    intro n' av N h tk HI F7 N7
    (try (refine foldL ?_; intro kQ kE))
    refine letG ?_
    intro kG
    obtain ⟨cs, j, tc, u, rfl, rfl, hj, hjm, hfp, hcs, her, hN⟩ := HI
    k_unfold
    clear kG
    clear F6 N5'
    have hfl := T.map_fp hfp
    have ha7 := hN _ ha ha1
    have hd7 := hN _ hdd hd1
    have hl7 := hN _ hl hl1
    k_steps
    · rename ((c : Int) - (j : Int) ≠ 0) => hne0
      rename News _ _ _ N => N8
      rename Fr _ _ _ _ => F8
      have hjc : j < c := by (first | (law_clear; lia) | lia | omega)
      have hj0 : j % ps.length = 0 := by rcases hjm with h | h; exact h; (first | (law_clear; lia) | lia | omega)
      refine iter_ledS F8 N8 hl7 (by rfl) (by rfl) (by rfl) (by rfl) ["change"] (fun a rest N => Ex4 fun (dn rp : List T) (j' : Nat) (tc : Tok) => And7 (a = [some (.int ((c : Int) - (j' : Int)) tc)]) (j' = min c (j + dn.length)) ((dn ++ rp).map T.fp = ps.map T.fp) (rest = (rp.map T.adr).map Value.ref) (T.InL w N (dn ++ rp)) (T.erL (dn ++ rp) = P.deal r j' ps.length 0 (T.erL ps)) (∀ p ∈ N5, p.1 ∉ T.fpL ps → p ∈ N)) ⟨[], cs, j, tc, rfl, by simp; (first | (law_clear; lia) | lia | omega), hfp, by rw [hfl.2], hcs, her, hN⟩ (fun a rest N h => by obtain ⟨dn, rp, j', tc, h0, h1, h2, h3, h4, h5, h6⟩ := h; exact h6 _ hl hl1) ?_ ?_
      · intro a v rest N I it h tk HI hneI hc2 F9 N9
        (try (refine foldL ?_; intro kQ kE))
        refine letG ?_
        intro kG
        obtain ⟨dn, rp, j', tc', rfl, hj', hfp', hv, hcs', her', hN'⟩ := HI
        k_unfold
        clear kG
        cases rp with
        | nil => simp at hv
        | cons q rp =>
        simp only [List.map_cons, List.cons.injEq] at hv
        obtain ⟨rfl, rfl⟩ := hv
        clear F8 N8
        have hqi : q.In w N := T.InL_mem hcs' q (by first | exact mem_mid _ _ _ | exact .head _ | exact .tail _ (.head _) | exact .tail _ (.tail _ (.head _)) | simp)
        have hqI : q.In w ((I, it) :: N) := hqi.all fun p hp => List.mem_cons_of_mem _ hp
        have hfl' := T.map_fp hfp'
        have hnd2 : (T.fpL (dn ++ q :: rp)).Nodup := by rw [hfl'.1]; exact hnps
        have hqk : ∀ b ∈ q.fp, b ≠ I := fun b hb => by
          obtain ⟨o, ho⟩ := hqi.has b hb
          exact hneI _ ho
        have hll : (dn ++ q :: rp).length = ps.length := by
          have := congrArg List.length hfp'
          simpa using this
        have hqmem : ∃ p ∈ ps, p.fp = q.fp := by
          have : q.fp ∈ ps.map T.fp := by rw [← hfp']; simp
          refine letG ?_
          intro kG
          obtain ⟨p, hp, e⟩ := List.mem_map.mp this
          k_unfold
          clear kG
          exact ⟨p, hp, e⟩
        k_steps
        · rename ((c : Int) - (j' : Int) > 0) => hpos
          have hj'c : j' < c := by (first | (law_clear; lia) | lia | omega)
          have hj'e : j' = j + dn.length := mj_eq hj' hj'c
          have hmod : dn.length = j' % ps.length := by
            rw [hj'e, Nat.add_mod, hj0, Nat.zero_add, Nat.mod_mod, Nat.mod_eq_of_lt]
            rw [List.length_append, List.length_cons] at hll
            (first | (law_clear; lia) | lia | omega)
          have hqz : q.sz ≤ n := by
            refine letG ?_
            intro kG
            obtain ⟨p, hp, e⟩ := hqmem
            k_unfold
            clear kG
            have h1 := T.sz_fp p
            have h2 := T.sz_fp q
            have h3 := T.szL_mem hp
            rw [e] at h1
            (first | (law_clear; lia) | lia | omega)
          have hqn : q.fp.Nodup := by
            rw [T.fpL_append, T.fpL] at hnd2
            exact (List.nodup_append.mp (List.nodup_append.mp hnd2).2.1).1
          have hqo : q.er.Ok := by
            have h1 : P.OkL (T.erL (dn ++ q :: rp)) := by rw [her']; exact P.deal_ok _ _ _ _ _ hok.2
            refine P.OkL_mem h1 _ ?_
            rw [T.erL_append, T.erL]
            simp
          refine Tell.use (ih q _ 1 _ hqz hqI hqn hqo (by (first | (law_clear; lia) | lia | omega))) B2 F9 X2 N9 T2 rfl rfl (by (first | exact rm1 hd (Nat.le_of_ble_eq_true rfl) | exact rm2 hd (Nat.le_of_ble_eq_true rfl) | (dsimp only; (first | (law_clear; lia) | lia | omega)))) (by (first | exact ru1 hu (Nat.le_of_ble_eq_true rfl) | exact ru2 hu (Nat.le_of_ble_eq_true rfl) | (dsimp only; (first | (law_clear; lia) | lia | omega)))) ?_
          intro kQ kM
          intro N8 q' hq' hqf hqe keep8 h8 tk8 F8 N8'
          clear F9 N9
          k_steps
          refine LPostS.intro (by k_asm) (by k_asm) (keep8 _ (List.Mem.head _) fun h => hqk _ h rfl) ?_ ⟨dn ++ [q'], rp, j' + 1, _, (by rw [show ((c : Int) - (((j' + 1 : Nat)) : Int)) = (c : Int) - (j' : Int) - 1 from by (first | (law_clear; lia) | lia | omega)]; rfl), ?_, ?_, rfl, ?_, ?_, fun p hp hpf => ?_⟩
          · intro z hz1 hz2
            simp only [List.mem_singleton] at hz2
            simp +zetaDelta [up, ovl, hz1, hz2]
          · rw [List.length_append]; exact mj_step hj' hj'c
          · rw [← hfp']; simp [hqf]
          · rw [List.append_assoc]
            refine T.InL_replace hcs' hnd2 (hq'.to fun b hb o hm => mem_wipe hm (hqk b (hqf ▸ hb))) fun p hp hpq => mem_wipe (keep8 _ (List.mem_cons_of_mem _ hp) hpq) (hneI p hp)
          · rw [List.append_assoc, T.erL_append]
            rw [T.erL_append, T.erL] at her'
            simp only [List.cons_append, List.nil_append, T.erL, hqe, P.grow_one]
            exact P.deal_step hel her' (by rw [T.erL_length]; exact hmod)
          · refine mem_wipe (keep8 _ (List.mem_cons_of_mem _ (hN' p hp hpf)) fun h => hpf ?_) (hneI p (hN' p hp hpf))
            rw [← hfl'.1, T.fpL_append, T.fpL]
            simp [h]
        · refine LPostS.same (by k_asm) (by k_asm) hneI ?_ ⟨dn ++ [q], rp, j', _, rfl, ?_, ?_, rfl, ?_, ?_, hN'⟩
          · intro z hz1 hz2
            simp only [List.mem_singleton] at hz2
            simp +zetaDelta [up, ovl, hz1, hz2]
          · rw [List.length_append]; exact mj_end hj' (by (first | (law_clear; lia) | lia | omega))
          · simpa using hfp'
          · simpa using hcs'
          · simpa using her'
      · intro a u' N h tk HI F9 N9
        (try (refine foldL ?_; intro kQ kE))
        refine letG ?_
        intro kG
        obtain ⟨dn, rp, j', tc', rfl, hj', hfp', hv, hcs', her', hN'⟩ := HI
        k_unfold
        clear kG
        have : rp = [] := by cases rp with | nil => rfl | cons => simp at hv
        subst this
        rw [List.append_nil] at hfp' hcs' her'
        clear F8 N8
        k_steps
        have hll : dn.length = ps.length := by
          have := congrArg List.length hfp'
          simpa using this
        refine WPost.intro (by k_asm) (by k_asm) ?_ ⟨c - j', ?_, dn, j', tc', u', rfl, rfl, mj_le hj', ?_, hfp', hcs', her', hN'⟩
        · intro z hz
          simp only [List.mem_cons, List.not_mem_nil, or_false, not_or] at hz
          simp +zetaDelta [up, ovl, hz]
        · rcases Nat.lt_or_ge j' c with g | g
          · have e := mj_eq hj' g
            (first | (law_clear; lia) | lia | omega)
          · (first | (law_clear; lia) | lia | omega)
        · by_cases hc3 : c ≤ j + dn.length
          · right; rw [hj', Nat.min_eq_left hc3]
          · left
            have : j' = j + ps.length := by rw [hj', Nat.min_eq_right (Nat.le_of_not_le hc3), hll]
            rw [this, Nat.add_mod_right]
            exact hj0
    · rename ((c : Int) - (j : Int) = 0) => he0
      have hjc : j = c := by (first | (law_clear; lia) | lia | omega)
      subst hjc
      refine ret _ (T.mk a d l k (if r then wd + (j : Int) else wd) (if r then ht else ht + (j : Int)) x y cs) ?_ (by rw [T.fp, T.fp, hfl.1]) ?_ (fun p hp hpf => ?_) _ _ (by k_asm) (by k_asm)
      · rw [T.In]
        refine ⟨?_, hcs⟩
        rw [hfl.2]
        exact hside.sub (fun o ho => hN _ ho ha1) (fun o ho => hN _ ho hd1) (fun o ho => hN _ ho hl1)
      · rw [T.er, T.er, P.grow, her, if_pos hk1, hel]
      · rw [T.fp] at hpf
        simp only [List.mem_cons, not_or] at hpf
        exact hN _ (keep4 _ hp hpf.2.1) hpf.2.2.2
  · refine ne_kindB (k' := sideK r) (b := true) (by rw [hsk, decide_eq_false hk1]; rfl) ?_
    k_steps
    rename Fr _ _ _ _ => F6
    refine iter_led0 F6 N5' hl (by rfl) (by rfl) (by rfl) (by rfl) (fun rest N => Ex3 fun (dn dn' rp : List T) => And6 (ps = dn ++ rp) (rest = (rp.map T.adr).map Value.ref) (T.InL w N (dn' ++ rp)) (dn'.map T.fp = dn.map T.fp) (T.erL dn' = P.growA r c (T.erL dn)) (∀ p ∈ N5, p.1 ∉ T.fpL ps → p ∈ N))
      ⟨[], [], ps, rfl, rfl, tl4, rfl, rfl, fun p hp _ => hp⟩ (fun rest N h => by obtain ⟨dn, dn', rp, h0, h1, h2, h3, h4, h5⟩ := h; exact h5 _ hl hl1) ?_ ?_
    · intro v rest N I it h tk HI hne hc2 F7 N7
      (try (refine foldL ?_; intro kQ kE))
      refine letG ?_
      intro kG
      obtain ⟨dn, dn', rp, hps, hv, hcs, hfp, her, hN⟩ := HI
      k_unfold
      clear kG
      cases rp with
      | nil => simp at hv
      | cons q rp =>
      simp only [List.map_cons, List.cons.injEq] at hv
      obtain ⟨rfl, rfl⟩ := hv
      clear F6 N5'
      k_steps
      have hqz : q.sz ≤ n := by rw [hps, T.szL_append, T.szL] at hsz; (first | (law_clear; lia) | lia | omega)
      have hfl := (T.map_fp hfp).1
      have hnd2 : (T.fpL (dn' ++ q :: rp)).Nodup := by rw [T.fpL_append, hfl, ← T.fpL_append, ← hps]; exact hnps
      have hqn : q.fp.Nodup := by
        rw [T.fpL_append, T.fpL] at hnd2
        exact (List.nodup_append.mp (List.nodup_append.mp hnd2).2.1).1
      have hqi : q.In w N := T.InL_mem hcs q (by first | exact mem_mid _ _ _ | exact .head _ | exact .tail _ (.head _) | exact .tail _ (.tail _ (.head _)) | simp)
      have hqI : q.In w ((I, it) :: N) := hqi.all fun p hp => List.mem_cons_of_mem _ hp
      have hqo : q.er.Ok := by
        refine P.OkL_mem hok.2 _ ?_
        rw [hps, T.erL_append, T.erL]
        simp
      have hqk : ∀ b ∈ q.fp, b ≠ I := fun b hb => by
        obtain ⟨o, ho⟩ := hqi.has b hb
        exact hne _ ho
      refine Tell.use (ih q _ c _ hqz hqI hqn hqo hc) B2 F7 X2 N7 T2 rfl rfl (by (first | exact rm1 hd (Nat.le_of_ble_eq_true rfl) | exact rm2 hd (Nat.le_of_ble_eq_true rfl) | (dsimp only; (first | (law_clear; lia) | lia | omega)))) (by (first | exact ru1 hu (Nat.le_of_ble_eq_true rfl) | exact ru2 hu (Nat.le_of_ble_eq_true rfl) | (dsimp only; (first | (law_clear; lia) | lia | omega)))) ?_
      intro kQ kM
      intro N8 q' hq' hqf hqe keep8 h8 tk8 F8 N8'
      clear F7 N7
      k_steps
      refine LPost0.intro (by k_asm) N8' (keep8 _ (List.Mem.head _) fun h => hqk _ h rfl) ⟨dn ++ [q], dn' ++ [q'], rp, by simp [hps], rfl, ?_, by simp [hfp, hqf], ?_, fun p hp hpf => ?_⟩
      · rw [List.append_assoc]
        refine T.InL_replace hcs hnd2 (hq'.to fun b hb o hm => mem_wipe hm (hqk b (hqf ▸ hb))) fun p hp hpq => mem_wipe (keep8 _ (List.mem_cons_of_mem _ hp) hpq) (hne p hp)
      · rw [T.erL_append, T.erL_append, P.growA_append, her]
        simp only [T.erL, P.growA, hqe]
      · refine mem_wipe (keep8 _ (List.mem_cons_of_mem _ (hN p hp hpf)) fun h => hpf ?_) (hne p (hN p hp hpf))
        rw [hps, T.fpL_append, T.fpL]
        simp [h]
    · intro u N h tk HI F7 N7
      (try (refine foldL ?_; intro kQ kE))
      refine letG ?_
      intro kG
      obtain ⟨dn, dn', rp, hps, hv, hcs, hfp, her, hN⟩ := HI
      k_unfold
      clear kG
      have : rp = [] := by cases rp with | nil => rfl | cons => simp at hv
      subst this
      rw [List.append_nil] at hps hcs
      subst hps
      clear F6 N5'
      k_steps
      have hfl := T.map_fp hfp
      refine ret _ (T.mk a d l k (if r then wd + (c : Int) else wd) (if r then ht else ht + (c : Int)) x y dn') ?_ (by rw [T.fp, T.fp, hfl.1]) ?_ (fun p hp hpf => ?_) _ _ (by k_asm) (by k_asm)
      · rw [T.In]
        refine ⟨?_, hcs⟩
        rw [hfl.2]
        exact hside.sub (fun o ho => hN _ ho ha1) (fun o ho => hN _ ho hd1) (fun o ho => hN _ ho hl1)
      · rw [T.er, T.er, P.grow, her, if_neg hk1]
      · rw [T.fp] at hpf
        simp only [List.mem_cons, not_or] at hpf
        exact hN _ (keep4 _ hp hpf.2.1) hpf.2.2.2
namespace T
noncomputable def nx (k : K) (x : Int) (p : T) : Int := if k = .row then x + (p.wid + 1) else x
noncomputable def ny (k : K) (y : Int) (p : T) : Int := if k = .row then y else y + (p.hei + 1)
mutual
noncomputable def At (x y : Int) : T → Prop
  | mk _ _ _ k _ _ x' y' ps => x' = x ∧ y' = y ∧ AtL k x y ps
noncomputable def AtL (k : K) (x y : Int) : List T → Prop
  | [] => True
  | p :: r => p.At x y ∧ AtL k (nx k x p) (ny k y p) r
end
noncomputable def endL (k : K) : Int → Int → List T → Int × Int
  | x, y, [] => (x, y)
  | x, y, p :: r => endL k (nx k x p) (ny k y p) r
theorem AtL_append (k : K) : ∀ (a b : List T) (x y : Int), AtL k x y a → AtL k (endL k x y a).1 (endL k x y a).2 b → AtL k x y (a ++ b)
  | [], b, x, y, _, h => h
  | p :: a, b, x, y, h1, h2 => by
    rw [AtL] at h1
    rw [List.cons_append, AtL]
    exact ⟨h1.1, AtL_append k a b _ _ h1.2 h2⟩
theorem endL_append (k : K) : ∀ (a b : List T) (x y : Int), endL k x y (a ++ b) = endL k (endL k x y a).1 (endL k x y a).2 b
  | [], b, x, y => rfl
  | p :: a, b, x, y => by rw [List.cons_append, endL, endL_append k a b]; rfl
end T
noncomputable def PlacedK (w : World) (N : Led) (t : T) (x y : Int) (φ : Value → Led → Prop) : Prop :=
  ∀ N' (t' : T) (h1 : t'.In w N') (h2 : t'.fp = t.fp) (h3 : t'.er = t.er) (h4 : t'.At x y) (h5 : ∀ p ∈ N, p.1 ∉ t.fp → p ∈ N'), φ (.ref t.adr) N'
theorem layout_placed (w : World) : ∀ (n : Nat) (t : T) (N : Led) (x y : Int) (tx ty : Tok), t.sz ≤ n → t.In w N → t.fp.Nodup →
    Tell w 113 [.ref t.adr, .int x tx, .int y ty] (5 * n + 20) N (PlacedK w N t x y) := by
  intro n
  induction n with
  | zero => intro t N x y tx ty h; cases t; simp [T.sz] at h
  | succ n ih =>
  intro t N₀ x y tx ty hn tin hnd
  unfold Tell
  intro cx A₀ base h₀ L m mean mg mb s Q E B hf hk F X N TT hd hu ret
  cases t with | mk a d l k wd ht x' y' ps =>
  have tin0 := tin
  rw [T.In] at tin
  have tl := tin.2
  refine letG ?_
  intro kG
  obtain ⟨t1, t2, t3, t4, t5, t6, t7, tk, tw, th, tx', ty', tp, e, ha, hdd, hl⟩ := tin.1
  k_unfold
  clear kG
  simp only [T.adr]
  rw [T.fp] at hnd
  rw [T.sz] at hn
  have hd1 : d ∉ T.fpL ps := fun h => by simp [h] at hnd
  have hl1 : l ∉ T.fpL ps := fun h => by simp [h] at hnd
  have ha1 : a ∉ T.fpL ps := fun h => by simp [h] at hnd
  have hnps : (T.fpL ps).Nodup := by simp at hnd; exact hnd.2.2.2
  have hsz : T.szL ps ≤ n := by (first | (law_clear; lia) | lia | omega)
  have ad : a ≠ d := News.ne_of N ha hdd (by first | exact mem_mid _ _ _ | exact .head _ | exact .tail _ (.head _) | exact .tail _ (.tail _ (.head _)) | simp)
  have ld : l ≠ d := News.ne_of N hl hdd (by first | exact mem_mid _ _ _ | exact .head _ | exact .tail _ (.head _) | exact .tail _ (.tail _ (.head _)) | simp)
  have wn := wipe_ne (d := d) (N := N₀)
  have ha' := mem_wipe ha ad
  have hl' := mem_wipe hl ld
  have keep : ∀ p ∈ N₀, p.1 ≠ d → p ∈ wipe d N₀ := fun p h n => mem_wipe h n
  have NN := News.focus N hdd
  clear N
  (refine wpAny_call ?_; k_dflt (refine' code_def ?k1 ?k2 ?k3 ?k4 ?k5 ?kA ?kF ?kK ?k6 ?k7 ?k8 ?k9 ?kB ?_ ?c2 ?c3 ?c4 ?c5; (case kA => exact rfl); (case kF => assumption); (case kK => assumption); (case k1 => k_asm); (case k2 => k_asm); (case k3 => k_asm); (case k4 => k_asm); (case k5 => k_asm); (case k6 => k_is); (case k7 => k_is); (case k8 => k_room); (case k9 => exact bnd3 "cell" "x" "y" rfl); (case c5 => decide); (case kB => exact locs rfl); (case c2 => exact rfl); (case c3 => exact rfl); (case c4 => exact rfl); k_whole; intro _ _ _ _ _ _ _ _ _; (try dsimp only); (try (refine foldL ?_; intro kQ kE))))
  k_steps
  rename Fr _ _ _ _ => F2
  rename News _ _ _ (_ :: _) => N2
  rename Below _ _ (_ :: _) _ => B2
  rename Frag.In _ _ => X2
  rename Top _ _ _ _ _ _ => T2
  have N3 := News.sub N2 (N' := _ :: wipe d N₀) (fun p hp => List.mem_cons_of_mem _ hp)
  clear N2 NN
  generalize hNN : (_ :: wipe d N₀ : Led) = N5 at N3
  have hC5 : CellIn w N5 a d l k wd ht x y (ps.map T.adr) := by
    rw [← hNN]
    exact CellIn.mk (List.mem_cons_of_mem _ ha') (List.Mem.head _) (List.mem_cons_of_mem _ hl')
  have keep5 : ∀ p ∈ N₀, p.1 ≠ d → p ∈ N5 := fun p hp hne => by rw [← hNN]; exact List.mem_cons_of_mem _ (keep p hp hne)
  have tl5 : T.InL w N5 ps := tl.to fun b hb o hm => keep5 _ hm fun e => hd1 (e ▸ hb)
  have hl5 := keep5 _ hl ld
  clear hNN
  refine iter_ledS F2 N3 hl5 (by rfl) (by rfl) (by rfl) (by rfl) ["x", "y"] (fun av rest N => Ex7 fun (dn dn' rp : List T) (xx yy : Int) (ux uy : Tok) => And9 (av = [some (.int xx ux), some (.int yy uy)]) (ps = dn ++ rp) (rest = (rp.map T.adr).map Value.ref) (T.InL w N (dn' ++ rp)) (dn'.map T.fp = dn.map T.fp) (T.erL dn' = T.erL dn) (T.AtL k x y dn') (T.endL k x y dn' = (xx, yy)) (∀ p ∈ N5, p.1 ∉ T.fpL ps → p ∈ N))
    ⟨[], [], ps, x, y, _, _, rfl, rfl, rfl, tl5, rfl, rfl, by rw [T.AtL]; trivial, rfl, fun p hp _ => hp⟩ (fun av rest N h => by obtain ⟨dn, dn', rp, xx, yy, ux, uy, h0, h1, h2, h3, h4, h5, h6, h7, h8⟩ := h; exact h8 _ hl5 hl1) ?_ ?_
  · intro av v rest N I it h tk HI hne hc2 F7 N7
    (try (refine foldL ?_; intro kQ kE))
    refine letG ?_
    intro kG
    obtain ⟨dn, dn', rp, xx, yy, ux, uy, rfl, hps, hv, hcs, hfp, her, hat, hend, hN⟩ := HI
    k_unfold
    clear kG
    cases rp with
    | nil => simp at hv
    | cons q rp =>
    simp only [List.map_cons, List.cons.injEq] at hv
    obtain ⟨rfl, rfl⟩ := hv
    clear F2 N3
    have hqz : q.sz ≤ n := by rw [hps, T.szL_append, T.szL] at hsz; (first | (law_clear; lia) | lia | omega)
    have hfl := (T.map_fp hfp).1
    have hnd2 : (T.fpL (dn' ++ q :: rp)).Nodup := by rw [T.fpL_append, hfl, ← T.fpL_append, ← hps]; exact hnps
    have hqn : q.fp.Nodup := by
      rw [T.fpL_append, T.fpL] at hnd2
      exact (List.nodup_append.mp (List.nodup_append.mp hnd2).2.1).1
    have hqi : q.In w N := T.InL_mem hcs q (by first | exact mem_mid _ _ _ | exact .head _ | exact .tail _ (.head _) | exact .tail _ (.tail _ (.head _)) | simp)
    have hqI : q.In w ((I, it) :: N) := hqi.all fun p hp => List.mem_cons_of_mem _ hp
    have hqk : ∀ b ∈ q.fp, b ≠ I := fun b hb => by
      obtain ⟨o, ho⟩ := hqi.has b hb
      exact hne _ ho
    have hqp : ∀ b, b ∈ q.fp → b ∈ T.fpL ps := fun b hb => by
      rw [hps, T.fpL_append, T.fpL]
      simp [hb]
    k_steps
    refine Tell.use (ih q _ xx yy _ _ hqz hqI hqn) B2 F7 X2 N7 T2 rfl rfl (by (first | exact rm1 hd (Nat.le_of_ble_eq_true rfl) | exact rm2 hd (Nat.le_of_ble_eq_true rfl) | (dsimp only; (first | (law_clear; lia) | lia | omega)))) (by (first | exact ru1 hu (Nat.le_of_ble_eq_true rfl) | exact ru2 hu (Nat.le_of_ble_eq_true rfl) | (dsimp only; (first | (law_clear; lia) | lia | omega)))) ?_
    intro kQ kM
    intro N8 q' hq' hqf hqe hqa keep8 h8 tk8 F8 N8'
    clear F7 N7
    have hN8 : ∀ p ∈ N5, p.1 ∉ T.fpL ps → p ∈ N8 := fun p hp hpf => keep8 _ (List.mem_cons_of_mem _ (hN p hp hpf)) fun h => hpf (hqp _ h)
    refine letG ?_
    intro kG
    obtain ⟨v1, v2, v3, v4, v5, v6, v7, vk, vw, vh, vx, vy, vp, ve, hav, hdv, hlv⟩ := hC5.sub (N' := N8) (fun o ho => hN8 _ ho ha1) (fun o ho => hN8 _ ho hd1) (fun o ho => hN8 _ ho hl1)
    k_unfold
    clear kG
    refine letG ?_
    intro kG
    obtain ⟨q1, q2, q3, q4, q5, q6, q7, qk, qw, qh, qx, qy, qp, qe, haq, hdq, hlq⟩ := hq'.cell
    k_unfold
    clear kG
    rw [show q'.adr = q.adr from by rw [← T.fp_adr, hqf, T.fp_adr]] at haq
    k_steps
    by_cases hkr : k = .row
    · refine eq_kindB (k' := .row) (b := true) (by rw [hkr]; rfl) ?_
      k_steps
      refine LPostS.intro (by k_asm) (by k_asm) (keep8 _ (List.Mem.head _) fun h => hqk _ h rfl) ?_ ⟨dn ++ [q], dn' ++ [q'], rp, T.nx k xx q', T.ny k yy q', _, _, (by simp only [T.nx, T.ny, if_pos hkr]; rfl), by simp [hps], rfl, ?_, by simp [hfp, hqf], ?_, ?_, ?_, fun p hp hpf => mem_wipe (hN8 p hp hpf) (hne p (hN p hp hpf))⟩
      · intro z hz1 hz2
        simp only [List.mem_cons, List.not_mem_nil, or_false, not_or] at hz2
        simp +zetaDelta [up, ovl, hz1, hz2]
      · rw [List.append_assoc]
        refine T.InL_replace hcs hnd2 (hq'.to fun b hb o hm => mem_wipe hm (hqk b (hqf ▸ hb))) fun p hp hpq => mem_wipe (keep8 _ (List.mem_cons_of_mem _ hp) hpq) (hne p hp)
      · simp [T.erL_append, T.erL, her, hqe]
      · refine T.AtL_append k dn' [q'] x y hat ?_
        rw [hend, T.AtL, T.AtL]
        exact ⟨hqa, trivial⟩
      · rw [T.endL_append, hend]
        rfl
    · refine eq_kindB (k' := .row) (b := false) (by cases k <;> first | rfl | exact absurd rfl hkr) ?_
      k_steps
      refine LPostS.intro (by k_asm) (by k_asm) (keep8 _ (List.Mem.head _) fun h => hqk _ h rfl) ?_ ⟨dn ++ [q], dn' ++ [q'], rp, T.nx k xx q', T.ny k yy q', _, _, (by simp only [T.nx, T.ny, if_neg hkr]; rfl), by simp [hps], rfl, ?_, by simp [hfp, hqf], ?_, ?_, ?_, fun p hp hpf => mem_wipe (hN8 p hp hpf) (hne p (hN p hp hpf))⟩
      · intro z hz1 hz2
        simp only [List.mem_cons, List.not_mem_nil, or_false, not_or] at hz2
        simp +zetaDelta [up, ovl, hz1, hz2]
      · rw [List.append_assoc]
        refine T.InL_replace hcs hnd2 (hq'.to fun b hb o hm => mem_wipe hm (hqk b (hqf ▸ hb))) fun p hp hpq => mem_wipe (keep8 _ (List.mem_cons_of_mem _ hp) hpq) (hne p hp)
      · simp [T.erL_append, T.erL, her, hqe]
      · refine T.AtL_append k dn' [q'] x y hat ?_
        rw [hend, T.AtL, T.AtL]
        exact ⟨hqa, trivial⟩
      · rw [T.endL_append, hend]
        rfl
  · intro av u N h tk HI F7 N7
    (try (refine foldL ?_; intro kQ kE))
    refine letG ?_
    intro kG
    obtain ⟨dn, dn', rp, xx, yy, ux, uy, rfl, hps, hv, hcs, hfp, her, hat, hend, hN⟩ := HI
    k_unfold
    clear kG
    have : rp = [] := by cases rp with | nil => rfl | cons => simp at hv
    subst this
    rw [List.append_nil] at hps hcs
    subst hps
    clear F2 N3
    k_steps
    have hfl := T.map_fp hfp
    refine ret _ (T.mk a d l k wd ht x y dn') ?_ (by rw [T.fp, T.fp, hfl.1]) ?_ ?_ (fun p hp hpf => ?_) _ _ (by k_asm) (by k_asm)
    · rw [T.In]
      refine ⟨?_, hcs⟩
      rw [hfl.2]
      exact hC5.sub (fun o ho => hN _ ho ha1) (fun o ho => hN _ ho hd1) (fun o ho => hN _ ho hl1)
    · rw [T.er, T.er, her]
    · rw [T.At]
      exact ⟨rfl, rfl, hat⟩
    · rw [T.fp] at hpf
      simp only [List.mem_cons, not_or] at hpf
      exact hN _ (keep5 _ hp hpf.2.1) hpf.2.2.2
theorem join_led {M : Model} {A : Around} {h₀ : Heap} {L : Addr} {m : Str → Option Value} {N : Led} {c : Sem Value} {s : Shared} {Q E : Value → Shared → Prop} (F : Fr h₀ L s.heap m) (_N : News h₀ L s.heap N) (P : Value → Led → Prop)
    (h1 : wpAny M A c (fun v s' => Halt (Ex3 fun h' tk N' => And4 (s' = { s with heap := h', toks := tk }) (Fr h₀ L h' m) (News h₀ L h' N') (P v N'))) E s)
    (h2 : ∀ v h' tk N', Fr h₀ L h' m → News h₀ L h' N' → P v N' → Q v { s with heap := h', toks := tk }) : Halt (wpAny M A c Q E s) :=
  wpAny_mono h1 (fun v s' p => by
    refine letG ?_
    intro kG
    obtain ⟨h', tk, N', rfl, f, n, p⟩ := p
    k_unfold
    clear kG
    exact h2 v h' tk N' f n p) fun _ _ e => e
theorem layout_exchanged1 (w : World) (N : Led) (pl c f : Addr) (e : Nat) (hp : (pl, listOf (refsA [c]) e) ∈ N) :
    Tell w 120 [.ref pl, .ref f] 40 N (RetK (.ref f) fun N' => ∀ p ∈ N, p ∈ N') := by
  unfold Tell
  intro cx A₀ base h₀ L m mean mg mb s Q E B hf hk F X N₀ TT hd hu ret
  (refine wpAny_call ?_; k_dflt (refine' code_def ?k1 ?k2 ?k3 ?k4 ?k5 ?kA ?kF ?kK ?k6 ?k7 ?k8 ?k9 ?kB ?_ ?c2 ?c3 ?c4 ?c5; (case kA => exact rfl); (case kF => assumption); (case kK => assumption); (case k1 => k_asm); (case k2 => k_asm); (case k3 => k_asm); (case k4 => k_asm); (case k5 => k_asm); (case k6 => k_is); (case k7 => k_is); (case k8 => k_room); (case k9 => exact bnd2 "path" "fresh" rfl); (case c5 => decide); (case kB => exact locs rfl); (case c2 => exact rfl); (case c3 => exact rfl); (case c4 => exact rfl); k_whole; intro _ _ _ _ _ _ _ _ _; (try dsimp only); (try (refine foldL ?_; intro kQ kE))))
  k_steps
  exact ret _ (fun p hp => hp) _ _ (by k_asm) (by k_asm)
noncomputable def ExchK (w : World) (N : Led) (as : List Addr) (b d l : Addr) (k : K) (wd ht x y : Int) (items : List Addr) (c f : Addr) (φ : Value → Led → Prop) : Prop :=
  ∀ N' (i : Nat) (h : items[i]? = some c) (h2 : CellIn w N' b d l k wd ht x y (items.set i f)) (keep : ∀ p ∈ N, p.1 ≠ l → p ∈ N'), φ (.ref ((as ++ [b]).headD 0)) N'
example : True := by
  k_with "subscriptTail" => (refine halt ?_)
  k_with "call builtin:len" => (refine halt ?_)
  trivial
theorem layout_exchanged2 (w : World) (N : Led) (pl c f b : Addr) (e : Nat) (as : List Addr) (hp : (pl, listOf (refsA (as ++ [b, c])) e) ∈ N) (hlen : as.length < 1000)
    {d l : Addr} {k : K} {wd ht x y : Int} {items : List Addr} (C : CellIn w N b d l k wd ht x y items) (hc : c ∈ items) (hnd : items.Nodup) (hcell : ∀ a ∈ items, ∃ d, (a, instObj 31 d) ∈ N) (hil : items.length < 1000) (hpl : pl ≠ l) :
    Tell w 120 [.ref pl, .ref f] 60 N (ExchK w N as b d l k wd ht x y items c f) := by
  unfold Tell
  intro cx A₀ base h₀ L m mean mg mb s Q E B hf hk F X N₀ TT hd hu ret
  refine letG ?_
  intro kG
  obtain ⟨t1, t2, t3, t4, t5, t6, t7, tk, tw, th, tx, ty, tp, e2, ha, hdd, hl⟩ := C
  k_unfold
  clear kG
  (refine wpAny_call ?_; k_dflt (refine' code_def ?k1 ?k2 ?k3 ?k4 ?k5 ?kA ?kF ?kK ?k6 ?k7 ?k8 ?k9 ?kB ?_ ?c2 ?c3 ?c4 ?c5; (case kA => exact rfl); (case kF => assumption); (case kK => assumption); (case k1 => k_asm); (case k2 => k_asm); (case k3 => k_asm); (case k4 => k_asm); (case k5 => k_asm); (case k6 => k_is); (case k7 => k_is); (case k8 => k_room); (case k9 => exact bnd2 "path" "fresh" rfl); (case c5 => decide); (case kB => exact locs rfl); (case c2 => exact rfl); (case c3 => exact rfl); (case c4 => exact rfl); k_whole; intro _ _ _ _ _ _ _ _ _; (try dsimp only); (try (refine foldL ?_; intro kQ kE))))
  k_steps
  rename Fr _ _ _ _ => F2
  rename News _ _ _ _ => N2
  rename Below _ _ (_ :: _) _ => B2
  rename Frag.In _ _ => X2
  rename Top _ _ _ _ _ _ => T2
  refine len_led N2 hp (by simp; (first | (law_clear; lia) | lia | omega)) ?_
  k_steps
  · exfalso
    rename ((((as ++ [b, c]).map Value.ref).length : Nat) : Int) = 1 => hh
    simp at hh
    (first | (law_clear; lia) | lia | omega)
  · refine item_led (j := as.length) (v := .ref b) (by k_asm) hp (seqIndex_at (.inr ⟨by decide, by simp; (first | (law_clear; lia) | lia | omega)⟩) (by first | exact mem_mid _ _ _ | exact .head _ | exact .tail _ (.head _) | exact .tail _ (.tail _ (.head _)) | simp)) (by first | exact mem_mid _ _ _ | exact .head _ | exact .tail _ (.head _) | exact .tail _ (.tail _ (.head _)) | simp) (by decide) (by decide) ?_
    k_steps
    refine item_led (j := as.length + 1) (v := .ref c) (by k_asm) hp (seqIndex_at (.inr ⟨by decide, by simp; (first | (law_clear; lia) | lia | omega)⟩) (by first | exact mem_mid _ _ _ | exact .head _ | exact .tail _ (.head _) | exact .tail _ (.tail _ (.head _)) | simp)) (by first | exact mem_mid _ _ _ | exact .head _ | exact .tail _ (.head _) | exact .tail _ (.tail _ (.head _)) | simp) (by decide) (by decide) ?_
    k_steps
    rename Fr _ _ _ _ => F3
    rename News _ _ _ N => N3
    refine Tell.use (layout_index w N l items e2 hl c hc hcell) B2 F3 X2 N3 T2 rfl rfl (by (first | exact rm1 hd (Nat.le_of_ble_eq_true rfl) | exact rm2 hd (Nat.le_of_ble_eq_true rfl) | (dsimp only; (first | (law_clear; lia) | lia | omega)))) (by (first | exact ru1 hu (Nat.le_of_ble_eq_true rfl) | exact ru2 hu (Nat.le_of_ble_eq_true rfl) | (dsimp only; (first | (law_clear; lia) | lia | omega)))) ?_
    intro kQ kM
    intro N4 i ti hi hni sub h4 tk4 F4 N4'
    clear F3 N3
    have hil2 : i < items.length := by
      rcases Nat.lt_or_ge i items.length with h | h
      · exact h
      · rw [List.getElem?_eq_none h] at hi; cases hi
    k_steps
    refine setat_led F4 N4' (sub _ hl) (by (first | (law_clear; lia) | lia | omega)) (by simpa using hil2) (by (first | (law_clear; lia) | lia | omega)) ?_
    intro h5 n5 F5 N5
    clear F4 N4'
    k_steps
    refine item_led (j := 0) (v := .ref ((as ++ [b]).headD 0)) N5 (List.mem_cons_of_mem _ (mem_wipe (sub _ hp) hpl)) (seqIndex_at (.inl ⟨by decide, by decide⟩) (by first | exact mem_mid _ _ _ | exact .head _ | exact .tail _ (.head _) | exact .tail _ (.tail _ (.head _)) | simp)) ?_ (by decide) (by decide) ?_
    · cases as <;> simp
    k_steps
    have ad : b ≠ l := News.ne_of N₀ ha hl (by first | exact mem_mid _ _ _ | exact .head _ | exact .tail _ (.head _) | exact .tail _ (.tail _ (.head _)) | simp)
    have ld : d ≠ l := News.ne_of N₀ hdd hl (by first | exact mem_mid _ _ _ | exact .head _ | exact .tail _ (.head _) | exact .tail _ (.tail _ (.head _)) | simp)
    have keep : ∀ p ∈ N, p.1 ≠ l → p ∈ wipe l N4 := fun p hp hne => mem_wipe (sub _ hp) hne
    refine ret _ i hi (CellIn.mk (List.mem_cons_of_mem _ (keep _ ha ad)) (List.mem_cons_of_mem _ (keep _ hdd ld)) (e := n5) ?_) (fun p hp hne => List.mem_cons_of_mem _ (keep p hp hne)) _ _ (by k_asm) (by k_asm)
    have : ((items.map Value.ref).set ((i : Int)).toNat (.ref f)).toArray = refsA (items.set i f) := by simp [refsA, List.map_set]
    rw [this]
    exact List.Mem.head _
example : True := by
  k_with_none
  trivial
namespace P
mutual
noncomputable def panes : P → List Int | mk k _ _ ps => match k with
  | .pane p => [p]
  | _ => panesL ps
noncomputable def panesL : List P → List Int
  | [] => []
  | p :: r => p.panes ++ panesL r
end
theorem panesL_append : ∀ a b : List P, panesL (a ++ b) = panesL a ++ panesL b
  | [], b => by simp [panesL]
  | p :: a, b => by simp [panesL, panesL_append a b]
theorem panes_node {k : K} {w h : Int} {ps : List P} (hk : k.isPane = false) : (mk k w h ps).panes = panesL ps := by
  cases k <;> simp_all [panes, K.isPane]
theorem mem_panesL {p : Int} : ∀ {ps : List P}, p ∈ panesL ps ↔ ∃ q ∈ ps, p ∈ q.panes
  | [] => by simp [panesL]
  | a :: ps => by simp [panesL, mem_panesL]
mutual
noncomputable def sz : P → Nat | mk _ _ _ ps => szL ps + 1
noncomputable def szL : List P → Nat
  | [] => 0
  | p :: r => p.sz + szL r
end
theorem szL_append : ∀ a b : List P, szL (a ++ b) = szL a + szL b
  | [], b => by simp [szL]
  | p :: a, b => by simp [szL, szL_append a b]; (first | (law_clear; lia) | lia | omega)
inductive AtP (p : Int) (B B' : P) : P → P → Prop
  | here : AtP p B B' B B'
  | down {k : K} {w h : Int} {dn rp : List P} {q q' : P} : k.isPane = false → (∀ x ∈ dn, p ∉ x.panes) → (∀ x ∈ rp, p ∉ x.panes) → AtP p B B' q q' → AtP p B B' (mk k w h (dn ++ q :: rp)) (mk k w h (dn ++ q' :: rp))
end P
namespace T
mutual
theorem panes_er : ∀ t : T, t.er.panes = t.panes
  | mk a d l k w h x y ps => by
    have := panesL_er ps
    cases k <;> simp_all [er, P.panes, panes, leaves, num, kin]
theorem panesL_er : ∀ ps : List T, P.panesL (erL ps) = (leavesL ps).map num
  | [] => by simp [erL, P.panesL, leavesL]
  | p :: r => by
    have h1 := panes_er p
    have h2 := panesL_er r
    rw [erL, P.panesL, h1, h2, leavesL, List.map_append]
    rfl
end
mutual
theorem sz_er : ∀ t : T, t.er.sz = t.sz
  | mk a d l k w h x y ps => by simp [er, P.sz, sz, szL_er ps]
theorem szL_er : ∀ ps : List T, P.szL (erL ps) = szL ps
  | [] => by simp [erL, P.szL, szL]
  | p :: r => by simp [erL, P.szL, szL, sz_er p, szL_er r]
end
mutual
theorem path_none : ∀ (t : T) (p : Int), t.path p = none ↔ p ∉ t.er.panes
  | mk a d l k w h x y ps, p => by
    have h1 := pathL_none ps p
    cases k with
    | pane q => simp [path, er, P.panes, eq_comm]
    | row => simp [path, er, P.panes, h1]
    | col => simp [path, er, P.panes, h1]
theorem pathL_none : ∀ (ps : List T) (p : Int), pathL ps p = none ↔ p ∉ P.panesL (erL ps)
  | [], p => by simp [pathL, erL, P.panesL]
  | q :: r, p => by
    have h1 := path_none q p
    have h2 := pathL_none r p
    rw [pathL, erL, P.panesL]
    cases hq : q.path p with
    | some l =>
      rw [hq] at h1
      simp at h1
      simp [h1]
    | none =>
      rw [hq] at h1
      simp at h1
      simp [h1, h2]
end
theorem pathL_inv {p : Int} : ∀ {ps : List T} {l : List T}, pathL ps p = some l → ∃ dn q rp, ps = dn ++ q :: rp ∧ pathL dn p = none ∧ q.path p = some l
  | [], l, h => by simp [pathL] at h
  | q :: r, l, h => by
    rw [pathL] at h
    cases hq : q.path p with
    | some l' =>
      rw [hq] at h
      exact ⟨[], q, r, rfl, rfl, by rw [hq]; exact h⟩
    | none =>
      rw [hq] at h
      refine letG ?_
      intro kG
      obtain ⟨dn, q', rp, h1, h2, h3⟩ := pathL_inv (ps := r) h
      k_unfold
      clear kG
      refine ⟨q :: dn, q', rp, by rw [h1]; rfl, ?_, h3⟩
      rw [pathL, hq]
      exact h2
theorem path_inv {p : Int} {t : T} {l : List T} (h : t.path p = some l) :
    (t.kin = .pane p ∧ l = [t]) ∨ (t.kin.isPane = false ∧ ∃ dn q rp l', t.par = dn ++ q :: rp ∧ pathL dn p = none ∧ q.path p = some l' ∧ l = t :: l') := by
  cases t with | mk a d l0 k w h0 x y ps =>
  cases k with
  | pane q =>
    simp only [path] at h
    split at h
    · rename_i e
      subst e
      exact .inl ⟨rfl, (Option.some.inj h).symm⟩
    · cases h
  | row =>
    simp only [path] at h
    refine letG ?_
    intro kG
    obtain ⟨l', h1, rfl⟩ := Option.map_eq_some_iff.mp h
    k_unfold
    clear kG
    refine letG ?_
    intro kG
    obtain ⟨dn, q, rp, e1, e2, e3⟩ := pathL_inv h1
    k_unfold
    clear kG
    exact .inr ⟨rfl, dn, q, rp, l', e1, e2, e3, rfl⟩
  | col =>
    simp only [path] at h
    refine letG ?_
    intro kG
    obtain ⟨l', h1, rfl⟩ := Option.map_eq_some_iff.mp h
    k_unfold
    clear kG
    refine letG ?_
    intro kG
    obtain ⟨dn, q, rp, e1, e2, e3⟩ := pathL_inv h1
    k_unfold
    clear kG
    exact .inr ⟨rfl, dn, q, rp, l', e1, e2, e3, rfl⟩
inductive Re (b b' : T) : T → T → Prop
  | here : Re b b' b b'
  | down {a d l : Addr} {k : K} {w h x y : Int} {dn rp : List T} {q q' : T} : Re b b' q q' → Re b b' (mk a d l k w h x y (dn ++ q :: rp)) (mk a d l k w h x y (dn ++ q' :: rp))
theorem Re.adr {b b' t t' : T} (r : Re b b' t t') (h : b'.adr = b.adr) : t'.adr = t.adr := by
  cases r with
  | here => exact h
  | down _ => rfl
theorem Re.sub {b b' t t' : T} (r : Re b b' t t') : ∀ x ∈ b.fp, x ∈ t.fp := by
  induction r with
  | here => exact fun _ h => h
  | down _ ih => intro x hx; rw [fp, fpL_append, fpL]; simp [ih x hx]
theorem Re.fp_mem {b b' t t' : T} (r : Re b b' t t') : ∀ x ∈ t'.fp, x ∈ t.fp ∨ x ∈ b'.fp := by
  induction r with
  | here => exact fun _ h => .inr h
  | down _ ih =>
    intro x hx
    rw [fp, fpL_append, fpL] at hx ⊢
    simp only [List.mem_cons, List.mem_append] at hx ⊢
    rcases hx with h | h | h | h | h | h
    · exact .inl (.inl h)
    · exact .inl (.inr (.inl h))
    · exact .inl (.inr (.inr (.inl h)))
    · exact .inl (.inr (.inr (.inr (.inl h))))
    · rcases ih x h with h | h
      · exact .inl (.inr (.inr (.inr (.inr (.inl h)))))
      · exact .inr h
    · exact .inl (.inr (.inr (.inr (.inr (.inr h)))))
theorem Re.in {w : World} {N N' : Led} {b b' t t' : T} (r : Re b b' t t') (ha : b'.adr = b.adr) (nd : t.fp.Nodup) (h : t.In w N) (hb : b'.In w N') (keep : ∀ p ∈ N, p.1 ∉ b.fp → p ∈ N') : t'.In w N' := by
  induction r with
  | here => exact hb
  | down r' ih =>
    rename_i a d l k wd ht x y dn rp q q'
    rw [fp] at nd
    have nps : (fpL (dn ++ q :: rp)).Nodup := by simp at nd; exact nd.2.2.2
    have hsub := r'.sub
    have hin : ∀ z ∈ q.fp, z ∈ fpL (dn ++ q :: rp) := fun z hz => by rw [fpL_append, fpL]; simp [hz]
    have nq : q.fp.Nodup := by
      rw [fpL_append, fpL] at nps
      exact (List.nodup_append.mp (List.nodup_append.mp nps).2.1).1
    rw [In] at h ⊢
    have hq := InL_mem h.2 q (by first | exact mem_mid _ _ _ | exact .head _ | exact .tail _ (.head _) | exact .tail _ (.tail _ (.head _)) | simp)
    have hq' := ih nq hq
    have hd1 : d ∉ fpL (dn ++ q :: rp) := fun h => by simp [h] at nd
    have hl1 : l ∉ fpL (dn ++ q :: rp) := fun h => by simp [h] at nd
    have ha1 : a ∉ fpL (dn ++ q :: rp) := fun h => by simp [h] at nd
    have hadr : (dn ++ q' :: rp).map T.adr = (dn ++ q :: rp).map T.adr := by simp [r'.adr ha]
    rw [hadr]
    refine ⟨h.1.sub (fun o ho => keep _ ho fun h' => ha1 (hin _ (hsub _ h'))) (fun o ho => keep _ ho fun h' => hd1 (hin _ (hsub _ h'))) (fun o ho => keep _ ho fun h' => hl1 (hin _ (hsub _ h'))), ?_⟩
    exact InL_replace h.2 nps hq' fun p hp hpq => keep p hp fun h' => hpq (hsub _ h')
theorem Re.nodup {b b' t t' : T} (r : Re b b' t t') (nd : t.fp.Nodup) (nb : b'.fp.Nodup) (new : ∀ x ∈ b'.fp, x ∈ b.fp ∨ x ∉ t.fp) : t'.fp.Nodup := by
  induction r with
  | here => exact nb
  | down r' ih =>
    rename_i a d l k wd ht x y dn rp q q'
    rw [fp] at nd
    have nps : (fpL (dn ++ q :: rp)).Nodup := by simp at nd; exact nd.2.2.2
    have hsub := r'.sub
    have n1 := nps
    rw [fpL_append, fpL] at n1
    have n2 := List.nodup_append.mp n1
    have n3 := List.nodup_append.mp n2.2.1
    have hq' := ih n3.1 fun z hz => (new z hz).imp id fun h' hq => h' (by rw [fp, fpL_append, fpL]; simp [hq])
    have apart : ∀ z ∈ q'.fp, z ∈ q.fp ∨ (z ∉ fp (mk a d l k wd ht x y (dn ++ q :: rp))) := fun z hz => by
      rcases r'.fp_mem z hz with h | h
      · exact .inl h
      · rcases new z h with h | h
        · exact .inl (hsub z h)
        · exact .inr h
    have off : ∀ z, z ∈ fp (mk a d l k wd ht x y (dn ++ q :: rp)) → z ∉ q.fp → z ∉ q'.fp := fun z hz hq hz' => by
      rcases apart z hz' with h | h
      · exact hq h
      · exact h hz
    have hdq : ∀ z ∈ fpL dn, z ∉ q.fp := fun z hz hq => n2.2.2 z hz z (List.mem_append_left _ hq) rfl
    have hrq : ∀ z ∈ fpL rp, z ∉ q.fp := fun z hz hq => n3.2.2 z hq z hz rfl
    have top : ∀ z ∈ [a, d, l], z ∉ fpL (dn ++ q :: rp) := by
      intro z hz hz'
      simp at nd
      simp only [List.mem_cons, List.not_mem_nil, or_false] at hz
      rcases hz with rfl | rfl | rfl
      · exact nd.1.2.2 hz'
      · exact nd.2.1.2 hz'
      · exact nd.2.2.1 hz'
    have inps : ∀ z ∈ fpL (dn ++ q :: rp), z ∈ fp (mk a d l k wd ht x y (dn ++ q :: rp)) := fun z hz => by rw [fp]; simp [hz]
    have nnew : (fpL (dn ++ q' :: rp)).Nodup := by
      rw [fpL_append, fpL]
      refine List.nodup_append.mpr ⟨n2.1, List.nodup_append.mpr ⟨hq', n3.2.1, ?_⟩, ?_⟩
      · intro z hz z' hz' e
        subst e
        exact off z (inps z (by rw [fpL_append, fpL]; simp [hz'])) (hrq z hz') hz
      · intro z hz z' hz' e
        subst e
        rcases List.mem_append.mp hz' with h | h
        · exact off z (inps z (by rw [fpL_append]; simp [hz])) (hdq z hz) h
        · exact n2.2.2 z hz z (List.mem_append_right _ h) rfl
    have topn : ∀ z ∈ [a, d, l], z ∉ fpL (dn ++ q' :: rp) := by
      intro z hz hz'
      have hz0 := top z hz
      rw [fpL_append, fpL] at hz' hz0
      simp only [List.mem_append, not_or] at hz' hz0
      rcases hz' with h | h | h
      · exact hz0.1 h
      · exact off z (by rw [fp]; simp only [List.mem_cons, List.not_mem_nil, or_false] at hz; rcases hz with rfl | rfl | rfl <;> simp) hz0.2.1 h
      · exact hz0.2.2 h
    rw [fp]
    have ta := topn a (by first | exact mem_mid _ _ _ | exact .head _ | exact .tail _ (.head _) | exact .tail _ (.tail _ (.head _)) | simp)
    have td := topn d (by first | exact mem_mid _ _ _ | exact .head _ | exact .tail _ (.head _) | exact .tail _ (.tail _ (.head _)) | simp)
    have tl := topn l (by first | exact mem_mid _ _ _ | exact .head _ | exact .tail _ (.head _) | exact .tail _ (.tail _ (.head _)) | simp)
    simp at nd
    simp [nd.1.1, nd.1.2.1, nd.2.1.1, ta, td, tl, nnew]
theorem path_re {p : Int} : ∀ (n : Nat) (t : T) (as : List T) (b : T) (cs : List T), t.sz ≤ n → t.path p = some (as ++ b :: cs) → t.er.panes.Nodup →
    b.path p = some (b :: cs) ∧ (∀ x ∈ b.fp, x ∈ t.fp) ∧ b.sz ≤ t.sz ∧ (t.er.Ok → b.er.Ok) ∧ b.er.panes.Nodup ∧ (∀ x ∈ b.er.panes, x ∈ t.er.panes) ∧ (∀ w N, t.In w N → b.In w N) ∧ (t.fp.Nodup → b.fp.Nodup) ∧
      ∀ b', ∃ t', Re b b' t t' ∧ P.AtP p b.er b'.er t.er t'.er := by
  intro n
  induction n with
  | zero => intro t as b cs h; have := sz_pos t; (first | (law_clear; lia) | lia | omega)
  | succ n ih =>
    intro t as b cs hn h nd
    cases as with
    | nil =>
      have e : t = b := by
        rcases path_inv h with ⟨_, e⟩ | ⟨_, dn, q, rp, l', _, _, _, e⟩
        · exact (List.cons.inj e).1.symm
        · exact (List.cons.inj e).1.symm
      subst e
      exact ⟨h, fun _ h => h, Nat.le_refl _, id, nd, fun _ h => h, fun _ _ h => h, id, fun b' => ⟨b', .here, .here⟩⟩
    | cons t0 as =>
      rcases path_inv h with ⟨_, e⟩ | ⟨hk, dn, q, rp, l', hp, h1, h2, e⟩
      · simp at e
      · obtain ⟨rfl, rfl⟩ := List.cons.inj e
        cases t0 with | mk a d l k wd ht x y ps =>
        simp only [par] at hp
        subst hp
        simp only [kin] at hk
        have hsz : q.sz ≤ n := by rw [sz, szL_append, szL] at hn; (first | (law_clear; lia) | lia | omega)
        rw [er, P.panes_node hk, erL_append, erL, P.panesL_append, P.panesL] at nd
        have n1 := List.nodup_append.mp nd
        have n2 := List.nodup_append.mp n1.2.1
        refine letG ?_
        intro kG
        obtain ⟨r1, r2, r3, r4, r5, r6, r7, r8, r9⟩ := ih q as b cs hsz h2 n2.1
        k_unfold
        clear kG
        have hpq : p ∈ q.er.panes := by
          by_cases hc : p ∈ q.er.panes
          · exact hc
          · rw [(path_none q p).mpr hc] at h2; cases h2
        refine ⟨r1, fun z hz => by rw [fp, fpL_append, fpL]; simp [r2 z hz], by rw [sz, szL_append, szL]; (first | (law_clear; lia) | lia | omega), fun ho => r4 ?_, r5, fun z hz => ?_, fun w N hin => r7 w N ?_, fun hn => r8 ?_, fun b' => ?_⟩
        · rw [er, P.Ok] at ho
          exact P.OkL_mem ho.2 _ (by rw [erL_append, erL]; simp)
        · rw [er, P.panes_node hk, erL_append, erL, P.panesL_append, P.panesL]
          simp [r6 z hz]
        · rw [In] at hin
          exact InL_mem hin.2 q (by first | exact mem_mid _ _ _ | exact .head _ | exact .tail _ (.head _) | exact .tail _ (.tail _ (.head _)) | simp)
        · rw [fp, fpL_append, fpL] at hn
          simp at hn
          exact (List.nodup_append.mp (List.nodup_append.mp hn.2.2.2).2.1).1
        · refine letG ?_
          intro kG
          obtain ⟨q', hr, hat⟩ := r9 b'
          k_unfold
          clear kG
          refine ⟨_, .down hr, ?_⟩
          rw [er, er, erL_append, erL_append, erL, erL]
          refine .down hk (fun z hz hpz => ?_) (fun z hz hpz => ?_) hat
          · exact n1.2.2 p (P.mem_panesL.mpr ⟨z, hz, hpz⟩) p (List.mem_append_left _ hpq) rfl
          · exact n2.2.2 p hpq p (P.mem_panesL.mpr ⟨z, hz, hpz⟩) rfl
end T
namespace P
noncomputable abbrev leaf (p w h : Int) : P := mk (.pane p) w h []
noncomputable abbrev old (r : Bool) (p wd ht m : Int) : P := leaf p (if r then wd - 1 - m else wd) (if r then ht else ht - 1 - m)
noncomputable abbrev new (r : Bool) (f wd ht m : Int) : P := leaf f (if r then m else wd) (if r then ht else m)
noncomputable def two (r b : Bool) (p f wd ht m : Int) : List P := if b then [new r f wd ht m, old r p wd ht m] else [old r p wd ht m, new r f wd ht m]
inductive Split (p f : Int) (r b : Bool) (wd ht m : Int) : P → P → Prop
  | root : Split p f r b wd ht m (leaf p wd ht) (mk (sideK r) wd ht (two r b p f wd ht m))
  | same {w h : Int} {dn rp : List P} {e e' : P} : AtP p (mk (sideK r) w h (dn ++ leaf p wd ht :: rp)) (mk (sideK r) w h (dn ++ two r b p f wd ht m ++ rp)) e e' → Split p f r b wd ht m e e'
  | deep {k : K} {w h : Int} {dn rp : List P} {e e' : P} : k.isPane = false → k ≠ sideK r → AtP p (mk k w h (dn ++ leaf p wd ht :: rp)) (mk k w h (dn ++ mk (sideK r) wd ht (two r b p f wd ht m) :: rp)) e e' → Split p f r b wd ht m e e'
end P
namespace T
theorem path_last {p : Int} : ∀ (n : Nat) (t : T) (l : List T), t.sz ≤ n → t.path p = some l → ∃ as b, l = as ++ [b] ∧ b.kin = .pane p := by
  intro n
  induction n with
  | zero => intro t l h; have := sz_pos t; (first | (law_clear; lia) | lia | omega)
  | succ n ih =>
    intro t l hn h
    rcases path_inv h with ⟨hk, rfl⟩ | ⟨hk, dn, q, rp, l', hp, h1, h2, rfl⟩
    · exact ⟨[], t, rfl, hk⟩
    · have hsz : q.sz ≤ n := by cases t; simp only [par] at hp; subst hp; rw [sz, szL_append, szL] at hn; (first | (law_clear; lia) | lia | omega)
      refine letG ?_
      intro kG
      obtain ⟨as, b, rfl, hb⟩ := ih q l' hsz h2
      k_unfold
      clear kG
      exact ⟨t :: as, b, rfl, hb⟩
theorem path_head {p : Int} {t : T} {l : List T} (h : t.path p = some l) : ∃ l', l = t :: l' := by
  rcases path_inv h with ⟨_, rfl⟩ | ⟨_, _, _, _, l', _, _, _, rfl⟩
  · exact ⟨[], rfl⟩
  · exact ⟨l', rfl⟩
theorem path_two {p : Int} {b c : T} (h : b.path p = some [b, c]) : b.kin.isPane = false ∧ c.kin = .pane p ∧ c.path p = some [c] ∧ ∃ dn rp, b.par = dn ++ c :: rp ∧ pathL dn p = none := by
  rcases path_inv h with ⟨_, e⟩ | ⟨hk, dn, q, rp, l', hp, h1, h2, e⟩
  · simp at e
  · simp only [List.cons.injEq, true_and] at e
    subst e
    obtain ⟨l2, e2⟩ := path_head h2
    simp only [List.cons.injEq] at e2
    obtain ⟨rfl, rfl⟩ := e2
    refine ⟨hk, ?_, h2, dn, rp, hp, h1⟩
    rcases path_inv h2 with ⟨hk, _⟩ | ⟨_, _, _, _, l', _, _, h4, e⟩
    · exact hk
    · simp only [List.cons.injEq, true_and] at e
      subst e
      obtain ⟨l3, e3⟩ := path_head h4
      simp at e3
theorem path_one {p : Int} {b c : T} (h : b.path p = some [c]) : b = c ∧ c.kin = .pane p := by
  rcases path_inv h with ⟨hk, e⟩ | ⟨_, _, _, _, l', _, _, h4, e⟩
  · simp only [List.cons.injEq, and_true] at e
    subst e
    exact ⟨rfl, hk⟩
  · simp only [List.cons.injEq] at e
    obtain ⟨_, rfl⟩ := e
    obtain ⟨l3, e3⟩ := path_head h4
    simp at e3
theorem leaf_of {c : T} {p : Int} (hk : c.kin = .pane p) (ok : c.er.Ok) : c = mk c.adr c.dic c.lst (.pane p) c.wid c.hei c.xx c.yy [] := by
  cases c with | mk a d l k w h x y ps =>
  simp only [kin] at hk
  subst hk
  rw [er, P.Ok] at ok
  have : ps = [] := by
    cases ps with
    | nil => rfl
    | cons q r => simp [K.isPane, erL] at ok
  subst this
  rfl
end T
namespace T
theorem clm {dn rp : List T} {c : T} : ∀ z ∈ [c.adr, c.dic, c.lst], z ∈ fpL (dn ++ c :: rp) := fun z hz => by
  rw [fpL_append, fpL]
  refine List.mem_append_right _ (List.mem_append_left _ ?_)
  cases c
  rw [fp]
  simp only [adr, dic, lst, List.mem_cons, List.not_mem_nil, or_false] at hz
  rcases hz with h | h | h <;> simp [h]
theorem headD_of {t : T} {p : Int} {as l : List T} {q : T} (hp : t.path p = some (as ++ q :: l)) : (as.map adr ++ [q.adr]).headD 0 = t.adr := by
  obtain ⟨l', e⟩ := path_head hp
  cases as with
  | nil => simp at e; rw [← e.1]; rfl
  | cons z zs => simp at e; rw [← e.1]; rfl
theorem coff {dn rp : List T} {c : T} (nd : (fpL (dn ++ c :: rp)).Nodup) {x : Addr} (hx : x ∈ c.fp) : ∀ z, z ∈ fpL dn ∨ z ∈ fpL rp → z ≠ x := by
  intro z hz e
  subst e
  rw [fpL_append, fpL] at nd
  have n1 := List.nodup_append.mp nd
  have n2 := List.nodup_append.mp n1.2.1
  rcases hz with h | h
  · exact n1.2.2 z h z (List.mem_append_left _ hx) rfl
  · exact n2.2.2 z hx z h rfl
theorem cells_at {w : World} {N N' : Led} {ps : List T} (hin : InL w N ps) (sub : ∀ q ∈ N, q ∈ N') : ∀ a ∈ ps.map adr, ∃ d, (a, instObj 31 d) ∈ N' := by
  intro a ha
  refine letG ?_
  intro kG
  obtain ⟨z, hz, rfl⟩ := List.mem_map.mp ha
  k_unfold
  clear kG
  refine letG ?_
  intro kG
  obtain ⟨_, _, _, _, _, _, _, _, _, _, _, _, _, _, hza, _⟩ := (InL_mem hin z hz).cell
  k_unfold
  clear kG
  exact ⟨_, sub _ hza⟩
theorem tri_fp {c : T} : c.adr ∈ c.fp ∧ c.dic ∈ c.fp ∧ c.lst ∈ c.fp := by
  cases c
  rw [fp]
  simp [adr, dic, lst]
theorem node_off {c : T} (nd : c.fp.Nodup) : And5 (∀ z ∈ fpL c.par, z ≠ c.adr ∧ z ≠ c.dic ∧ z ≠ c.lst) (c.adr ≠ c.lst) (c.dic ≠ c.lst) (c.adr ≠ c.dic) (fpL c.par).Nodup := by
  cases c
  rw [fp] at nd
  simp only [List.nodup_cons, List.mem_cons, not_or] at nd
  dsimp only [adr, dic, lst, par]
  exact ⟨fun z hz => ⟨fun e => nd.1.2.2 (e ▸ hz), fun e => nd.2.1.2 (e ▸ hz), fun e => nd.2.2.1 (e ▸ hz)⟩, nd.1.2.1, nd.2.1.1, nd.1.1, nd.2.2.2⟩
end T
namespace T
noncomputable def both (b : Bool) (o c : T) : List T := if b then [o, c] else [c, o]
theorem both_adr (b : Bool) (o c : T) : (both b o c).map adr = if b then [o.adr, c.adr] else [c.adr, o.adr] := by cases b <;> rfl
theorem both_in {w : World} {N : Led} (b : Bool) {o c : T} (ho : o.In w N) (hc : c.In w N) : InL w N (both b o c) := by
  cases b <;> simp [both, InL, ho, hc]
theorem both_fp (b : Bool) (o c : T) : (fpL (both b o c)).Perm (o.fp ++ c.fp) := by
  cases b
  · simp only [both, fpL, Bool.false_eq_true, if_false, List.append_nil]
    exact List.perm_append_comm
  · simp only [both, fpL, if_true, List.append_nil]
    exact List.Perm.refl _
theorem both_er (b : Bool) (o c : T) : erL (both b o c) = if b then [o.er, c.er] else [c.er, o.er] := by cases b <;> rfl
theorem perm_same {b : Bool} {o c c' : T} {a d l : Addr} {k k' : K} {w h x y w' h' x' y' : Int} {dn rp : List T} (e : c'.fp = c.fp) :
    (mk a d l k w h x y (dn ++ both b o c' ++ rp)).fp.Perm (o.fp ++ (mk a d l k' w' h' x' y' (dn ++ c :: rp)).fp) := by
  rw [List.perm_iff_count]
  intro z
  have := (List.perm_iff_count.mp (both_fp b o c')) z
  simp only [fp, fpL_append, fpL, List.count_append, List.count_cons] at this ⊢
  rw [e] at this
  (first | (law_clear; lia) | lia | omega)
theorem perm_deep {b : Bool} {o c c' : T} {a d l a2 d2 l2 : Addr} {k k' k2 : K} {w h x y w' h' x' y' w2 h2 x2 y2 : Int} {dn rp : List T} (e : c'.fp = c.fp) :
    (mk a d l k w h x y (dn ++ mk a2 d2 l2 k2 w2 h2 x2 y2 (both b o c') :: rp)).fp.Perm (([a2, d2, l2] ++ o.fp) ++ (mk a d l k' w' h' x' y' (dn ++ c :: rp)).fp) := by
  rw [List.perm_iff_count]
  intro z
  have := (List.perm_iff_count.mp (both_fp b o c')) z
  simp only [fp, fpL_append, fpL, List.count_append, List.count_cons, List.count_nil] at this ⊢
  rw [e] at this
  (first | (law_clear; lia) | lia | omega)
theorem perm_root {b : Bool} {o c c' : T} {a2 d2 l2 : Addr} {k2 : K} {w2 h2 x2 y2 : Int} (e : c'.fp = c.fp) :
    (mk a2 d2 l2 k2 w2 h2 x2 y2 (both b o c')).fp.Perm (([a2, d2, l2] ++ o.fp) ++ c.fp) := by
  rw [List.perm_iff_count]
  intro z
  have := (List.perm_iff_count.mp (both_fp b o c')) z
  simp only [fp, List.count_append, List.count_cons, List.count_nil] at this ⊢
  rw [e] at this
  (first | (law_clear; lia) | lia | omega)
theorem new_off {w : World} {N : Led} {t : T} {a : Addr} (h : t.In w N) (n : New N a) : a ∉ t.fp := fun ha => by
  obtain ⟨o, ho⟩ := h.has a ha
  exact n _ ho rfl
theorem re_made {w : World} {N N1 : Led} {b b' t1 t2 : T} {fr : List Addr} (re : Re b b' t1 t2) (perm : b'.fp.Perm (fr ++ b.fp)) (hfr : fr.Nodup) (new : ∀ a ∈ fr, New N1 a) (in1 : t1.In w N1) (new1 : ∀ a ∈ t1.fp, New N a)
    (nd1 : t1.fp.Nodup) (bnd : b.fp.Nodup) (sub1 : ∀ p ∈ N, p ∈ N1) : (∀ a ∈ t2.fp, New N a) ∧ t2.fp.Nodup := by
  have off : ∀ a ∈ fr, a ∉ t1.fp := fun a ha => new_off in1 (new a ha)
  refine ⟨fun a ha => ?_, re.nodup nd1 (perm.nodup_iff.mpr (List.nodup_append.mpr ⟨hfr, bnd, fun x hx y hy e => off x hx (e ▸ re.sub y hy)⟩)) fun x hx => ?_⟩
  · rcases re.fp_mem a ha with h | h
    · exact new1 a h
    · rcases List.mem_append.mp (perm.mem_iff.mp h) with h | h
      · exact (new a h).sub sub1
      · exact new1 a (re.sub a h)
  · rcases List.mem_append.mp (perm.mem_iff.mp hx) with h | h
    · exact .inr (off x h)
    · exact .inl h
theorem Re.self {b t t' : T} (h : Re b b t t') : t' = t := by
  induction h with
  | here => rfl
  | down _ ih => rw [ih]
theorem adr_nodup : ∀ {ps : List T}, (fpL ps).Nodup → (ps.map adr).Nodup
  | [], _ => by simp
  | p :: r, h => by
    rw [fpL] at h
    have h1 := List.nodup_append.mp h
    rw [List.map_cons, List.nodup_cons]
    refine ⟨fun hm => ?_, adr_nodup h1.2.1⟩
    refine letG ?_
    intro kG
    obtain ⟨q, hq, e⟩ := List.mem_map.mp hm
    k_unfold
    clear kG
    refine h1.2.2 p.adr (adr_mem p) q.adr ?_ e.symm
    clear hm h1 h e
    induction r with
    | nil => cases hq
    | cons z r ih =>
      rw [fpL]
      rcases List.mem_cons.mp hq with rfl | hq
      · exact List.mem_append_left _ (adr_mem _)
      · exact List.mem_append_right _ (ih hq)
theorem at_idx {dn rp : List T} {c : T} {i : Nat} (h : (fpL (dn ++ c :: rp)).Nodup) (hi : ((dn ++ c :: rp).map adr)[i]? = some c.adr) : i = dn.length := by
  have n := adr_nodup h
  have hj : ((dn ++ c :: rp).map adr)[dn.length]? = some c.adr := by simp
  obtain ⟨h1, e1⟩ := List.getElem?_eq_some_iff.mp hi
  obtain ⟨h2, e2⟩ := List.getElem?_eq_some_iff.mp hj
  have pw := List.pairwise_iff_getElem.mp n
  rcases Nat.lt_trichotomy i dn.length with h | h | h
  · exact absurd (e1.trans e2.symm) (pw _ _ h1 h2 h)
  · exact h
  · exact absurd (e2.trans e1.symm) (pw _ _ h2 h1 h)
end T
namespace P
theorem AtP_sz {p : Int} {B B' e e' : P} (h : AtP p B B' e e') : e'.sz + B.sz = e.sz + B'.sz := by
  induction h with
  | here => (first | (law_clear; lia) | lia | omega)
  | down _ _ _ _ ih => simp only [sz, szL_append, szL] at ih ⊢; (first | (law_clear; lia) | lia | omega)
theorem two_sz (r b : Bool) (p f wd ht m : Int) : szL (two r b p f wd ht m) = 2 := by cases b <;> simp [two, szL, sz]
theorem Split_sz {p f : Int} {r b : Bool} {wd ht m : Int} {e e' : P} (h : Split p f r b wd ht m e e') : e'.sz ≤ e.sz + 2 := by
  have h2 := two_sz r b p f wd ht m
  cases h with
  | root => simp only [sz, szL] at h2 ⊢; (first | (law_clear; lia) | lia | omega)
  | same h => have := AtP_sz h; simp only [sz, szL_append, szL] at this h2; (first | (law_clear; lia) | lia | omega)
  | deep _ _ h => have := AtP_sz h; simp only [sz, szL_append, szL] at this h2; (first | (law_clear; lia) | lia | omega)
end P
theorem T.both_two {r b : Bool} {p f cw ch sd m0 : Int} (hsd : sd = if r then cw else ch) (oa od ol ca cd cl : Addr) (cx cy : Int) :
    T.erL (T.both b (T.mk oa od ol (.pane f) (if r then m0 else cw) (if r then ch else m0) 0 0 []) (T.mk ca cd cl (.pane p) (if r then sd - 1 - m0 else cw) (if r then ch else sd - 1 - m0) cx cy [])) = P.two r b p f cw ch m0 := by
  rw [T.both_er, P.two, T.er, T.er, hsd]
  cases r <;> rfl
theorem cell_two {w : World} {N : Led} {r : Bool} {na nd bl : Addr} {t1 t2 t3 t4 t5 t6 t7 tk tw th tx ty : Tok} {e : Nat} {cw ch x y : Int} {items : List Addr} (kt : Tok) (h1 : (na, instObj 31 nd) ∈ N)
    (h2 : (nd, cellD w t1 t2 t3 t4 t5 t6 t7 (kindV (if r then .row else .col) tk) (.int cw tw) (.int ch th) (.int x tx) (.int y ty) (.ref bl) .none) ∈ N) (h3 : (bl, listOf (refsA items) e) ∈ N) : CellIn w N na nd bl (sideK r) cw ch x y items := by
  cases r
  · exact CellIn.mk (k := K.col) (tp := kt) h1 h2 h3
  · exact CellIn.mk (k := K.row) (tp := kt) h1 h2 h3
section
example : True := by
  k_with "subscriptTail" => (refine halt ?_)
  k_with "call builtin:len" => (refine halt ?_)
  k_with "setItem ref ref" => (refine halt ?_)
  k_with "eval IfExp" => (refine halt ?_)
  trivial
noncomputable def SplitPost (w : World) (N : Led) (t : T) (p f : Int) (r : Bool) (sv : Value) (b : Bool) (v : Value) (N' : Led) : Prop := (∀ q ∈ N, q ∈ N') ∧
      ((v = .none ∧ (p ∉ t.er.panes ∨ f ∈ t.er.panes ∨ ∃ wd ht, P.AtP p (P.leaf p wd ht) (P.leaf p wd ht) t.er t.er ∧ (if r then wd else ht) < 3)) ∨
      Ex4 fun t' wd ht m => And8 (v = .ref t'.adr) (Made w N N' t') (t'.At 0 0) (1 ≤ m) (m ≤ (if r then wd else ht) - 2) (sv = .none → m = max 1 (min (((if r then wd else ht) + 1) / 2 - 1) ((if r then wd else ht) - 2)))
        (f ∉ t.er.panes) (P.Split p f r b wd ht m t.er t'.er))
theorem split_core (w : World) (n : Nat) (t : T) (N : Led) (p f : Int) (tp tf : Tok) (r b : Bool) (sv : Value) (hsv : sv = .none ∨ ∃ s tk, sv = .int s tk)
    (hn : t.sz ≤ n) (tin : t.In w N) (ok : t.er.Ok) (nd : t.er.panes.Nodup) (vs : List Value)
    (hb : ∀ (s : Shared) (fd : FuncData), (heapO w.params).In s.heap → (fnO 16 (.ref 121) "termcore.layouts" 187 127).data = .func fd →
      BindsTo s fd ⟨vs, []⟩ [("root", .ref t.adr), ("pane", .int p tp), ("fresh", .int f tf), ("is_row", .bool r), ("size", sv), ("is_before", .bool b)]) :
    Tell w 128 vs (5 * n + 90) N (PostK (SplitPost w N t p f r sv b)) := by
  unfold Tell
  intro cx A₀ base h₀ L m mean mg mb s Q E B hf hk F X N₀ TT hd hu ret
  (refine wpAny_call ?_; k_dflt (refine' code_def ?k1 ?k2 ?k3 ?k4 ?k5 ?kA ?kF ?kK ?k6 ?k7 ?k8 ?k9 ?kB ?_ ?c2 ?c3 ?c4 ?c5; (case kA => exact rfl); (case kF => assumption); (case kK => assumption); (case k1 => k_asm); (case k2 => k_asm); (case k3 => k_asm); (case k4 => k_asm); (case k5 => k_asm); (case k6 => k_is); (case k7 => k_is); (case k8 => k_room); (case k9 => exact hb _ _ (by k_in) rfl); (case c5 => decide); (case kB => exact locs rfl); (case c2 => exact rfl); (case c3 => exact rfl); (case c4 => exact rfl); k_whole; intro _ _ _ _ _ _ _ _ _; (try dsimp only); (try (refine foldL ?_; intro kQ kE))))
  k_steps
  rename Fr _ _ _ _ => F2
  rename News _ _ _ _ => N2
  rename Below _ _ (_ :: _) _ => B2
  rename Frag.In _ _ => X2
  rename Top _ _ _ _ _ _ => T2
  refine Tell.use (layout_copy w n t N hn tin) B2 F2 X2 N2 T2 rfl rfl (by (first | exact rm1 hd (Nat.le_of_ble_eq_true rfl) | exact rm2 hd (Nat.le_of_ble_eq_true rfl) | (dsimp only; (first | (law_clear; lia) | lia | omega)))) (by (first | exact ru1 hu (Nat.le_of_ble_eq_true rfl) | exact ru2 hu (Nat.le_of_ble_eq_true rfl) | (dsimp only; (first | (law_clear; lia) | lia | omega)))) ?_
  intro kQ kM
  rintro N1 t1 ⟨in1, new1, nd1, sub1⟩ er1 ar1 h1 tk1 F3 N3
  clear F2 N2
  k_steps
  have sz1 : t1.sz ≤ n := by rw [← T.sz_er, er1, T.sz_er]; exact hn
  refine Tell.use (layout_path w p tp n t1 N1 sz1 in1) B2 F3 X2 N3 T2 rfl rfl (by (first | exact rm1 hd (Nat.le_of_ble_eq_true rfl) | exact rm2 hd (Nat.le_of_ble_eq_true rfl) | (dsimp only; (first | (law_clear; lia) | lia | omega)))) (by (first | exact ru1 hu (Nat.le_of_ble_eq_true rfl) | exact ru2 hu (Nat.le_of_ble_eq_true rfl) | (dsimp only; (first | (law_clear; lia) | lia | omega)))) ?_
  intro kQ kM
  rintro r2 N2 ⟨hr, sub2⟩
  intro h2 tk2 F4 N4
  clear F3 N3
  cases hp : t1.path p with
  | none =>
    rw [hp] at hr
    subst hr
    k_steps
    refine ret _ _ ⟨fun q hq => sub2 _ (sub1 _ hq), .inl ⟨rfl, .inl ?_⟩⟩ _ _ (by k_asm) (by k_asm)
    rw [← er1]
    exact (T.path_none t1 p).mp hp
  | some pl =>
    rw [hp] at hr
    refine letG ?_
    intro kG
    obtain ⟨pa, pe, rfl, hpl, pnew⟩ := hr
    k_unfold
    clear kG
    k_steps
    rename Fr _ _ _ _ => F5
    rename News _ _ _ _ => N5
    refine Tell.use (layout_panes w n t N2 hn (tin.all fun q hq => sub2 _ (sub1 _ hq))) B2 F5 X2 N5 T2 rfl rfl (by (first | exact rm1 hd (Nat.le_of_ble_eq_true rfl) | exact rm2 hd (Nat.le_of_ble_eq_true rfl) | (dsimp only; (first | (law_clear; lia) | lia | omega)))) (by (first | exact ru1 hu (Nat.le_of_ble_eq_true rfl) | exact ru2 hu (Nat.le_of_ble_eq_true rfl) | (dsimp only; (first | (law_clear; lia) | lia | omega)))) ?_
    intro kQ kM
    intro N3 il its ie hil hints inew sub3 h3 tk3 F6 N6
    clear F5 N5
    k_steps
    refine in_list_ints (News.isList N6 hil) hints ?_
    have hany : (t.panes.any fun x => x == f) = decide (f ∈ t.er.panes) := by
      rw [T.panes_er, Bool.eq_iff_iff]
      simp
    rw [hany]
    clear hany
    by_cases hf2 : f ∈ t.er.panes
    · rw [decide_eq_true hf2]
      k_steps
      exact ret _ _ ⟨fun q hq => sub3 _ (sub2 _ (sub1 _ hq)), .inl ⟨rfl, .inr (.inl hf2)⟩⟩ _ _ (by k_asm) (by k_asm)
    rw [decide_eq_false hf2]
    refine letG ?_
    intro kG
    obtain ⟨as, c, rfl, hck⟩ := T.path_last n t1 pl sz1 hp
    k_unfold
    clear kG
    have plen := T.path_len t1 p _ hp
    rw [List.length_append, List.length_singleton] at plen
    refine letG ?_
    intro kG
    obtain ⟨cpath, cfp, csz, cok, cnd, cpan, cin, cfn, cre⟩ := T.path_re n t1 as c [] sz1 hp (er1 ▸ nd)
    k_unfold
    clear kG
    have cl0 := T.leaf_of hck (cok (er1 ▸ ok))
    have lim : as.length + 1 ≤ 200 ∧ n ≤ 200 := by simp only [recursionLimit] at hd; (first | (law_clear; lia) | lia | omega)
    obtain ⟨ca, cd, cl, cw, ch, cx, cy, rfl⟩ : Ex7 fun ca cd cl cw ch cx cy => c = T.mk ca cd cl (.pane p) cw ch cx cy [] := ⟨_, _, _, _, _, _, _, cl0⟩
    clear cl0 hck
    have cc := (cin w N1 in1).cell.sub (N' := N3) (fun o h => sub3 _ (sub2 _ h)) (fun o h => sub3 _ (sub2 _ h)) (fun o h => sub3 _ (sub2 _ h))
    have cc0 := cc
    dsimp only [T.adr, T.dic, T.lst, T.kin, T.wid, T.hei, T.xx, T.yy, T.par, List.map_nil] at cc cc0
    have hpl3 := sub3 _ hpl
    k_steps
    refine halt (item_led (j := as.length) (v := .ref ca) (by k_asm) hpl3 (seqIndex_at (.inr ⟨by decide, by simp; (first | (law_clear; lia) | lia | omega)⟩) (by first | exact mem_mid _ _ _ | exact .head _ | exact .tail _ (.head _) | exact .tail _ (.tail _ (.head _)) | simp)) (by simp [T.adr]) (by decide) (by decide) ?_)
    (try dsimp only)
    k_steps
    rename Fr _ _ _ _ => F7
    rename News _ _ _ _ => N7
    refine Tell.use (layout_side w N3 cc r) B2 F7 X2 N7 T2 rfl rfl (by (first | exact rm1 hd (Nat.le_of_ble_eq_true rfl) | exact rm2 hd (Nat.le_of_ble_eq_true rfl) | (dsimp only; (first | (law_clear; lia) | lia | omega)))) (by (first | exact ru1 hu (Nat.le_of_ble_eq_true rfl) | exact ru2 hu (Nat.le_of_ble_eq_true rfl) | (dsimp only; (first | (law_clear; lia) | lia | omega)))) ?_
    intro kQ kM
    rintro N4 st rfl h4 tk4 F8 N8
    clear F7 N7
    refine letG ?_
    intro kG
    obtain ⟨t1', t2', t3', t4', t5', t6', t7', tk', tw', th', tx', ty', tp', e', ha, hdd, hl⟩ := cc
    k_unfold
    clear kG
    dsimp only [kindV, paneV] at hdd
    obtain ⟨sd, hsd⟩ : ∃ sd : Int, sd = if r then cw else ch := ⟨_, rfl⟩
    rw [← hsd]
    k_steps
    · refine ret _ _ ⟨fun q hq => sub3 _ (sub2 _ (sub1 _ hq)), .inl ⟨rfl, .inr (.inr ⟨cw, ch, ?_, ?_⟩)⟩⟩ _ _ (by k_asm) (by k_asm)
      · refine letG ?_
        intro kG
        obtain ⟨t', hre, hat⟩ := cre (T.mk ca cd cl (.pane p) cw ch cx cy [])
        k_unfold
        clear kG
        rw [hre.self, er1] at hat
        exact hat
      · rw [← hsd]
        rename sd < _ => hlt
        exact hlt
    rename ¬ sd < _ => hge
    rename Fr _ _ _ _ => F9
    rename News _ _ _ _ => N9
    refine join_led F9 N9 (fun v N' => N4 = N' ∧ ∃ wish wt, v = .int wish wt ∧ (sv = .none → wish = (sd + 1) / 2 - 1)) ?_ ?_
    · refine IfExp_ ?_
      rcases hsv with rfl | ⟨sz, zk, rfl⟩
      · k_steps
        exact ⟨_, _, _, rfl, by assumption, by assumption, rfl, _, _, rfl, fun _ => by rw [Int.fdiv_eq_ediv_of_nonneg _ (by decide)]⟩
      · k_steps
        exact ⟨_, _, _, rfl, by assumption, by assumption, rfl, _, _, rfl, fun h => nomatch h⟩
    rintro v h9 tk9 N' F10 N10 ⟨rfl, wish, wt, rfl, hwish⟩
    clear F9 N9
    k_steps
    rename ∀ p ∈ N4, p.1 < _ => olt
    rename Fr _ _ _ _ => F9
    rename News _ _ _ _ => N9
    refine Tell.use (new_cell w _ _ _ _ _ _ _ _) B2 F9 X2 N9 T2 rfl rfl (by (first | exact rm1 hd (Nat.le_of_ble_eq_true rfl) | exact rm2 hd (Nat.le_of_ble_eq_true rfl) | (dsimp only; (first | (law_clear; lia) | lia | omega)))) (by (first | exact ru1 hu (Nat.le_of_ble_eq_true rfl) | exact ru2 hu (Nat.le_of_ble_eq_true rfl) | (dsimp only; (first | (law_clear; lia) | lia | omega)))) ?_
    intro kQ kM
    intro N5 oa od u1 u2 u3 u4 u5 u6 u7 oha ohd olt2 olt3 sub5 h5 tk5 F10 N10
    clear F9 N9
    obtain ⟨ol, oc, olt', old'⟩ : ∃ ol, And3 (CellIn w N5 oa od ol (.pane f) cw ch 0 0 []) ((∀ q ∈ N4, q.1 < ol)) (ol < od) := ⟨_, CellIn.mk (k := .pane f) (items := []) oha ohd (sub5 _ (List.Mem.head _)), olt, olt2 _ (.head _)⟩
    k_steps
    rename Fr _ _ _ _ => F9
    rename News _ _ _ _ => N9
    refine Tell.use (layout_set_side w N5 oc r _ _) B2 F9 X2 N9 T2 rfl rfl (by (first | exact rm1 hd (Nat.le_of_ble_eq_true rfl) | exact rm2 hd (Nat.le_of_ble_eq_true rfl) | (dsimp only; (first | (law_clear; lia) | lia | omega)))) (by (first | exact ru1 hu (Nat.le_of_ble_eq_true rfl) | exact ru2 hu (Nat.le_of_ble_eq_true rfl) | (dsimp only; (first | (law_clear; lia) | lia | omega)))) ?_
    intro kQ kM
    intro N6 oc6 sub6 h6 tk6 F10 N10
    clear F9 N9
    obtain ⟨m0, hm0⟩ : ∃ x : Int, x = if (if sd - 1 - 1 < wish then sd - 1 - 1 else wish) > 1 then if sd - 1 - 1 < wish then sd - 1 - 1 else wish else 1 := ⟨_, rfl⟩
    rw [← hm0] at oc6
    have hm1 : m0 = max 1 (min wish (sd - 2)) := hm0.trans (many_is sd wish)
    have fin : ∀ (t2 : T) (NF : Led), (∀ a ∈ t2.fp, New N a) → t2.fp.Nodup → (∀ q ∈ N, q ∈ NF) → P.Split p f r b cw ch m0 t1.er t2.er → ∀ (t3 : T) (NG : Led), t3.In w NG → t3.fp = t2.fp → t3.er = t2.er → t3.At 0 0 → (∀ q ∈ NF, q.1 ∉ t2.fp → q ∈ NG) → SplitPost w N t p f r sv b (.ref t2.adr) NG := by
      intro t2 NF new2 nd2 sub2 sp t3 NG in3 fp3 er3 at3 keep3
      have sub3 : ∀ q ∈ N, q ∈ NG := fun q hq => keep3 _ (sub2 _ hq) fun h => new2 _ h _ hq rfl
      refine ⟨sub3, .inr ⟨t3, cw, ch, m0, ?_, ⟨in3, by rw [fp3]; exact new2, by rw [fp3]; exact nd2, sub3⟩, at3, by rw [hm1]; exact one_le_many _ _, by rw [← hsd, hm1]; exact many_le (by assumption), fun h => ?_, hf2, by rw [er3, ← er1]; exact sp⟩⟩
      · rw [← T.fp_adr t3, fp3, T.fp_adr]
      · rw [← hsd, hm1, hwish h]
    k_steps
    rename Fr _ _ _ _ => F9
    rename News _ _ _ _ => N9
    refine join_led F9 N9 (fun v N' => Ex2 fun bl be => And4 (v = .ref bl) ((bl, listOf (refsA (if b then [oa, ca] else [ca, oa])) be) ∈ N') ((∀ q ∈ N6, q ∈ N')) (∀ q ∈ N6, q.1 < bl)) ?_ ?_
    · refine IfExp_ ?_
      cases b
      · k_steps
        exact ⟨_, _, _, rfl, by assumption, by assumption, _, _, rfl, .head _, fun q hq => .tail _ hq, by assumption⟩
      · k_steps
        exact ⟨_, _, _, rfl, by assumption, by assumption, _, _, rfl, .head _, fun q hq => .tail _ hq, by assumption⟩
    rintro v h9 tk9 NB F10 N10 ⟨bl, be, rfl, hbl, sub6B, blt⟩
    clear F9 N9
    k_steps
    rename Fr _ _ _ _ => F9
    rename News _ _ _ _ => N9
    refine Tell.use (layout_kind w r _) B2 F9 X2 N9 T2 rfl rfl (by (first | exact rm1 hd (Nat.le_of_ble_eq_true rfl) | exact rm2 hd (Nat.le_of_ble_eq_true rfl) | (dsimp only; (first | (law_clear; lia) | lia | omega)))) (by (first | exact ru1 hu (Nat.le_of_ble_eq_true rfl) | exact ru2 hu (Nat.le_of_ble_eq_true rfl) | (dsimp only; (first | (law_clear; lia) | lia | omega)))) ?_
    intro kQ kM
    rintro N7 kt rfl h7 tk7 F10 N10
    clear F9 N9
    have ocd : ca ≠ od := Nat.ne_of_lt (olt2 _ (.tail _ ha))
    have ocd2 : cd ≠ od := Nat.ne_of_lt (olt2 _ (.tail _ hdd))
    have ocd3 : cl ≠ od := Nat.ne_of_lt (olt2 _ (.tail _ hl))
    have sub4B : ∀ q ∈ N4, q ∈ N7 := fun q hq => sub6B _ (sub6 _ (sub5 _ (.tail _ hq)) (Nat.ne_of_lt (olt2 _ (.tail _ hq))))
    have sub46 : ∀ q ∈ N4, q ∈ N6 := fun q hq => sub6 _ (sub5 _ (.tail _ hq)) (Nat.ne_of_lt (olt2 _ (.tail _ hq)))
    have sub1B : ∀ q ∈ N1, q ∈ N7 := fun q hq => sub4B _ (sub3 _ (sub2 _ hq))
    have hplB := sub4B _ hpl3
    have haB := sub4B _ ha
    have hddB := sub4B _ hdd
    have oNew : ∀ a ∈ [oa, od, ol], New N1 a := by
      intro a ha q hq e
      have := olt' _ (sub3 _ (sub2 _ hq))
      simp only [List.mem_cons, List.not_mem_nil, or_false] at ha
      rcases ha with rfl | rfl | rfl
      · exact absurd e (Nat.ne_of_lt (Nat.lt_trans this (Nat.lt_trans old' olt3)))
      · exact absurd e (Nat.ne_of_lt (Nat.lt_trans this old'))
      · exact absurd e (Nat.ne_of_lt this)
    have onn : [oa, od, ol].Nodup := by
      have h1 := Nat.ne_of_gt olt3
      have h2 := Nat.ne_of_gt (Nat.lt_trans old' olt3)
      have h3 := Nat.ne_of_gt old'
      simp [h1, h2, h3]
    have hbe : T.erL (T.both b (T.mk oa od ol (.pane f) (if r then m0 else cw) (if r then ch else m0) 0 0 []) (T.mk ca cd cl (.pane p) (if r then sd - 1 - m0 else cw) (if r then ch else sd - 1 - m0) cx cy [])) = P.two r b p f cw ch m0 := T.both_two hsd ..
    have hta := T.path_head hp
    (try dsimp only)
    k_steps
    refine halt (item_led (j := 0) (v := .ref t1.adr) N10 hplB (seqIndex_at (.inl ⟨by decide, by decide⟩) (by first | exact mem_mid _ _ _ | exact .head _ | exact .tail _ (.head _) | exact .tail _ (.tail _ (.head _)) | simp)) (by obtain ⟨l', e⟩ := hta; rw [e]; rfl) (by decide) (by decide) ?_)
    (try dsimp only)
    k_steps
    rename News _ _ _ _ => N11
    have N12 := News.sub N11 (N' := N7) (fun q hq => .tail _ hq)
    clear N11
    refine halt (len_led N12 hplB (by simp; (first | (law_clear; lia) | lia | omega)) ?_)
    (try dsimp only)
    k_steps
    · rename 1 < _ => hlen
      obtain rfl | ⟨as', q, rfl⟩ : as = [] ∨ ∃ as' q, as = as' ++ [q] := by
        rcases List.eq_nil_or_concat as with h | ⟨a, b, h⟩
        · exact .inl h
        · exact .inr ⟨a, b, by rw [h]; simp⟩
      · exfalso
        simp at hlen
      have hp2 : t1.path p = some (as' ++ q :: [T.mk ca cd cl (K.pane p) cw ch cx cy []]) := by rw [hp]; simp
      refine letG ?_
      intro kG
      obtain ⟨qpath, qfp, qsz, qok, qnd, qpan, qin, qfn, qre⟩ := T.path_re n t1 as' q _ sz1 hp2 (er1 ▸ nd)
      k_unfold
      clear kG
      refine letG ?_
      intro kG
      obtain ⟨qk, _, _, dn, rp, qpar, qdn⟩ := T.path_two qpath
      k_unfold
      clear kG
      obtain ⟨qa, qd, ql, qkk, qw, qh, qx, qy, rfl⟩ : Ex8 fun qa qd ql qkk qw qh qx qy => q = T.mk qa qd ql qkk qw qh qx qy (dn ++ T.mk ca cd cl (K.pane p) cw ch cx cy [] :: rp) := by
        cases q
        exact ⟨_, _, _, _, _, _, _, _, by rw [← qpar]; rfl⟩
      clear qpar
      simp only [T.kin] at qk
      have qc := (qin w N1 in1).cell.sub (N' := N7) (fun o h => sub1B _ h) (fun o h => sub1B _ h) (fun o h => sub1B _ h)
      dsimp only [T.adr, T.dic, T.lst, T.kin, T.wid, T.hei, T.xx, T.yy, T.par] at qc
      have qc0 := qc
      refine letG ?_
      intro kG
      obtain ⟨v1, v2, v3, v4, v5, v6, v7, vk, vw, vh, vx, vy, vp, ve, hqa, hqd, hql⟩ := qc
      k_unfold
      clear kG
      have hit : ∀ {Q E : Value → Shared → Prop} {value slice : Expr} {A : Around} {s : Shared} {h : Heap} {L : Addr} {u : Tok}, News h L s.heap N7 → Q (.ref qa) s → subscripted slice false (.ref pa) (.int (-2) u) = operate [.ref pa, .int (-2) u] (getItem (.ref pa) (.int (-2) u)) → Halt (wpAny (model PR w) A (subscriptTail value slice (.ref pa) (.int (-2) u)) Q E s) :=
        fun n0 h hs => halt (item_led (j := as'.length) (v := .ref qa) n0 hplB (seqIndex_at (.inr ⟨by decide, by simp; (first | (law_clear; lia) | lia | omega)⟩) (by first | exact mem_mid _ _ _ | exact .head _ | exact .tail _ (.head _) | exact .tail _ (.tail _ (.head _)) | simp)) (by simp [T.adr]) (by decide) (by decide) h hs)
      have hcin : ca ∈ (dn ++ T.mk ca cd cl (K.pane p) cw ch cx cy [] :: rp).map T.adr := by simp [T.adr]
      have hcell := T.cells_at (qin w N1 in1).parts sub1B
      refine hit N12 ?_ (by with_unfolding_all rfl)
      (try dsimp only)
      k_steps
      have hh1 : (as'.map T.adr ++ [qa]).headD 0 = t1.adr := T.headD_of hp2
      have qn := qfn nd1
      refine letG ?_
      intro kG
      obtain ⟨qoff, qal1, qal2, -, qnl⟩ := T.node_off qn
      k_unfold
      clear kG
      dsimp only [T.adr, T.dic, T.lst, T.par] at qoff qal1 qal2 qnl
      have clm : ∀ z ∈ [ca, cd, cl], z ∈ T.fpL (dn ++ T.mk ca cd cl (K.pane p) cw ch cx cy [] :: rp) := T.clm (c := T.mk ca cd cl (K.pane p) cw ch cx cy [])
      have coff := T.coff qnl (x := cd) T.tri_fp.2.1
      have qin1 := qin w N1 in1
      have clq := (qoff cl (clm _ (by first | exact mem_mid _ _ _ | exact .head _ | exact .tail _ (.head _) | exact .tail _ (.tail _ (.head _)) | simp))).2.2
      have oaq : ∀ a ∈ [oa, od, ol], a ∉ (T.mk qa qd ql qkk qw qh qx qy (dn ++ T.mk ca cd cl (K.pane p) cw ch cx cy [] :: rp)).fp := fun a ha => T.new_off qin1 (oNew a ha)
      have fine : ∀ NF : Led, (∀ q ∈ N7, q.1 ≠ ql → q.1 ≠ cd → q ∈ NF) → CellIn w NF ca cd cl (.pane p) (if r then sd - 1 - m0 else cw) (if r then ch else sd - 1 - m0) cx cy [] →
          T.InL w NF dn ∧ T.InL w NF rp ∧ T.InL w NF (T.both b (T.mk oa od ol (.pane f) (if r then m0 else cw) (if r then ch else m0) 0 0 []) (T.mk ca cd cl (.pane p) (if r then sd - 1 - m0 else cw) (if r then ch else sd - 1 - m0) cx cy [])) ∧ (∀ q ∈ N, q ∈ NF) := by
        intro NF keep hc
        have hs := T.InL_split qin1.parts
        have hs2 := hs.2
        rw [T.InL] at hs2
        refine ⟨hs.1.to fun a ha o ho => keep _ (sub1B _ ho) ?_ ?_, hs2.2.to fun a ha o ho => keep _ (sub1B _ ho) ?_ ?_, T.both_in b ?_ ?_, fun q hq => keep _ (sub1B _ (sub1 _ hq)) ?_ ?_⟩
        · exact (qoff a (by rw [T.fpL_append]; exact List.mem_append_left _ ha)).2.2
        · exact coff a (.inl ha)
        · exact (qoff a (by rw [T.fpL_append, T.fpL]; simp [ha])).2.2
        · exact coff a (.inr ha)
        · rw [T.In]
          refine ⟨oc6.sub (fun o ho => keep _ (sub6B _ ho) ?_ ?_) (fun o ho => keep _ (sub6B _ ho) ?_ ?_) (fun o ho => keep _ (sub6B _ ho) ?_ ?_), by rw [T.InL]; trivial⟩
          · exact fun e => oaq oa (by first | exact mem_mid _ _ _ | exact .head _ | exact .tail _ (.head _) | exact .tail _ (.tail _ (.head _)) | simp) (by first | exact T.par_in (show oa = ql from e) | (rw [T.fp]; simp [show oa = ql from e]))
          · exact fun e => oaq oa (by first | exact mem_mid _ _ _ | exact .head _ | exact .tail _ (.head _) | exact .tail _ (.tail _ (.head _)) | simp) (by rw [T.fp, T.fpL_append, T.fpL, T.fp]; simp [show oa = cd from e])
          · exact fun e => oaq od (by first | exact mem_mid _ _ _ | exact .head _ | exact .tail _ (.head _) | exact .tail _ (.tail _ (.head _)) | simp) (by first | exact T.par_in (show od = ql from e) | (rw [T.fp]; simp [show od = ql from e]))
          · exact fun e => oaq od (by first | exact mem_mid _ _ _ | exact .head _ | exact .tail _ (.head _) | exact .tail _ (.tail _ (.head _)) | simp) (by rw [T.fp, T.fpL_append, T.fpL, T.fp]; simp [show od = cd from e])
          · exact fun e => oaq ol (by first | exact mem_mid _ _ _ | exact .head _ | exact .tail _ (.head _) | exact .tail _ (.tail _ (.head _)) | simp) (by first | exact T.par_in (show ol = ql from e) | (rw [T.fp]; simp [show ol = ql from e]))
          · exact fun e => oaq ol (by first | exact mem_mid _ _ _ | exact .head _ | exact .tail _ (.head _) | exact .tail _ (.tail _ (.head _)) | simp) (by rw [T.fp, T.fpL_append, T.fpL, T.fp]; simp [show ol = cd from e])
        · rw [T.In]
          exact ⟨hc, by rw [T.InL]; trivial⟩
        · exact fun e => new1 ql (qfp _ (by first | exact T.adr_in | exact T.dic_in | exact T.lst_in | (rw [T.fp]; simp))) _ hq e
        · exact fun e => new1 cd (cfp _ (by first | exact T.adr_in | exact T.dic_in | exact T.lst_in | (rw [T.fp]; simp))) _ hq e
      by_cases hkk : qkk = sideK r
      · refine eq_kindB (k' := sideK r) (b := true) (by rw [sameK_side]; exact decide_eq_true hkk) ?_
        (try dsimp only)
        k_steps
        rename News _ _ _ _ => N13
        refine hit N13 ?_ (by with_unfolding_all rfl)
        (try dsimp only)
        k_steps
        rename Fr _ _ _ _ => F14
        rename News _ _ _ _ => N14
        refine Tell.use (layout_index w N7 ql _ ve hql ca hcin hcell) B2 F14 X2 N14 T2 rfl rfl (by (first | exact rm1 hd (Nat.le_of_ble_eq_true rfl) | exact rm2 hd (Nat.le_of_ble_eq_true rfl) | (dsimp only; (first | (law_clear; lia) | lia | omega)))) (by (first | exact ru1 hu (Nat.le_of_ble_eq_true rfl) | exact ru2 hu (Nat.le_of_ble_eq_true rfl) | (dsimp only; (first | (law_clear; lia) | lia | omega)))) ?_
        intro kQ kM
        intro NI i it hi hni subI hI tkI FI NI'
        clear F14 N14
        k_steps
        rename News _ _ _ _ => N15
        have N16 := News.sub N15 (N' := N7) subI
        refine hit N16 ?_ (by with_unfolding_all rfl)
        clear N16
        (try dsimp only)
        have hqaI := subI _ hqa
        have hqdI := subI _ hqd
        k_steps
        have hib := T.at_idx qnl hi
        subst hib
        rename Fr _ _ _ _ => F17
        rename News _ _ _ _ => N17
        have hqlX : (ql, listOf (((dn.map T.adr).map Value.ref) ++ Value.ref ca :: ((rp.map T.adr).map Value.ref)).toArray ve) ∈ NI := by
          have := subI _ hql
          simpa [refsA, T.adr] using this
        have hblX : (bl, listOf ((if b then [oa, ca] else [ca, oa]).map Value.ref).toArray be) ∈ NI := subI _ hbl
        have blq : ql ≠ bl := by
          obtain ⟨o, ho⟩ := qin1.has ql (by first | exact T.adr_in | exact T.dic_in | exact T.lst_in | (rw [T.fp]; simp))
          exact Nat.ne_of_lt (blt _ (sub46 _ (sub3 _ (sub2 _ ho))))
        (try dsimp only)
        refine halt (setslice_led (Fr.push F17 _) (News.push F17 N17 _) (.tail _ hqlX) (.tail _ hblX) blq (by exact List.Mem.head _) (by rfl) (by rfl) (.int _ _) (.int _ _) ?_ (by rfl) ?_ ?_)
        · simp
        · simp only [List.length_append, List.length_cons, List.length_map]
          have h1 := T.lenL (dn ++ T.mk ca cd cl (K.pane p) cw ch cx cy [] :: rp)
          rw [T.sz] at qsz
          simp only [List.length_append, List.length_cons] at h1
          rw [two_len]
          (first | (law_clear; lia) | lia | omega)
        intro h18 n18 F18 N18
        obtain ⟨NE, N19, hqlE, keepE⟩ : ∃ NE, And3 (News _ _ h18 NE) ((ql, listOf (refsA ((dn ++ T.both b (T.mk oa od ol (.pane f) (if r then m0 else cw) (if r then ch else m0) 0 0 []) (T.mk ca cd cl (.pane p) (if r then sd - 1 - m0 else cw) (if r then ch else sd - 1 - m0) cx cy []) ++ rp).map T.adr)) n18) ∈ NE) (∀ q ∈ N7, q.1 ≠ ql → q ∈ NE) := by
          refine ⟨_, N18, ?_, fun q hq hne => .tail _ (mem_wipe (.tail _ (subI _ hq)) hne)⟩
          have : (((dn.map T.adr).map Value.ref) ++ (if b then [oa, ca] else [ca, oa]).map Value.ref ++ ((rp.map T.adr).map Value.ref)).toArray = refsA ((dn ++ T.both b (T.mk oa od ol (.pane f) (if r then m0 else cw) (if r then ch else m0) 0 0 []) (T.mk ca cd cl (.pane p) (if r then sd - 1 - m0 else cw) (if r then ch else sd - 1 - m0) cx cy []) ++ rp).map T.adr) := by
            rw [List.map_append, List.map_append, T.both_adr]
            simp [refsA, T.adr]
          rw [← this]
          exact List.Mem.head _
        clear N18
        have ccE := cc0.sub (N' := NE) (fun o h => keepE _ (sub4B _ h) (qoff ca (clm _ (by first | exact mem_mid _ _ _ | exact .head _ | exact .tail _ (.head _) | exact .tail _ (.tail _ (.head _)) | simp))).2.2) (fun o h => keepE _ (sub4B _ h) (qoff cd (clm _ (by first | exact mem_mid _ _ _ | exact .head _ | exact .tail _ (.head _) | exact .tail _ (.tail _ (.head _)) | simp))).2.2) (fun o h => keepE _ (sub4B _ h) clq)
        k_steps
        rename Fr _ _ _ _ => F20
        rename News _ _ _ _ => N20
        refine Tell.use (layout_set_side w NE ccE r _ _) B2 F20 X2 N20 T2 rfl rfl (by (first | exact rm1 hd (Nat.le_of_ble_eq_true rfl) | exact rm2 hd (Nat.le_of_ble_eq_true rfl) | (dsimp only; (first | (law_clear; lia) | lia | omega)))) (by (first | exact ru1 hu (Nat.le_of_ble_eq_true rfl) | exact ru2 hu (Nat.le_of_ble_eq_true rfl) | (dsimp only; (first | (law_clear; lia) | lia | omega)))) ?_
        intro kQ kM
        intro NF cF keepF0 h21 tk21 F21 N21
        clear F20 N20
        rw [← hm0] at cF
        refine letG ?_
        intro kG
        obtain ⟨idn, irp, ibo, subF⟩ := fine NF (fun q hq h1 h2 => keepF0 _ (keepE _ hq h1) h2) cF
        k_unfold
        clear kG
        refine letG ?_
        intro kG
        obtain ⟨t2, re, hat⟩ := qre (T.mk qa qd ql qkk qw qh qx qy (dn ++ T.both b (T.mk oa od ol (.pane f) (if r then m0 else cw) (if r then ch else m0) 0 0 []) (T.mk ca cd cl (.pane p) (if r then sd - 1 - m0 else cw) (if r then ch else sd - 1 - m0) cx cy []) ++ rp))
        k_unfold
        clear kG
        have hadr : t2.adr = t1.adr := re.adr rfl
        have hqd' : cd ≠ qd := (qoff cd (clm _ (by first | exact mem_mid _ _ _ | exact .head _ | exact .tail _ (.head _) | exact .tail _ (.tail _ (.head _)) | simp))).2.1
        have hqa' : cd ≠ qa := (qoff cd (clm _ (by first | exact mem_mid _ _ _ | exact .head _ | exact .tail _ (.head _) | exact .tail _ (.tail _ (.head _)) | simp))).1
        have hql' : cd ≠ ql := (qoff cd (clm _ (by first | exact mem_mid _ _ _ | exact .head _ | exact .tail _ (.head _) | exact .tail _ (.tail _ (.head _)) | simp))).2.2
        have hqal : qa ≠ ql ∧ qd ≠ ql := ⟨qal1, qal2⟩
        have in2 : t2.In w NF := by
          refine re.in rfl nd1 in1 ?_ fun q hq hqn => keepF0 _ (keepE _ (sub1B _ hq) fun e => hqn (by first | exact e ▸ T.lst_in | exact e ▸ T.dic_in | exact e ▸ T.adr_in | (rw [e, T.fp]; simp))) fun e => hqn (by rw [e, T.fp]; simp [clm cd (by first | exact mem_mid _ _ _ | exact .head _ | exact .tail _ (.head _) | exact .tail _ (.tail _ (.head _)) | simp)])
          rw [T.In]
          exact ⟨CellIn.mk (keepF0 _ (keepE _ hqa hqal.1) hqa'.symm) (keepF0 _ (keepE _ hqd hqal.2) hqd'.symm) (keepF0 _ hqlE hql'.symm), T.InL_append (T.InL_append idn ibo) irp⟩
        have ofp : (T.mk oa od ol (.pane f) (if r then m0 else cw) (if r then ch else m0) 0 0 []).fp = [oa, od, ol] := by rw [T.fp, T.fpL]
        have pm := T.perm_same (b := b) (o := T.mk oa od ol (.pane f) (if r then m0 else cw) (if r then ch else m0) 0 0 []) (c := T.mk ca cd cl (K.pane p) cw ch cx cy []) (c' := T.mk ca cd cl (.pane p) (if r then sd - 1 - m0 else cw) (if r then ch else sd - 1 - m0) cx cy []) (a := qa) (d := qd) (l := ql) (k := qkk) (k' := qkk) (w := qw) (h := qh) (x := qx) (y := qy) (w' := qw) (h' := qh) (x' := qx) (y' := qy) (dn := dn) (rp := rp) rfl
        rw [ofp] at pm
        obtain ⟨new2, nd2⟩ := T.re_made re pm onn oNew in1 new1 nd1 qn sub1
        have sp : P.Split p f r b cw ch m0 t1.er t2.er := by
          simp only [T.er, T.erL_append, T.erL, hbe, hkk] at hat
          exact .same hat
        have hsz : t2.sz ≤ n + 2 := by
          have := P.Split_sz sp
          rw [T.sz_er, T.sz_er] at this
          (first | (law_clear; lia) | lia | omega)
        have tl := fun tx ty => layout_placed w (n + 2) t2 NF 0 0 tx ty hsz in2 nd2
        simp only [hadr] at tl
        k_steps
        rename Fr _ _ _ _ => F22
        rename News _ _ _ _ => N22
        refine Tell.use (tl _ _) B2 F22 X2 N22 T2 rfl rfl (by (first | exact rm1 hd (Nat.le_of_ble_eq_true rfl) | exact rm2 hd (Nat.le_of_ble_eq_true rfl) | (dsimp only; (first | (law_clear; lia) | lia | omega)))) (by (first | exact ru1 hu (Nat.le_of_ble_eq_true rfl) | exact ru2 hu (Nat.le_of_ble_eq_true rfl) | (dsimp only; (first | (law_clear; lia) | lia | omega)))) ?_
        intro kQ kM
        intro NG t3 in3 fp3 er3 at3 keep3 hG tkG FG NG'
        clear F22 N22
        k_steps
        refine ret _ _ ?_ _ _ (by k_asm) (by k_asm)
        exact fin t2 NF new2 nd2 subF sp t3 NG in3 fp3 er3 at3 keep3
      · refine eq_kindB (k' := sideK r) (b := false) (by rw [sameK_side]; exact decide_eq_false hkk) ?_
        (try dsimp only)
        k_steps
        rename Fr _ _ _ _ => F30
        rename News _ _ _ _ => N30
        refine Tell.use (new_cell w _ _ _ _ _ _ _ _) B2 F30 X2 N30 T2 rfl rfl (by (first | exact rm1 hd (Nat.le_of_ble_eq_true rfl) | exact rm2 hd (Nat.le_of_ble_eq_true rfl) | (dsimp only; (first | (law_clear; lia) | lia | omega)))) (by (first | exact ru1 hu (Nat.le_of_ble_eq_true rfl) | exact ru2 hu (Nat.le_of_ble_eq_true rfl) | (dsimp only; (first | (law_clear; lia) | lia | omega)))) ?_
        intro kQ kM
        intro N8 na nd x1 x2 x3 x4 x5 x6 x7 hna hnd nlt nlt2 sub78 h31 tk31 F31 N31
        clear F30 N30
        have nc : CellIn w N8 na nd bl (sideK r) cw ch 0 0 (if b then [oa, ca] else [ca, oa]) := by
          exact cell_two kt hna hnd (sub78 _ hbl)
        have bl7 := nlt _ hbl
        have oa6 : oa < bl ∧ od < bl ∧ ol < bl := by
          refine letG ?_
          intro kG
          obtain ⟨_, _, _, _, _, _, _, _, _, _, _, _, _, _, g1, g2, g3⟩ := oc6
          k_unfold
          clear kG
          exact ⟨blt _ g1, blt _ g2, blt _ g3⟩
        have frn : ([na, nd, bl] ++ [oa, od, ol]).Nodup := by
          have h1 := Nat.ne_of_gt nlt2
          have h2 := Nat.ne_of_gt bl7
          have h3 := Nat.ne_of_gt (Nat.lt_trans bl7 nlt2)
          refine List.nodup_append.mpr ⟨by simp [h1, h3, h2], onn, fun x hx y hy e => ?_⟩
          simp only [List.mem_cons, List.not_mem_nil, or_false] at hx hy
          subst e
          have hlt : x < bl := by
            rcases hy with h | h | h
            · rw [h]; exact oa6.1
            · rw [h]; exact oa6.2.1
            · rw [h]; exact oa6.2.2
          rcases hx with h | h | h <;> rw [h] at hlt
          · exact Nat.lt_asymm hlt (Nat.lt_trans bl7 nlt2)
          · exact Nat.lt_asymm hlt bl7
          · exact Nat.lt_irrefl _ hlt
        have nNew : ∀ a ∈ [na, nd, bl] ++ [oa, od, ol], New N1 a := by
          intro a ha
          rcases List.mem_append.mp ha with ha | ha
          · intro q hq e
            have h1 := blt _ (sub46 _ (sub3 _ (sub2 _ hq)))
            simp only [List.mem_cons, List.not_mem_nil, or_false] at ha
            rcases ha with rfl | rfl | rfl
            · exact absurd e (Nat.ne_of_lt (Nat.lt_trans h1 (Nat.lt_trans bl7 nlt2)))
            · exact absurd e (Nat.ne_of_lt (Nat.lt_trans h1 bl7))
            · exact absurd e (Nat.ne_of_lt h1)
          · exact oNew a ha
        k_steps
        rename Fr _ _ _ _ => F32
        rename News _ _ _ _ => N32
        have hpl8 : (pa, listOf (refsA (as'.map T.adr ++ [qa, ca])) pe) ∈ N8 := by
          have := sub78 _ hplB
          simpa [T.adr] using this
        have hpaq : pa ≠ ql := fun e => T.new_off qin1 (pnew) (by first | exact e ▸ T.lst_in | exact e ▸ T.dic_in | exact e ▸ T.adr_in | (rw [e, T.fp]; simp))
        refine Tell.use (layout_exchanged2 w N8 pa ca na qa pe (as'.map T.adr) hpl8 (by simp; simp at lim; (first | (law_clear; lia) | lia | omega)) (qc0.sub (fun o h => sub78 _ h) (fun o h => sub78 _ h) (fun o h => sub78 _ h)) hcin (T.adr_nodup qnl) (fun a ha => (hcell a ha).imp fun d h => sub78 _ h) (by
          have h1 := T.lenL (dn ++ T.mk ca cd cl (K.pane p) cw ch cx cy [] :: rp)
          rw [T.sz] at qsz
          rw [List.length_map]
          (first | (law_clear; lia) | lia | omega)) hpaq) B2 F32 X2 N32 T2 rfl rfl (by (first | exact rm1 hd (Nat.le_of_ble_eq_true rfl) | exact rm2 hd (Nat.le_of_ble_eq_true rfl) | (dsimp only; (first | (law_clear; lia) | lia | omega)))) (by (first | exact ru1 hu (Nat.le_of_ble_eq_true rfl) | exact ru2 hu (Nat.le_of_ble_eq_true rfl) | (dsimp only; (first | (law_clear; lia) | lia | omega)))) ?_
        intro kQ kM
        intro NE i hi qc9 keep9 h33 tk33 F33 N33
        clear F32 N32
        have hib := T.at_idx qnl hi
        subst hib
        have hset : ((dn ++ T.mk ca cd cl (K.pane p) cw ch cx cy [] :: rp).map T.adr).set dn.length na = (dn ++ T.mk na nd bl (sideK r) cw ch 0 0 (T.both b (T.mk oa od ol (.pane f) (if r then m0 else cw) (if r then ch else m0) 0 0 []) (T.mk ca cd cl (.pane p) (if r then sd - 1 - m0 else cw) (if r then ch else sd - 1 - m0) cx cy [])) :: rp).map T.adr := by simp [T.adr]
        rw [hset] at qc9
        rw [hh1]
        have keepE : ∀ q ∈ N7, q.1 ≠ ql → q ∈ NE := fun q hq h => keep9 _ (sub78 _ hq) h
        have ccE := cc0.sub (N' := NE) (fun o h => keepE _ (sub4B _ h) (qoff ca (clm _ (by first | exact mem_mid _ _ _ | exact .head _ | exact .tail _ (.head _) | exact .tail _ (.tail _ (.head _)) | simp))).2.2) (fun o h => keepE _ (sub4B _ h) (qoff cd (clm _ (by first | exact mem_mid _ _ _ | exact .head _ | exact .tail _ (.head _) | exact .tail _ (.tail _ (.head _)) | simp))).2.2) (fun o h => keepE _ (sub4B _ h) clq)
        k_steps
        rename Fr _ _ _ _ => F20
        rename News _ _ _ _ => N20
        refine Tell.use (layout_set_side w NE ccE r _ _) B2 F20 X2 N20 T2 rfl rfl (by (first | exact rm1 hd (Nat.le_of_ble_eq_true rfl) | exact rm2 hd (Nat.le_of_ble_eq_true rfl) | (dsimp only; (first | (law_clear; lia) | lia | omega)))) (by (first | exact ru1 hu (Nat.le_of_ble_eq_true rfl) | exact ru2 hu (Nat.le_of_ble_eq_true rfl) | (dsimp only; (first | (law_clear; lia) | lia | omega)))) ?_
        intro kQ kM
        intro NF cF keepF0 h21 tk21 F21 N21
        clear F20 N20
        rw [← hm0] at cF
        refine letG ?_
        intro kG
        obtain ⟨idn, irp, ibo, subF⟩ := fine NF (fun q hq h1 h2 => keepF0 _ (keepE _ hq h1) h2) cF
        k_unfold
        clear kG
        refine letG ?_
        intro kG
        obtain ⟨t2, re, hat⟩ := qre (T.mk qa qd ql qkk qw qh qx qy (dn ++ T.mk na nd bl (sideK r) cw ch 0 0 (T.both b (T.mk oa od ol (.pane f) (if r then m0 else cw) (if r then ch else m0) 0 0 []) (T.mk ca cd cl (.pane p) (if r then sd - 1 - m0 else cw) (if r then ch else sd - 1 - m0) cx cy [])) :: rp))
        k_unfold
        clear kG
        have hadr : t2.adr = t1.adr := re.adr rfl
        have hqd' : cd ≠ qd := (qoff cd (clm _ (by first | exact mem_mid _ _ _ | exact .head _ | exact .tail _ (.head _) | exact .tail _ (.tail _ (.head _)) | simp))).2.1
        have hqa' : cd ≠ qa := (qoff cd (clm _ (by first | exact mem_mid _ _ _ | exact .head _ | exact .tail _ (.head _) | exact .tail _ (.tail _ (.head _)) | simp))).1
        have hql' : cd ≠ ql := (qoff cd (clm _ (by first | exact mem_mid _ _ _ | exact .head _ | exact .tail _ (.head _) | exact .tail _ (.tail _ (.head _)) | simp))).2.2
        have noff : ∀ z ∈ [na, nd, bl], z ≠ ql ∧ z ≠ cd := fun z hz => by
          have h1 := T.new_off qin1 (nNew z (List.mem_append_left _ hz))
          exact ⟨fun e => h1 (by first | exact e ▸ T.lst_in | exact e ▸ T.dic_in | exact e ▸ T.adr_in | (rw [e, T.fp]; simp)), fun e => h1 (by rw [e, T.fp]; simp [clm cd (by first | exact mem_mid _ _ _ | exact .head _ | exact .tail _ (.head _) | exact .tail _ (.tail _ (.head _)) | simp)])⟩
        have in2 : t2.In w NF := by
          refine re.in rfl nd1 in1 ?_ fun q hq hqn => keepF0 _ (keepE _ (sub1B _ hq) fun e => hqn (by first | exact e ▸ T.lst_in | exact e ▸ T.dic_in | exact e ▸ T.adr_in | (rw [e, T.fp]; simp))) fun e => hqn (by rw [e, T.fp]; simp [clm cd (by first | exact mem_mid _ _ _ | exact .head _ | exact .tail _ (.head _) | exact .tail _ (.tail _ (.head _)) | simp)])
          rw [T.In]
          refine ⟨qc9.sub (fun o h => keepF0 _ h hqa'.symm) (fun o h => keepF0 _ h hqd'.symm) (fun o h => keepF0 _ h hql'.symm), T.InL_append idn ?_⟩
          rw [T.InL, T.In, T.both_adr]
          exact ⟨⟨nc.sub (fun o h => keepF0 _ (keep9 _ h (noff na (by first | exact mem_mid _ _ _ | exact .head _ | exact .tail _ (.head _) | exact .tail _ (.tail _ (.head _)) | simp)).1) (noff na (by first | exact mem_mid _ _ _ | exact .head _ | exact .tail _ (.head _) | exact .tail _ (.tail _ (.head _)) | simp)).2) (fun o h => keepF0 _ (keep9 _ h (noff nd (by first | exact mem_mid _ _ _ | exact .head _ | exact .tail _ (.head _) | exact .tail _ (.tail _ (.head _)) | simp)).1) (noff nd (by first | exact mem_mid _ _ _ | exact .head _ | exact .tail _ (.head _) | exact .tail _ (.tail _ (.head _)) | simp)).2) (fun o h => keepF0 _ (keep9 _ h (noff bl (by first | exact mem_mid _ _ _ | exact .head _ | exact .tail _ (.head _) | exact .tail _ (.tail _ (.head _)) | simp)).1) (noff bl (by first | exact mem_mid _ _ _ | exact .head _ | exact .tail _ (.head _) | exact .tail _ (.tail _ (.head _)) | simp)).2), ibo⟩, irp⟩
        have ofp : (T.mk oa od ol (.pane f) (if r then m0 else cw) (if r then ch else m0) 0 0 []).fp = [oa, od, ol] := by rw [T.fp, T.fpL]
        have pm := T.perm_deep (b := b) (o := T.mk oa od ol (.pane f) (if r then m0 else cw) (if r then ch else m0) 0 0 []) (c := T.mk ca cd cl (K.pane p) cw ch cx cy []) (c' := T.mk ca cd cl (.pane p) (if r then sd - 1 - m0 else cw) (if r then ch else sd - 1 - m0) cx cy []) (a := qa) (d := qd) (l := ql) (k := qkk) (k' := qkk) (w := qw) (h := qh) (x := qx) (y := qy) (w' := qw) (h' := qh) (x' := qx) (y' := qy) (dn := dn) (rp := rp) (a2 := na) (d2 := nd) (l2 := bl) (k2 := sideK r) (w2 := cw) (h2 := ch) (x2 := 0) (y2 := 0) rfl
        rw [ofp] at pm
        obtain ⟨new2, nd2⟩ := T.re_made re pm frn nNew in1 new1 nd1 qn sub1
        have sp : P.Split p f r b cw ch m0 t1.er t2.er := by
          simp only [T.er, T.erL_append, T.erL, hbe] at hat
          exact .deep qk hkk hat
        have hsz : t2.sz ≤ n + 2 := by
          have := P.Split_sz sp
          rw [T.sz_er, T.sz_er] at this
          (first | (law_clear; lia) | lia | omega)
        have tl := fun tx ty => layout_placed w (n + 2) t2 NF 0 0 tx ty hsz in2 nd2
        simp only [hadr] at tl
        k_steps
        rename Fr _ _ _ _ => F22
        rename News _ _ _ _ => N22
        refine Tell.use (tl _ _) B2 F22 X2 N22 T2 rfl rfl (by (first | exact rm1 hd (Nat.le_of_ble_eq_true rfl) | exact rm2 hd (Nat.le_of_ble_eq_true rfl) | (dsimp only; (first | (law_clear; lia) | lia | omega)))) (by (first | exact ru1 hu (Nat.le_of_ble_eq_true rfl) | exact ru2 hu (Nat.le_of_ble_eq_true rfl) | (dsimp only; (first | (law_clear; lia) | lia | omega)))) ?_
        intro kQ kM
        intro NG t3 in3 fp3 er3 at3 keep3 hG tkG FG NG'
        clear F22 N22
        k_steps
        refine ret _ _ ?_ _ _ (by k_asm) (by k_asm)
        exact fin t2 NF new2 nd2 subF sp t3 NG in3 fp3 er3 at3 keep3
    · rename ¬ 1 < _ => hlen
      have has : as = [] := by
        cases as with
        | nil => rfl
        | cons z zs => exact absurd (by simp; (first | (law_clear; lia) | lia | omega)) hlen
      subst has
      obtain ⟨rfl, -⟩ := T.path_one hp
      rename Fr _ _ _ _ => F30
      rename News _ _ _ _ => N30
      refine Tell.use (new_cell w _ _ _ _ _ _ _ _) B2 F30 X2 N30 T2 rfl rfl (by (first | exact rm1 hd (Nat.le_of_ble_eq_true rfl) | exact rm2 hd (Nat.le_of_ble_eq_true rfl) | (dsimp only; (first | (law_clear; lia) | lia | omega)))) (by (first | exact ru1 hu (Nat.le_of_ble_eq_true rfl) | exact ru2 hu (Nat.le_of_ble_eq_true rfl) | (dsimp only; (first | (law_clear; lia) | lia | omega)))) ?_
      intro kQ kM
      intro N8 na nd x1 x2 x3 x4 x5 x6 x7 hna hnd nlt nlt2 sub78 h31 tk31 F31 N31
      clear F30 N30
      have nc : CellIn w N8 na nd bl (sideK r) cw ch 0 0 (if b then [oa, ca] else [ca, oa]) := by
        exact cell_two kt hna hnd (sub78 _ hbl)
      have bl7 := nlt _ hbl
      have oa6 : oa < bl ∧ od < bl ∧ ol < bl := by
        refine letG ?_
        intro kG
        obtain ⟨_, _, _, _, _, _, _, _, _, _, _, _, _, _, g1, g2, g3⟩ := oc6
        k_unfold
        clear kG
        exact ⟨blt _ g1, blt _ g2, blt _ g3⟩
      have frn : ([na, nd, bl] ++ [oa, od, ol]).Nodup := by
        have h1 := Nat.ne_of_gt nlt2
        have h2 := Nat.ne_of_gt bl7
        have h3 := Nat.ne_of_gt (Nat.lt_trans bl7 nlt2)
        refine List.nodup_append.mpr ⟨by simp [h1, h3, h2], onn, fun x hx y hy e => ?_⟩
        simp only [List.mem_cons, List.not_mem_nil, or_false] at hx hy
        subst e
        have hlt : x < bl := by
          rcases hy with h | h | h
          · rw [h]; exact oa6.1
          · rw [h]; exact oa6.2.1
          · rw [h]; exact oa6.2.2
        rcases hx with h | h | h <;> rw [h] at hlt
        · exact Nat.lt_asymm hlt (Nat.lt_trans bl7 nlt2)
        · exact Nat.lt_asymm hlt bl7
        · exact Nat.lt_irrefl _ hlt
      have nNew : ∀ a ∈ [na, nd, bl] ++ [oa, od, ol], New N1 a := by
        intro a ha
        rcases List.mem_append.mp ha with ha | ha
        · intro q hq e
          have h1 := blt _ (sub46 _ (sub3 _ (sub2 _ hq)))
          simp only [List.mem_cons, List.not_mem_nil, or_false] at ha
          rcases ha with rfl | rfl | rfl
          · exact absurd e (Nat.ne_of_lt (Nat.lt_trans h1 (Nat.lt_trans bl7 nlt2)))
          · exact absurd e (Nat.ne_of_lt (Nat.lt_trans h1 bl7))
          · exact absurd e (Nat.ne_of_lt h1)
        · exact oNew a ha
      k_steps
      rename Fr _ _ _ _ => F32
      rename News _ _ _ _ => N32
      refine Tell.use (layout_exchanged1 w N8 pa ca na pe (sub78 _ hplB)) B2 F32 X2 N32 T2 rfl rfl (by (first | exact rm1 hd (Nat.le_of_ble_eq_true rfl) | exact rm2 hd (Nat.le_of_ble_eq_true rfl) | (dsimp only; (first | (law_clear; lia) | lia | omega)))) (by (first | exact ru1 hu (Nat.le_of_ble_eq_true rfl) | exact ru2 hu (Nat.le_of_ble_eq_true rfl) | (dsimp only; (first | (law_clear; lia) | lia | omega)))) ?_
      intro kQ kM
      intro NE keepE0 h33 tk33 F33 N33
      clear F32 N32
      have keepE : ∀ q ∈ N7, q ∈ NE := fun q hq => keepE0 _ (sub78 _ hq)
      have ccE := cc0.sub (N' := NE) (fun o h => keepE _ (sub4B _ h)) (fun o h => keepE _ (sub4B _ h)) (fun o h => keepE _ (sub4B _ h))
      k_steps
      rename Fr _ _ _ _ => F20
      rename News _ _ _ _ => N20
      refine Tell.use (layout_set_side w NE ccE r _ _) B2 F20 X2 N20 T2 rfl rfl (by (first | exact rm1 hd (Nat.le_of_ble_eq_true rfl) | exact rm2 hd (Nat.le_of_ble_eq_true rfl) | (dsimp only; (first | (law_clear; lia) | lia | omega)))) (by (first | exact ru1 hu (Nat.le_of_ble_eq_true rfl) | exact ru2 hu (Nat.le_of_ble_eq_true rfl) | (dsimp only; (first | (law_clear; lia) | lia | omega)))) ?_
      intro kQ kM
      intro NF cF keepF0 h21 tk21 F21 N21
      clear F20 N20
      rw [← hm0] at cF
      obtain ⟨t2, ht2⟩ : ∃ t2, t2 = T.mk na nd bl (sideK r) cw ch 0 0 (T.both b (T.mk oa od ol (.pane f) (if r then m0 else cw) (if r then ch else m0) 0 0 []) (T.mk ca cd cl (.pane p) (if r then sd - 1 - m0 else cw) (if r then ch else sd - 1 - m0) cx cy [])) := ⟨_, rfl⟩
      have hadr : t2.adr = na := by rw [ht2]; rfl
      have noff : ∀ z ∈ [na, nd, bl] ++ [oa, od, ol], z ≠ cd := fun z hz e => T.new_off in1 (nNew z hz) (by first | exact e ▸ T.lst_in | exact e ▸ T.dic_in | exact e ▸ T.adr_in | (rw [e, T.fp]; simp))
      have in2 : t2.In w NF := by
        rw [ht2, T.In, T.both_adr]
        refine ⟨nc.sub (fun o h => keepF0 _ (keepE0 _ h) (noff na (by first | exact mem_mid _ _ _ | exact .head _ | exact .tail _ (.head _) | exact .tail _ (.tail _ (.head _)) | simp))) (fun o h => keepF0 _ (keepE0 _ h) (noff nd (by first | exact mem_mid _ _ _ | exact .head _ | exact .tail _ (.head _) | exact .tail _ (.tail _ (.head _)) | simp))) (fun o h => keepF0 _ (keepE0 _ h) (noff bl (by first | exact mem_mid _ _ _ | exact .head _ | exact .tail _ (.head _) | exact .tail _ (.tail _ (.head _)) | simp))), T.both_in b ?_ ?_⟩
        · rw [T.In]
          exact ⟨oc6.sub (fun o ho => keepF0 _ (keepE _ (sub6B _ ho)) (noff oa (by first | exact mem_mid _ _ _ | exact .head _ | exact .tail _ (.head _) | exact .tail _ (.tail _ (.head _)) | simp))) (fun o ho => keepF0 _ (keepE _ (sub6B _ ho)) (noff od (by first | exact mem_mid _ _ _ | exact .head _ | exact .tail _ (.head _) | exact .tail _ (.tail _ (.head _)) | simp))) (fun o ho => keepF0 _ (keepE _ (sub6B _ ho)) (noff ol (by first | exact mem_mid _ _ _ | exact .head _ | exact .tail _ (.head _) | exact .tail _ (.tail _ (.head _)) | simp))), by rw [T.InL]; trivial⟩
        · rw [T.In]
          exact ⟨cF, by rw [T.InL]; trivial⟩
      have subF : ∀ q ∈ N, q ∈ NF := fun q hq => keepF0 _ (keepE _ (sub1B _ (sub1 _ hq))) fun e => new1 cd (by first | exact T.adr_in | exact T.dic_in | exact T.lst_in | (rw [T.fp]; simp)) _ hq e
      have ofp : (T.mk oa od ol (.pane f) (if r then m0 else cw) (if r then ch else m0) 0 0 []).fp = [oa, od, ol] := by rw [T.fp, T.fpL]
      have pm := T.perm_root (b := b) (o := T.mk oa od ol (.pane f) (if r then m0 else cw) (if r then ch else m0) 0 0 []) (c := T.mk ca cd cl (K.pane p) cw ch cx cy []) (c' := T.mk ca cd cl (.pane p) (if r then sd - 1 - m0 else cw) (if r then ch else sd - 1 - m0) cx cy []) (a2 := na) (d2 := nd) (l2 := bl) (k2 := sideK r) (w2 := cw) (h2 := ch) (x2 := 0) (y2 := 0) rfl
      rw [ofp, ← ht2] at pm
      have new2 : ∀ a ∈ t2.fp, New N a := fun a ha => by
        rcases List.mem_append.mp (pm.mem_iff.mp ha) with h | h
        · exact (nNew a h).sub sub1
        · exact new1 a h
      have nd2 : t2.fp.Nodup := pm.nodup_iff.mpr (List.nodup_append.mpr ⟨frn, nd1, fun x hx y hy e => T.new_off in1 (nNew x hx) (e ▸ hy)⟩)
      have sp : P.Split p f r b cw ch m0 (T.mk ca cd cl (K.pane p) cw ch cx cy []).er t2.er := by
        rw [ht2]
        simp only [T.er, hbe]
        exact .root
      have hsz : t2.sz ≤ n + 2 := by
        have := P.Split_sz sp
        rw [T.sz_er, T.sz_er] at this
        (first | (law_clear; lia) | lia | omega)
      have tl := fun tx ty => layout_placed w (n + 2) t2 NF 0 0 tx ty hsz in2 nd2
      simp only [hadr] at tl
      k_steps
      rename Fr _ _ _ _ => F22
      rename News _ _ _ _ => N22
      refine Tell.use (tl _ _) B2 F22 X2 N22 T2 rfl rfl (by (first | exact rm1 hd (Nat.le_of_ble_eq_true rfl) | exact rm2 hd (Nat.le_of_ble_eq_true rfl) | (dsimp only; (first | (law_clear; lia) | lia | omega)))) (by (first | exact ru1 hu (Nat.le_of_ble_eq_true rfl) | exact ru2 hu (Nat.le_of_ble_eq_true rfl) | (dsimp only; (first | (law_clear; lia) | lia | omega)))) ?_
      intro kQ kM
      intro NG t3 in3 fp3 er3 at3 keep3 hG tkG FG NG'
      clear F22 N22
      k_steps
      refine ret _ _ ?_ _ _ (by k_asm) (by k_asm)
      exact fin t2 NF new2 nd2 subF sp t3 NG in3 fp3 er3 at3 keep3
theorem split_layout (w : World) (n : Nat) (t : T) (N : Led) (p f : Int) (tp tf : Tok) (r b : Bool) (sv : Value) (hsv : sv = .none ∨ ∃ s tk, sv = .int s tk)
    (hn : t.sz ≤ n) (tin : t.In w N) (ok : t.er.Ok) (nd : t.er.panes.Nodup) :
    Tell w 128 [.ref t.adr, .int p tp, .int f tf, .bool r, sv, .bool b] (5 * n + 90) N (PostK (SplitPost w N t p f r sv b)) :=
  split_core w n t N p f tp tf r b sv hsv hn tin ok nd _ fun s fd X e => by
    injection e with e
    subst e
    exact binds_K X rfl (by k_is) rfl rfl rfl
theorem split_layout4 (w : World) (n : Nat) (t : T) (N : Led) (p f : Int) (tp tf : Tok) (r : Bool)
    (hn : t.sz ≤ n) (tin : t.In w N) (ok : t.er.Ok) (nd : t.er.panes.Nodup) :
    Tell w 128 [.ref t.adr, .int p tp, .int f tf, .bool r] (5 * n + 90) N (PostK (SplitPost w N t p f r .none false)) :=
  split_core w n t N p f tp tf r false .none (.inl rfl) hn tin ok nd _ fun s fd X e => by
    injection e with e
    subst e
    exact binds_K X rfl (by k_is) rfl rfl rfl
example : True := by
  k_with_none
  trivial
end
namespace T
noncomputable def melt (k : K) : List T → List T
  | [] => []
  | p :: r => (if sameK p.kin k then p.par else [p]) ++ melt k r
theorem melt_append (k : K) : ∀ a b : List T, melt k (a ++ b) = melt k a ++ melt k b
  | [], b => rfl
  | p :: a, b => by rw [List.cons_append, melt, melt, melt_append k a b, List.append_assoc]
theorem melt_len (k : K) : ∀ ps : List T, (melt k ps).length ≤ szL ps
  | [] => by simp [melt]
  | p :: r => by
    have h1 := melt_len k r
    have h2 := lenL p.par
    have h3 := sz_pos p
    have h4 : szL p.par ≤ p.sz := by cases p; rw [sz]; simp [par]
    rw [melt, szL, List.length_append]
    split <;> simp <;> (first | (law_clear; lia) | lia | omega)
end T
theorem layout_melted (w : World) (n : Nat) (ps : List T) (k : K) (kt : Tok) (pl : Addr) (e : Nat) (N₀ : Led) (hn : T.szL ps ≤ n) (hl : (pl, listOf (refsA (ps.map T.adr)) e) ∈ N₀) (tl : T.InL w N₀ ps) :
    Tell w 135 [.ref pl, kindV k kt] (5 * n + 20) N₀ (ListK N₀ (refsA ((T.melt k ps).map T.adr))) := by
  unfold Tell
  intro cx A₀ base h₀ L m mean mg mb s Q E B hf hk F X N TT hd hu ret
  (refine wpAny_call ?_; k_dflt (refine' code_def ?k1 ?k2 ?k3 ?k4 ?k5 ?kA ?kF ?kK ?k6 ?k7 ?k8 ?k9 ?kB ?_ ?c2 ?c3 ?c4 ?c5; (case kA => exact rfl); (case kF => assumption); (case kK => assumption); (case k1 => k_asm); (case k2 => k_asm); (case k3 => k_asm); (case k4 => k_asm); (case k5 => k_asm); (case k6 => k_is); (case k7 => k_is); (case k8 => k_room); (case k9 => exact bnd2 "parts" "kind" rfl); (case c5 => decide); (case kB => exact locs rfl); (case c2 => exact rfl); (case c3 => exact rfl); (case c4 => exact rfl); k_whole; intro _ _ _ _ _ _ _ _ _; (try dsimp only); (try (refine foldL ?_; intro kQ kE))))
  k_steps
  rename ∀ p ∈ N₀, p.1 < _ => lt
  rename Fr _ _ _ _ => F2
  rename News _ _ _ _ => N2
  rename Below _ _ (_ :: _) _ => B2
  rename Frag.In _ _ => X2
  rename Top _ _ _ _ _ _ => T2
  rename_i fl _ _
  refine iter_led0 F2 N2 (List.mem_cons_of_mem _ hl) rfl rfl rfl rfl (fun r N => Ex3 fun (dn rp : List T) (e' : Nat) => And4 (ps = dn ++ rp) (r = (rp.map T.adr).map Value.ref) ((fl, listOf (refsA ((T.melt k dn).map T.adr)) e') ∈ N) (∀ p ∈ N₀, p ∈ N))
    ⟨[], ps, _, rfl, rfl, List.Mem.head _, fun p hp => List.mem_cons_of_mem _ hp⟩ (fun r N h => by obtain ⟨dn, rp, e', h1, h2, h3, h4⟩ := h; exact h4 _ hl) ?_ ?_
  · intro v r N I it h tk HI hne hc F3 N3
    (try (refine foldL ?_; intro kQ kE))
    refine letG ?_
    intro kG
    obtain ⟨dn, rp, e', hps, hv, hfl, hN⟩ := HI
    k_unfold
    clear kG
    cases rp with
    | nil => simp at hv
    | cons q rp =>
    simp only [List.map_cons, List.cons.injEq] at hv
    obtain ⟨rfl, rfl⟩ := hv
    clear F2 N2
    have hq : q.In w N := (T.InL_mem tl q (by first | exact hps ▸ mem_mid _ _ _ | simp [hps])).all hN
    refine letG ?_
    intro kG
    obtain ⟨t1, t2, t3, t4, t5, t6, t7, tk, tw, th, tx, ty, tp, e2, ha, hdd, hql⟩ := hq.cell
    k_unfold
    clear kG
    k_steps
    refine halt (eq_kind ?_)
    have s1 := T.melt_len k dn
    have s2 := T.lenL q.par
    have s3 : T.szL q.par ≤ q.sz := by cases q; rw [T.sz]; simp [T.par]
    have hsz : T.szL dn + (q.sz + T.szL rp) ≤ n := by rw [hps, T.szL_append, T.szL] at hn; (first | (law_clear; lia) | lia | omega)
    by_cases hs : sameK q.kin k = true
    · rw [hs]
      (try dsimp only)
      k_steps
      rename Fr _ _ _ _ => F4
      rename News _ _ _ _ => N4
      refine extend_refs F4 N4 (List.mem_cons_of_mem _ hfl) (List.mem_cons_of_mem _ hql) (by simp only [List.length_map, sizeLine_eq]; simp only [recursionLimit] at hd; (first | (law_clear; lia) | lia | omega)) ?_
      intro h3 n3 F5 N5
      clear F4 N4
      k_steps
      refine LPost0.intro F5 N5 (List.mem_cons_of_mem _ (mem_wipe (.head _) fun e => hne _ hfl e.symm)) ⟨dn ++ [q], rp, n3, by simp [hps], rfl, ?_, fun p hp => ?_⟩
      · refine mem_wipe ?_ (show fl ≠ I from hne _ hfl)
        simp [T.melt_append, T.melt, hs]
      · exact mem_wipe (List.mem_cons_of_mem _ (mem_wipe (List.mem_cons_of_mem _ (hN p hp)) (Nat.ne_of_lt (lt p hp)))) (hne _ (hN p hp))
    · rw [eq_false_of_ne_true hs]
      (try dsimp only)
      k_steps
      rename Fr _ _ _ _ => F4
      rename News _ _ _ _ => N4
      refine extend_refs (ys := [q.adr]) F4 N4 (List.mem_cons_of_mem _ (List.mem_cons_of_mem _ hfl)) (List.Mem.head _) (by simp only [List.length_map, List.length_singleton, sizeLine_eq]; simp only [recursionLimit] at hd; (first | (law_clear; lia) | lia | omega)) ?_
      intro h3 n3 F5 N5
      clear F4 N4
      k_steps
      refine LPost0.intro F5 N5 (List.mem_cons_of_mem _ (mem_wipe (.tail _ (.head _)) fun e => hne _ hfl e.symm)) ⟨dn ++ [q], rp, n3, by simp [hps], rfl, ?_, fun p hp => ?_⟩
      · refine mem_wipe ?_ (show fl ≠ I from hne _ hfl)
        simp [T.melt_append, T.melt, hs]
      · exact mem_wipe (List.mem_cons_of_mem _ (mem_wipe (List.mem_cons_of_mem _ (List.mem_cons_of_mem _ (hN p hp))) (Nat.ne_of_lt (lt p hp)))) (hne _ (hN p hp))
  · intro u N h tk HI F3 N3
    (try (refine foldL ?_; intro kQ kE))
    refine letG ?_
    intro kG
    obtain ⟨dn, rp, e', hps, hv, hfl, hN⟩ := HI
    k_unfold
    clear kG
    have : rp = [] := by cases rp with | nil => rfl | cons => simp at hv
    subst this
    rw [List.append_nil] at hps
    subst hps
    clear F2 N2
    k_steps
    rename News h₀ L _ _ => nn
    exact ret _ _ _ hfl lt hN _ _ (by k_asm) nn
namespace P
noncomputable def modAt (f : P → P) : Nat → List P → List P
  | _, [] => []
  | 0, p :: r => f p :: r
  | i + 1, p :: r => p :: modAt f i r
theorem modAt_at (f : P → P) : ∀ (a : List P) (x : P) (b : List P) (i : Nat), i = a.length → modAt f i (a ++ x :: b) = a ++ f x :: b
  | [], x, b, i, h => by subst h; rfl
  | y :: a, x, b, i, h => by
    subst h
    rw [List.length_cons, List.cons_append, modAt, modAt_at f a x b _ rfl]
    rfl
theorem modAt_len (f : P → P) : ∀ (i : Nat) (a : List P), (modAt f i a).length = a.length
  | _, [] => by simp [modAt]
  | 0, p :: r => by simp [modAt]
  | i + 1, p :: r => by simp [modAt, modAt_len f i r]
noncomputable def bump (k : K) (lw lh : Int) (dn rp : List P) : List P := modAt (grow (sameK k .row) ((if sameK k .row then lw else lh) + 1).toNat) (dn.length - 1) (dn ++ rp)
noncomputable def melt (k : K) : List P → List P
  | [] => []
  | p :: r => (if sameK p.kin k then p.par else [p]) ++ melt k r
theorem melt_append (k : K) : ∀ a b : List P, melt k (a ++ b) = melt k a ++ melt k b
  | [], b => rfl
  | p :: a, b => by rw [List.cons_append, melt, melt, melt_append k a b, List.append_assoc]
inductive Shut (p : Int) : P → P → Prop
  | many {k : K} {w h lw lh : Int} {dn rp : List P} {e e' : P} : k.isPane = false → 2 ≤ (dn ++ rp).length → AtP p (mk k w h (dn ++ leaf p lw lh :: rp)) (mk k w h (bump k lw lh dn rp)) e e' → Shut p e e'
  | root {k : K} {w h lw lh : Int} {dn rp : List P} {z : P} : k.isPane = false → bump k lw lh dn rp = [z] → Shut p (mk k w h (dn ++ leaf p lw lh :: rp)) z
  | two {gk k : K} {gw gh w h lw lh : Int} {gd gr dn rp : List P} {z e e' : P} : gk.isPane = false → k.isPane = false → bump k lw lh dn rp = [z] → (∀ x ∈ gd, p ∉ x.panes) → (∀ x ∈ gr, p ∉ x.panes) →
      AtP p (mk gk gw gh (gd ++ mk k w h (dn ++ leaf p lw lh :: rp) :: gr)) (mk gk gw gh (melt gk (gd ++ z :: gr))) e e' → Shut p e e'
end P
namespace T
theorem melt_er (k : K) : ∀ ps : List T, erL (melt k ps) = P.melt k (erL ps)
  | [] => rfl
  | p :: r => by
    rw [melt, erL, P.melt, erL_append, melt_er k r]
    congr 1
    have h1 : p.er.kin = p.kin := by cases p; rfl
    have h2 : p.er.par = erL p.par := by cases p; rfl
    rw [h1, h2]
    split <;> rfl
theorem fpL_mem {ps : List T} {z : T} (h : z ∈ ps) {a : Addr} (ha : a ∈ z.fp) : a ∈ fpL ps := by
  rw [fpL_flat]
  exact List.mem_flatten.mpr ⟨z.fp, List.mem_map.mpr ⟨z, h, rfl⟩, ha⟩
theorem fp_nodup : ∀ {ps : List T} {z : T}, z ∈ ps → (fpL ps).Nodup → z.fp.Nodup
  | p :: r, z, h, n => by
    rw [fpL] at n
    have n1 := List.nodup_append.mp n
    rcases List.mem_cons.mp h with rfl | h
    · exact n1.1
    · exact fp_nodup h n1.2.1
theorem er_mem : ∀ {ps : List T} {z : T}, z ∈ ps → z.er ∈ erL ps
  | p :: r, z, h => by
    rw [erL]
    rcases List.mem_cons.mp h with rfl | h
    · exact List.Mem.head _
    · exact List.mem_cons_of_mem _ (er_mem h)
theorem re_made2 {w : World} {N N1 : Led} {b b' t1 t2 : T} {fr : List Addr} (re : Re b b' t1 t2) (sub : ∀ a ∈ b'.fp, a ∈ fr ∨ a ∈ b.fp) (nb : b'.fp.Nodup) (new : ∀ a ∈ fr, New N1 a) (in1 : t1.In w N1) (new1 : ∀ a ∈ t1.fp, New N a)
    (nd1 : t1.fp.Nodup) (sub1 : ∀ p ∈ N, p ∈ N1) : (∀ a ∈ t2.fp, New N a) ∧ t2.fp.Nodup := by
  have off : ∀ a ∈ fr, a ∉ t1.fp := fun a ha => new_off in1 (new a ha)
  refine ⟨fun a ha => ?_, re.nodup nd1 nb fun x hx => ?_⟩
  · rcases re.fp_mem a ha with h | h
    · exact new1 a h
    · rcases sub a h with h | h
      · exact (new a h).sub sub1
      · exact new1 a (re.sub a h)
  · rcases sub x hx with h | h
    · exact .inr (off x h)
    · exact .inl h
theorem count_nodup {a b : List Addr} (h : ∀ z, a.count z ≤ b.count z) (n : b.Nodup) : a.Nodup :=
  List.nodup_iff_count.mpr fun z => Nat.le_trans (h z) (List.nodup_iff_count.mp n z)
theorem count_mem {a b : List Addr} (h : ∀ z, a.count z ≤ b.count z) {z : Addr} (hz : z ∈ a) : z ∈ b :=
  List.count_pos_iff.mp (Nat.lt_of_lt_of_le (List.count_pos_iff.mpr hz) (h z))
theorem count_drop (dn rp : List T) (c : T) (z : Addr) : (fpL (dn ++ c :: rp)).count z = (fpL (dn ++ rp)).count z + c.fp.count z := by
  rw [fpL_append, fpL_append, fpL]
  simp only [List.count_append]
  (first | (law_clear; lia) | lia | omega)
theorem melt_in {w : World} {N : Led} (k : K) : ∀ {ps : List T}, InL w N ps → InL w N (melt k ps)
  | [], _ => by rw [melt, InL]; trivial
  | p :: r, h => by
    rw [InL] at h
    rw [melt]
    refine InL_append ?_ (melt_in k h.2)
    split
    · exact h.1.parts
    · rw [InL, InL]; exact ⟨h.1, trivial⟩
theorem melt_count (k : K) (z : Addr) : ∀ ps : List T, (fpL (melt k ps)).count z ≤ (fpL ps).count z
  | [] => by simp [melt]
  | p :: r => by
    have h := melt_count k z r
    rw [melt, fpL_append, fpL, List.count_append, List.count_append]
    have h2 : (fpL (if sameK p.kin k = true then p.par else [p])).count z ≤ p.fp.count z := by
      split
      · cases p
        simp only [par, fp, List.count_cons]
        (first | (law_clear; lia) | lia | omega)
      · simp [fpL]
    (first | (law_clear; lia) | lia | omega)
theorem melt_sz (k : K) : ∀ ps : List T, szL (melt k ps) ≤ szL ps
  | [] => by simp [melt]
  | p :: r => by
    have h := melt_sz k r
    rw [melt, szL_append, szL]
    have h2 : szL (if sameK p.kin k = true then p.par else [p]) ≤ p.sz := by
      split
      · cases p; simp only [par, sz]; (first | (law_clear; lia) | lia | omega)
      · simp [szL]
    (first | (law_clear; lia) | lia | omega)
theorem pathL_off {p : Int} : ∀ {ps : List T}, pathL ps p = none → ∀ x ∈ erL ps, p ∉ x.panes := fun h x hx hp => (pathL_none _ p).mp h (P.mem_panesL.mpr ⟨x, hx, hp⟩)
theorem path_three {p : Int} {g b c : T} (h : g.path p = some [g, b, c]) (nd : g.er.panes.Nodup) : g.kin.isPane = false ∧ ∃ dn rp, g.par = dn ++ b :: rp ∧ (∀ x ∈ erL dn, p ∉ x.panes) ∧ ∀ x ∈ erL rp, p ∉ x.panes := by
  rcases path_inv h with ⟨_, e⟩ | ⟨hk, dn, q, rp, l', hp, h1, h2, e⟩
  · simp at e
  · simp only [List.cons.injEq, true_and] at e
    subst e
    obtain ⟨l2, e2⟩ := path_head h2
    simp only [List.cons.injEq] at e2
    obtain ⟨rfl, rfl⟩ := e2
    refine ⟨hk, dn, rp, hp, pathL_off h1, fun x hx hpx => ?_⟩
    cases g with | mk a d l k w h0 x0 y0 ps =>
    simp only [par] at hp
    subst hp
    simp only [kin] at hk
    rw [er, P.panes_node hk, erL_append, erL, P.panesL_append, P.panesL] at nd
    have n2 := List.nodup_append.mp (List.nodup_append.mp nd).2.1
    have hb : p ∈ b.er.panes := by
      by_cases hc : p ∈ b.er.panes
      · exact hc
      · rw [(path_none b p).mpr hc] at h2; cases h2
    exact n2.2.2 p hb p (P.mem_panesL.mpr ⟨x, hx, hpx⟩) rfl
theorem kin_er (p : T) : p.er.kin = p.kin := by cases p; rfl
theorem side_kind {k : K} (h : k.isPane = false) : sideK (sameK k .row) = k := by cases k <;> simp_all [K.isPane] <;> rfl
end T
noncomputable def ClosePost (w : World) (N : Led) (t : T) (p : Int) (v : Value) (N' : Led) : Prop := (∀ q ∈ N, q ∈ N') ∧
  ((v = .none ∧ (p ∉ t.er.panes ∨ t.er.kin = .pane p)) ∨ ∃ t', And4 (v = .ref t'.adr) (Made w N N' t') (t'.At 0 0) (P.Shut p t.er t'.er))
section
example : True := by
  k_with "subscriptTail" => (refine halt ?_)
  k_with "call builtin:len" => (refine halt ?_)
  k_with "setItem ref ref" => (refine halt ?_)
  trivial
theorem upto_last (xs : List Value) (y : Value) : (slicePick (xs ++ [y]).toArray none (some (-1)) none).toList = xs := by
  have e : sliceBounds none (some (-1)) none (xs ++ [y]).toArray.size = (((0 : Nat) : Int), ((xs.length : Nat) : Int), 1) := by
    simp only [sliceBounds, Option.getD_none, List.size_toArray, List.length_append, List.length_singleton]
    simp only [show (1 : Int) > 0 by decide, if_true, show (-1 : Int) < 0 by decide]
    refine Prod.ext rfl (Prod.ext ?_ rfl)
    simp only
    (first | (law_clear; lia) | lia | omega)
  rw [kmk_pick_nat _ e]
  simp
theorem close_pane (w : World) (n : Nat) (t : T) (N : Led) (p : Int) (tp : Tok) (hn : t.sz ≤ n) (tin : t.In w N) (ok : t.er.Ok) (nd : t.er.panes.Nodup)
    (hside : ∀ wd ht, P.AtP p (P.leaf p wd ht) (P.leaf p wd ht) t.er t.er → 0 ≤ wd ∧ wd < 1000 ∧ 0 ≤ ht ∧ ht < 1000) :
    Tell w 142 [.ref t.adr, .int p tp] (5 * n + 90) N (PostK (ClosePost w N t p)) := by
  unfold Tell
  intro cx A₀ base h₀ L m mean mg mb s Q E B hf hk F X N₀ TT hd hu ret
  (refine wpAny_call ?_; k_dflt (refine' code_def ?k1 ?k2 ?k3 ?k4 ?k5 ?kA ?kF ?kK ?k6 ?k7 ?k8 ?k9 ?kB ?_ ?c2 ?c3 ?c4 ?c5; (case kA => exact rfl); (case kF => assumption); (case kK => assumption); (case k1 => k_asm); (case k2 => k_asm); (case k3 => k_asm); (case k4 => k_asm); (case k5 => k_asm); (case k6 => k_is); (case k7 => k_is); (case k8 => k_room); (case k9 => exact bnd2 "root" "pane" rfl); (case c5 => decide); (case kB => exact locs rfl); (case c2 => exact rfl); (case c3 => exact rfl); (case c4 => exact rfl); k_whole; intro _ _ _ _ _ _ _ _ _; (try dsimp only); (try (refine foldL ?_; intro kQ kE))))
  k_steps
  rename Fr _ _ _ _ => F2
  rename News _ _ _ _ => N2
  rename Below _ _ (_ :: _) _ => B2
  rename Frag.In _ _ => X2
  rename Top _ _ _ _ _ _ => T2
  refine Tell.use (layout_copy w n t N hn tin) B2 F2 X2 N2 T2 rfl rfl (by (first | exact rm1 hd (Nat.le_of_ble_eq_true rfl) | exact rm2 hd (Nat.le_of_ble_eq_true rfl) | (dsimp only; (first | (law_clear; lia) | lia | omega)))) (by (first | exact ru1 hu (Nat.le_of_ble_eq_true rfl) | exact ru2 hu (Nat.le_of_ble_eq_true rfl) | (dsimp only; (first | (law_clear; lia) | lia | omega)))) ?_
  intro kQ kM
  rintro N1 t1 ⟨in1, new1, nd1, sub1⟩ er1 ar1 h1 tk1 F3 N3
  clear F2 N2
  k_steps
  have sz1 : t1.sz ≤ n := by rw [← T.sz_er, er1, T.sz_er]; exact hn
  refine Tell.use (layout_path w p tp n t1 N1 sz1 in1) B2 F3 X2 N3 T2 rfl rfl (by (first | exact rm1 hd (Nat.le_of_ble_eq_true rfl) | exact rm2 hd (Nat.le_of_ble_eq_true rfl) | (dsimp only; (first | (law_clear; lia) | lia | omega)))) (by (first | exact ru1 hu (Nat.le_of_ble_eq_true rfl) | exact ru2 hu (Nat.le_of_ble_eq_true rfl) | (dsimp only; (first | (law_clear; lia) | lia | omega)))) ?_
  intro kQ kM
  rintro r2 N2 ⟨hr, sub2⟩
  intro h2 tk2 F4 N4
  clear F3 N3
  cases hp : t1.path p with
  | none =>
    rw [hp] at hr
    subst hr
    k_steps
    refine ret _ _ ⟨fun q hq => sub2 _ (sub1 _ hq), .inl ⟨rfl, .inl ?_⟩⟩ _ _ (by k_asm) (by k_asm)
    rw [← er1]
    exact (T.path_none t1 p).mp hp
  | some pl =>
    rw [hp] at hr
    refine letG ?_
    intro kG
    obtain ⟨pa, pe, rfl, hpl, pnew⟩ := hr
    k_unfold
    clear kG
    refine letG ?_
    intro kG
    obtain ⟨as, c, rfl, hck⟩ := T.path_last n t1 pl sz1 hp
    k_unfold
    clear kG
    have plen := T.path_len t1 p _ hp
    rw [List.length_append, List.length_singleton] at plen
    have lim : as.length + 1 ≤ 200 ∧ n ≤ 200 := by simp only [recursionLimit] at hd; (first | (law_clear; lia) | lia | omega)
    refine letG ?_
    intro kG
    obtain ⟨cpath, cfp, csz, cok, cnd, cpan, cin, cfn, cre⟩ := T.path_re n t1 as c [] sz1 hp (er1 ▸ nd)
    k_unfold
    clear kG
    have cl0 := T.leaf_of hck (cok (er1 ▸ ok))
    obtain ⟨ca, cd, cl, cw, ch, cx, cy, rfl⟩ : Ex7 fun ca cd cl cw ch cx cy => c = T.mk ca cd cl (.pane p) cw ch cx cy [] := ⟨_, _, _, _, _, _, _, cl0⟩
    clear cl0 hck
    k_steps
    rename News _ _ _ _ => N5
    refine halt (len_led N5 hpl (by simp; (first | (law_clear; lia) | lia | omega)) ?_)
    (try dsimp only)
    k_steps
    · rename _ = 1 => hlen
      have has : as = [] := by
        cases as with
        | nil => rfl
        | cons z zs => exfalso; simp at hlen; (first | (law_clear; lia) | lia | omega)
      subst has
      obtain ⟨rfl, -⟩ := T.path_one hp
      refine ret _ _ ⟨fun q hq => sub2 _ (sub1 _ hq), .inl ⟨rfl, .inr ?_⟩⟩ _ _ (by k_asm) (by k_asm)
      rw [← er1]
      rfl
    rename _ ≠ 1 => hlen
    obtain rfl | ⟨as', q, rfl⟩ : as = [] ∨ ∃ as' q, as = as' ++ [q] := by
      rcases List.eq_nil_or_concat as with h | ⟨a, b, h⟩
      · exact .inl h
      · exact .inr ⟨a, b, by rw [h]; simp⟩
    · exfalso
      simp at hlen
    have hp2 : t1.path p = some (as' ++ q :: [T.mk ca cd cl (K.pane p) cw ch cx cy []]) := by rw [hp]; simp
    refine letG ?_
    intro kG
    obtain ⟨qpath, qfp, qsz, qok, qnd, qpan, qin, qfn, qre⟩ := T.path_re n t1 as' q _ sz1 hp2 (er1 ▸ nd)
    k_unfold
    clear kG
    refine letG ?_
    intro kG
    obtain ⟨qk, -, -, dn, rp, qpar, qdn⟩ := T.path_two qpath
    k_unfold
    clear kG
    obtain ⟨qa, qd, ql, qkk, qw, qh, qx, qy, rfl⟩ : Ex8 fun qa qd ql qkk qw qh qx qy => q = T.mk qa qd ql qkk qw qh qx qy (dn ++ T.mk ca cd cl (K.pane p) cw ch cx cy [] :: rp) := by
      cases q
      exact ⟨_, _, _, _, _, _, _, _, by rw [← qpar]; rfl⟩
    clear qpar
    simp only [T.kin] at qk
    have hab := hside cw ch (by
      refine letG ?_
      intro kG
      obtain ⟨t', hre, hat⟩ := cre (T.mk ca cd cl (.pane p) cw ch cx cy [])
      k_unfold
      clear kG
      rw [hre.self, er1] at hat
      exact hat)
    have qin1 := qin w N1 in1
    have cc := (cin w N1 in1).cell.sub (N' := N2) (fun o h => sub2 _ h) (fun o h => sub2 _ h) (fun o h => sub2 _ h)
    have qc := qin1.cell.sub (N' := N2) (fun o h => sub2 _ h) (fun o h => sub2 _ h) (fun o h => sub2 _ h)
    dsimp only [T.adr, T.dic, T.lst, T.kin, T.wid, T.hei, T.xx, T.yy, T.par, List.map_nil] at cc qc
    have cc0 := cc
    have qc0 := qc
    refine letG ?_
    intro kG
    obtain ⟨t1', t2', t3', t4', t5', t6', t7', tk', tw', th', tx', ty', tp', e', ha, hdd, hl⟩ := cc
    k_unfold
    clear kG
    dsimp only [kindV, paneV] at hdd
    refine letG ?_
    intro kG
    obtain ⟨v1, v2, v3, v4, v5, v6, v7, vk, vw, vh, vx, vy, vp, ve, hqa, hqd, hql⟩ := qc
    k_unfold
    clear kG
    refine halt (item_led (j := as'.length + 1) (v := .ref ca) N5 hpl (seqIndex_at (.inr ⟨by decide, by simp; (first | (law_clear; lia) | lia | omega)⟩) (by first | exact mem_mid _ _ _ | exact .head _ | exact .tail _ (.head _) | exact .tail _ (.tail _ (.head _)) | simp)) (by simp [T.adr]) (by decide) (by decide) ?_)
    (try dsimp only)
    k_steps
    rename News _ _ _ _ => N6
    refine halt (item_led (j := as'.length) (v := .ref qa) N6 hpl (seqIndex_at (.inr ⟨by decide, by simp; (first | (law_clear; lia) | lia | omega)⟩) (by first | exact mem_mid _ _ _ | exact .head _ | exact .tail _ (.head _) | exact .tail _ (.tail _ (.head _)) | simp)) (by simp [T.adr]) (by decide) (by decide) ?_)
    (try dsimp only)
    k_steps
    obtain ⟨r, hr⟩ : ∃ r, r = sameK qkk .row := ⟨_, rfl⟩
    refine halt (eq_kindB (k' := .row) (b := r) hr.symm ?_)
    (try dsimp only)
    k_steps
    rename Fr _ _ _ _ => F7
    rename News _ _ _ _ => N7
    have N8 := News.sub N7 (N' := N2) (fun q hq => .tail _ hq)
    clear N7
    have qn := qfn nd1
    refine letG ?_
    intro kG
    obtain ⟨qoff, qal, qdl, -, qnl⟩ := T.node_off qn
    k_unfold
    clear kG
    dsimp only [T.adr, T.dic, T.lst, T.par] at qoff qal qdl qnl
    have clm : ∀ z ∈ [ca, cd, cl], z ∈ T.fpL (dn ++ T.mk ca cd cl (K.pane p) cw ch cx cy [] :: rp) := T.clm (c := T.mk ca cd cl (K.pane p) cw ch cx cy [])
    have hcin : ca ∈ (dn ++ T.mk ca cd cl (K.pane p) cw ch cx cy [] :: rp).map T.adr := by simp [T.adr]
    have hcell := T.cells_at qin1.parts sub2
    refine Tell.use (layout_index w N2 ql _ ve hql ca hcin hcell) B2 F7 X2 N8 T2 rfl rfl (by (first | exact rm1 hd (Nat.le_of_ble_eq_true rfl) | exact rm2 hd (Nat.le_of_ble_eq_true rfl) | (dsimp only; (first | (law_clear; lia) | lia | omega)))) (by (first | exact ru1 hu (Nat.le_of_ble_eq_true rfl) | exact ru2 hu (Nat.le_of_ble_eq_true rfl) | (dsimp only; (first | (law_clear; lia) | lia | omega)))) ?_
    intro kQ kM
    intro NI i it hi hni subI hI tkI FI NI'
    clear F7 N8
    have hib := T.at_idx qnl hi
    subst hib
    have hqaI := subI _ hqa
    have hqdI := subI _ hqd
    have hqlX : (ql, listOf (((dn.map T.adr).map Value.ref) ++ Value.ref ca :: ((rp.map T.adr).map Value.ref)).toArray ve) ∈ NI := by
      have := subI _ hql
      simpa [refsA, T.adr] using this
    have hlen2 : 2 ≤ (dn ++ T.mk ca cd cl (K.pane p) cw ch cx cy [] :: rp).length := by
      have := qok (er1 ▸ ok)
      rw [T.er, P.Ok, qk] at this
      simpa [T.erL_length] using this.1.1
    have hlen3 : (dn ++ T.mk ca cd cl (K.pane p) cw ch cx cy [] :: rp).length ≤ 200 := by
      have h1 := T.lenL (dn ++ T.mk ca cd cl (K.pane p) cw ch cx cy [] :: rp)
      rw [T.sz] at qsz
      (first | (law_clear; lia) | lia | omega)
    rw [List.length_append, List.length_cons] at hlen2 hlen3
    k_steps
    rename Fr _ _ _ _ => F9
    rename News _ _ _ _ => N9
    refine popat_led F9 N9 hqlX (by first | exact mem_mid _ _ _ | exact .head _ | exact .tail _ (.head _) | exact .tail _ (.tail _ (.head _)) | simp) (by simp [sizeLine_eq]; (first | (law_clear; lia) | lia | omega)) (by (first | (law_clear; lia) | lia | omega)) ?_
    intro h10 n10 F10 N10
    clear F9 N9
    obtain ⟨NP, NP1, hqlP, keepP⟩ : ∃ NP, And3 (News _ _ h10 NP) ((ql, listOf (refsA ((dn ++ rp).map T.adr)) n10) ∈ NP) (∀ q ∈ N2, q.1 ≠ ql → q ∈ NP) := by
      refine ⟨_, N10, ?_, fun q hq hne => .tail _ (mem_wipe (subI _ hq) hne)⟩
      have : (((dn.map T.adr).map Value.ref) ++ ((rp.map T.adr).map Value.ref)).toArray = refsA ((dn ++ rp).map T.adr) := by simp [refsA]
      rw [← this]
      exact List.Mem.head _
    clear N10
    have hqaP := keepP _ hqa qal
    have hqdP := keepP _ hqd qdl
    have hddP := keepP _ hdd (qoff cd (clm _ (by first | exact mem_mid _ _ _ | exact .head _ | exact .tail _ (.head _) | exact .tail _ (.tail _ (.head _)) | simp))).2.2
    k_steps
    obtain ⟨xs, z, ys, hxz, hxl⟩ : Ex3 fun xs z ys => dn ++ rp = xs ++ z :: ys ∧ xs.length = dn.length - 1 := by
      have hj : dn.length - 1 < (dn ++ rp).length := by rw [List.length_append]; (first | (law_clear; lia) | lia | omega)
      refine ⟨(dn ++ rp).take (dn.length - 1), (dn ++ rp)[dn.length - 1], (dn ++ rp).drop (dn.length - 1 + 1), ?_, ?_⟩
      · rw [← List.drop_eq_getElem_cons hj, List.take_append_drop]
      · rw [List.length_take]; exact Nat.min_eq_left (Nat.le_of_lt hj)
    rw [hxz] at hqlP
    have hxlen : xs.length + 1 + ys.length = dn.length + rp.length := by
      have := congrArg List.length hxz
      simp at this
      (first | (law_clear; lia) | lia | omega)
    have hzm : z ∈ dn ++ T.mk ca cd cl (K.pane p) cw ch cx cy [] :: rp := by
      have : z ∈ dn ++ rp := by rw [hxz]; simp
      rcases List.mem_append.mp this with h | h
      · simp [h]
      · simp [h]
    have zoff : ∀ a ∈ z.fp, a ≠ qa ∧ a ≠ qd ∧ a ≠ ql := fun a ha => qoff a (T.fpL_mem hzm ha)
    have zin : z.In w NP := (T.InL_mem qin1.parts z hzm).to fun a ha o ho => keepP _ (sub2 _ ho) (zoff a ha).2.2
    have zn : z.fp.Nodup := T.fp_nodup hzm qnl
    have zok : z.er.Ok := by
      have := qok (er1 ▸ ok)
      rw [T.er, P.Ok] at this
      exact P.OkL_mem this.2 _ (T.er_mem hzm)
    have zsz : z.sz ≤ n := by
      have := T.szL_mem hzm
      rw [T.sz] at qsz
      (first | (law_clear; lia) | lia | omega)
    rename News _ _ _ NP => N11
    refine halt (item_led (j := xs.length) (v := .ref z.adr) N11 hqlP (seqIndex_at (.inl ⟨by split <;> (first | (law_clear; lia) | lia | omega), by split <;> (first | (law_clear; lia) | lia | omega)⟩) (by first | exact mem_mid _ _ _ | exact .head _ | exact .tail _ (.head _) | exact .tail _ (.tail _ (.head _)) | simp)) (by first | exact mem_mid _ _ _ | exact .head _ | exact .tail _ (.head _) | exact .tail _ (.tail _ (.head _)) | simp) (by split <;> (first | (law_clear; lia) | lia | omega)) (by split <;> (first | (law_clear; lia) | lia | omega)) ?_)
    (try dsimp only)
    k_steps
    rename Fr _ _ _ _ => F12
    rename News _ _ _ NP => N12
    have ccP := cc0.sub (N' := NP) (fun o h => keepP _ h (qoff ca (clm _ (by first | exact mem_mid _ _ _ | exact .head _ | exact .tail _ (.head _) | exact .tail _ (.tail _ (.head _)) | simp))).2.2) (fun o h => keepP _ h (qoff cd (clm _ (by first | exact mem_mid _ _ _ | exact .head _ | exact .tail _ (.head _) | exact .tail _ (.tail _ (.head _)) | simp))).2.2) (fun o h => keepP _ h (qoff cl (clm _ (by first | exact mem_mid _ _ _ | exact .head _ | exact .tail _ (.head _) | exact .tail _ (.tail _ (.head _)) | simp))).2.2)
    refine Tell.use (layout_side w NP ccP r) B2 F12 X2 N12 T2 rfl rfl (by (first | exact rm1 hd (Nat.le_of_ble_eq_true rfl) | exact rm2 hd (Nat.le_of_ble_eq_true rfl) | (dsimp only; (first | (law_clear; lia) | lia | omega)))) (by (first | exact ru1 hu (Nat.le_of_ble_eq_true rfl) | exact ru2 hu (Nat.le_of_ble_eq_true rfl) | (dsimp only; (first | (law_clear; lia) | lia | omega)))) ?_
    intro kQ kM
    rintro NQ st rfl h13 tk13 F13 N13
    clear F12 N12
    obtain ⟨sd, hsd⟩ : ∃ sd : Int, sd = if r then cw else ch := ⟨_, rfl⟩
    rw [← hsd]
    have hsd2 : 0 ≤ sd ∧ sd < 1000 := hsd ▸ side_in hab r
    obtain ⟨mm, hmm⟩ : ∃ mm : Nat, (mm : Int) = sd + 1 := ⟨(sd + 1).toNat, Int.toNat_of_nonneg (Int.le_add_one hsd2.1)⟩
    k_steps
    rename Fr _ _ _ _ => F14
    rename News _ _ _ NQ => N14
    rw [← hmm]
    refine Tell.use (layout_change w r n z NQ mm _ zsz zin zn zok (by (first | (law_clear; lia) | lia | omega))) B2 F14 X2 N14 T2 rfl rfl (by (first | exact rm1 hd (Nat.le_of_ble_eq_true rfl) | exact rm2 hd (Nat.le_of_ble_eq_true rfl) | (dsimp only; (first | (law_clear; lia) | lia | omega)))) (by (first | exact ru1 hu (Nat.le_of_ble_eq_true rfl) | exact ru2 hu (Nat.le_of_ble_eq_true rfl) | (dsimp only; (first | (law_clear; lia) | lia | omega)))) ?_
    intro kQ kM
    intro NR z' zin' zfp zer keepR h15 tk15 F15 N15
    clear F14 N14
    have zadr : z'.adr = z.adr := by rw [← T.fp_adr z', zfp, T.fp_adr]
    have hxin : T.InL w NQ (xs ++ z :: ys) := by
      rw [← hxz]
      refine T.InL_of fun x hx => ?_
      have hx2 : x ∈ dn ++ T.mk ca cd cl (K.pane p) cw ch cx cy [] :: rp := by
        rcases List.mem_append.mp hx with h | h <;> simp [h]
      exact (T.InL_mem qin1.parts x hx2).to fun a ha o ho => keepP _ (sub2 _ ho) (qoff a (T.fpL_mem hx2 ha)).2.2
    have nxz : (T.fpL (xs ++ z :: ys)).Nodup := by
      rw [← hxz]
      exact T.count_nodup (fun z => by rw [T.count_drop]; (first | (law_clear; lia) | lia | omega)) qnl
    have hxin' : T.InL w NR (xs ++ z' :: ys) := T.InL_replace hxin nxz zin' keepR
    have hxadr : (xs ++ z :: ys).map T.adr = (xs ++ z' :: ys).map T.adr := by simp [zadr]
    have hxfp : T.fpL (xs ++ z' :: ys) = T.fpL (dn ++ rp) := by rw [hxz, T.fpL_append, T.fpL_append, T.fpL, T.fpL, zfp]
    have hbump : P.bump qkk cw ch (T.erL dn) (T.erL rp) = T.erL (xs ++ z' :: ys) := by
      rw [P.bump, ← hr, ← T.erL_append, hxz, T.erL_append, T.erL, P.modAt_at _ _ _ _ _ (by rw [T.erL_length, T.erL_length, hxl]), T.erL_append, T.erL, zer, ← hsd]
      rw [← hmm, Int.toNat_natCast]
    have stay : ∀ q ∈ N1, q.1 ∉ (T.mk qa qd ql qkk qw qh qx qy (dn ++ T.mk ca cd cl (K.pane p) cw ch cx cy [] :: rp)).fp → q ∈ NR := fun q hq hn =>
      keepR _ (keepP _ (sub2 _ hq) fun e => hn (by first | exact e ▸ T.lst_in | exact e ▸ T.dic_in | exact e ▸ T.adr_in | (rw [e, T.fp]; simp))) fun h => hn (by first | exact T.par_in (T.fpL_mem hzm h) | (rw [T.fp]; simp [T.fpL_mem hzm h]))
    have qeq : (T.mk qa qd ql qkk qw qh qx qy (dn ++ T.mk ca cd cl (K.pane p) cw ch cx cy [] :: rp)).er = P.mk qkk qw qh (T.erL dn ++ P.leaf p cw ch :: T.erL rp) := by
      simp only [T.er, T.erL_append, T.erL]
    have fin : ∀ (t2 : T) (NF : Led), (∀ a ∈ t2.fp, New N a) → t2.fp.Nodup → (∀ q ∈ N, q ∈ NF) → P.Shut p t1.er t2.er → ∀ (t3 : T) (NG : Led), t3.In w NG → t3.fp = t2.fp → t3.er = t2.er → t3.At 0 0 → (∀ q ∈ NF, q.1 ∉ t2.fp → q ∈ NG) → ClosePost w N t p (.ref t2.adr) NG := by
      intro t2 NF new2 nd2 sub2 sp t3 NG in3 fp3 er3 at3 keep3
      have sub3 : ∀ q ∈ N, q ∈ NG := fun q hq => keep3 _ (sub2 _ hq) fun h => new2 _ h _ hq rfl
      exact ⟨sub3, .inr ⟨t3, by rw [← T.fp_adr t3, fp3, T.fp_adr], ⟨in3, by rw [fp3]; exact new2, by rw [fp3]; exact nd2, sub3⟩, at3, by rw [er3, ← er1]; exact sp⟩⟩
    have hqaR := keepR _ hqaP (fun h => (zoff _ h).1 rfl)
    have hqdR := keepR _ hqdP (fun h => (zoff _ h).2.1 rfl)
    have hqlR := keepR _ hqlP (fun h => (zoff _ h).2.2 rfl)
    k_steps
    rename News _ _ _ NR => N16
    refine halt (len_led N16 hqlR (by simp; (first | (law_clear; lia) | lia | omega)) ?_)
    (try dsimp only)
    k_steps
    · rename 1 < _ => hlenx
      have hplR : (pa, listOf (refsA (List.map T.adr (as' ++ [T.mk qa qd ql qkk qw qh qx qy (dn ++ T.mk ca cd cl (K.pane p) cw ch cx cy [] :: rp)] ++ [T.mk ca cd cl (K.pane p) cw ch cx cy []]))) pe) ∈ NR := by
        refine keepR _ (keepP _ hpl ?_) fun h => ?_
        · exact fun e => T.new_off qin1 pnew (by rw [show pa = ql from e, T.fp]; simp)
        · exact T.new_off qin1 pnew (by first | exact T.par_in (T.fpL_mem hzm h) | (rw [T.fp]; simp [T.fpL_mem hzm h]))
      have hta := T.path_head hp
      refine halt (item_led (j := 0) (v := .ref t1.adr) N16 hplR (seqIndex_at (.inl ⟨by decide, by decide⟩) (by first | exact mem_mid _ _ _ | exact .head _ | exact .tail _ (.head _) | exact .tail _ (.tail _ (.head _)) | simp)) (by obtain ⟨l', e⟩ := hta; rw [e]; rfl) (by decide) (by decide) ?_)
      (try dsimp only)
      refine letG ?_
      intro kG
      obtain ⟨t2, re, hat⟩ := qre (T.mk qa qd ql qkk qw qh qx qy (xs ++ z' :: ys))
      k_unfold
      clear kG
      have hadr : t2.adr = t1.adr := re.adr rfl
      obtain ⟨NF, rfl⟩ : ∃ NF, NF = NR := ⟨_, rfl⟩
      have hqf : ∀ z, (T.mk qa qd ql qkk qw qh qx qy (xs ++ z' :: ys)).fp.count z ≤ (T.mk qa qd ql qkk qw qh qx qy (dn ++ T.mk ca cd cl (K.pane p) cw ch cx cy [] :: rp)).fp.count z := fun z => by
        rw [T.fp, T.fp, hxfp]
        have := T.count_drop dn rp (T.mk ca cd cl (K.pane p) cw ch cx cy []) z
        simp only [List.count_cons]
        (first | (law_clear; lia) | lia | omega)
      have in2 : t2.In w NF := by
        refine re.in rfl nd1 in1 ?_ stay
        rw [T.In]
        refine ⟨CellIn.mk hqaR hqdR (e := n10) ?_, hxin'⟩
        rw [← hxadr]
        exact hqlR
      obtain ⟨new2, nd2⟩ := T.re_made2 (fr := []) re (fun a ha => .inr (T.count_mem hqf ha)) (T.count_nodup hqf qn) (fun _ h => nomatch h) in1 new1 nd1 sub1
      have subF : ∀ q ∈ N, q ∈ NF := fun q hq => stay _ (sub1 _ hq) fun h => new1 _ (qfp _ h) _ hq rfl
      have sp : P.Shut p t1.er t2.er := by
        rw [qeq, T.er, ← hbump] at hat
        refine .many qk ?_ hat
        rw [← T.erL_append, T.erL_length, hxz]
        simp at hlenx ⊢
        (first | (law_clear; lia) | lia | omega)
      have hsz : t2.sz ≤ n := by
        have h1 := P.AtP_sz hat
        have h2 : (T.fpL (xs ++ z' :: ys)).length ≤ (T.fpL (dn ++ T.mk ca cd cl (K.pane p) cw ch cx cy [] :: rp)).length := by
          rw [hxfp, T.fpL_append, T.fpL_append, T.fpL]
          simp
        rw [T.szL_fp, T.szL_fp] at h2
        rw [T.sz_er, T.sz_er, T.sz_er, T.sz_er, T.sz, T.sz] at h1
        (first | (law_clear; lia) | lia | omega)
      have tl := fun tx ty => layout_placed w n t2 NF 0 0 tx ty hsz in2 nd2
      simp only [hadr] at tl
      k_steps
      rename Fr _ _ _ _ => F22
      rename News _ _ _ _ => N22
      refine Tell.use (tl _ _) B2 F22 X2 N22 T2 rfl rfl (by (first | exact rm1 hd (Nat.le_of_ble_eq_true rfl) | exact rm2 hd (Nat.le_of_ble_eq_true rfl) | (dsimp only; (first | (law_clear; lia) | lia | omega)))) (by (first | exact ru1 hu (Nat.le_of_ble_eq_true rfl) | exact ru2 hu (Nat.le_of_ble_eq_true rfl) | (dsimp only; (first | (law_clear; lia) | lia | omega)))) ?_
      intro kQ kM
      intro NG t3 in3 fp3 er3 at3 keep3 hG tkG FG NG'
      clear F22 N22
      k_steps
      refine ret _ _ ?_ _ _ (by k_asm) (by k_asm)
      exact fin t2 NF new2 nd2 subF sp t3 NG in3 fp3 er3 at3 keep3
    · rename ¬ 1 < _ => hlenx
      obtain ⟨rfl, rfl⟩ : xs = [] ∧ ys = [] := by
        simp at hlenx
        exact ⟨List.eq_nil_of_length_eq_zero (by (first | (law_clear; lia) | lia | omega)), List.eq_nil_of_length_eq_zero (by (first | (law_clear; lia) | lia | omega))⟩
      have hplR : (pa, listOf (refsA (List.map T.adr (as' ++ [T.mk qa qd ql qkk qw qh qx qy (dn ++ T.mk ca cd cl (K.pane p) cw ch cx cy [] :: rp)] ++ [T.mk ca cd cl (K.pane p) cw ch cx cy []]))) pe) ∈ NR := by
        refine keepR _ (keepP _ hpl ?_) fun h => ?_
        · exact fun e => T.new_off qin1 pnew (by rw [show pa = ql from e, T.fp]; simp)
        · exact T.new_off qin1 pnew (by first | exact T.par_in (T.fpL_mem hzm h) | (rw [T.fp]; simp [T.fpL_mem hzm h]))
      have hpls : (pa, listOf (((as'.map T.adr ++ [qa]).map Value.ref) ++ [Value.ref ca]).toArray pe) ∈ NR := by
        simpa [refsA, T.adr] using hplR
      rename Fr _ _ _ _ => F16
      refine halt (kmk_slice_lit F16 N16 ⟨_, (N16 _ hpls).1, rfl, _, rfl⟩ .none (.int _ _) (upto_last _ _) ?_ (by with_unfolding_all rfl) (by kmk_pure) (by have := lim.1; simp at this; simp [sizeLine_eq]; (first | (law_clear; lia) | lia | omega)))
      intro D h17 F17 N17 l17
      have l18 : ∀ p ∈ NR, p.1 < D := l17
      clear l17
      k_steps
      rename News _ _ _ _ => N18
      refine halt (item_led (j := 0) (v := .ref z.adr) N18 (.tail _ hqlR) (seqIndex_at (.inl ⟨by decide, by decide⟩) (by first | exact mem_mid _ _ _ | exact .head _ | exact .tail _ (.head _) | exact .tail _ (.tail _ (.head _)) | simp)) (by first | exact mem_mid _ _ _ | exact .head _ | exact .tail _ (.head _) | exact .tail _ (.tail _ (.head _)) | simp) (by decide) (by decide) ?_)
      (try dsimp only)
      k_steps
      obtain ⟨ND, hND⟩ : ∃ ND, ND = (D, listOf (((as'.map T.adr ++ [qa]).map Value.ref)).toArray 0) :: NR := ⟨_, rfl⟩
      rename Fr _ _ _ _ => F19
      rename News _ _ _ _ => N19
      have N20 : News _ _ _ ND := hND ▸ N19
      clear N19
      have hD : (D, listOf (refsA (as'.map T.adr ++ [qa])) 0) ∈ ND := by rw [hND]; exact List.Mem.head _
      have subD : ∀ q ∈ NR, q ∈ ND := fun q hq => by rw [hND]; exact .tail _ hq
      obtain rfl | ⟨as2, g, rfl⟩ : as' = [] ∨ ∃ as2 g, as' = as2 ++ [g] := by
        rcases List.eq_nil_or_concat as' with h | ⟨a, b, h⟩
        · exact .inl h
        · exact .inr ⟨a, b, by rw [h]; simp⟩
      · obtain rfl : T.mk qa qd ql qkk qw qh qx qy (dn ++ T.mk ca cd cl (K.pane p) cw ch cx cy [] :: rp) = t1 := by
          obtain ⟨l', e⟩ := T.path_head hp2
          simpa using (List.cons.inj e).1
        refine Tell.use (layout_exchanged1 w ND D qa z.adr 0 hD) B2 F19 X2 N20 T2 rfl rfl (by (first | exact rm1 hd (Nat.le_of_ble_eq_true rfl) | exact rm2 hd (Nat.le_of_ble_eq_true rfl) | (dsimp only; (first | (law_clear; lia) | lia | omega)))) (by (first | exact ru1 hu (Nat.le_of_ble_eq_true rfl) | exact ru2 hu (Nat.le_of_ble_eq_true rfl) | (dsimp only; (first | (law_clear; lia) | lia | omega)))) ?_
        intro kQ kM
        intro NF keepF h21 tk21 F21 N21
        clear F19 N20
        k_steps
        rename News _ _ _ _ => N23
        refine halt (len_led N23 (keepF _ (subD _ hplR)) (by first | exact mem_mid _ _ _ | exact .head _ | exact .tail _ (.head _) | exact .tail _ (.tail _ (.head _)) | simp) ?_)
        (try dsimp only)
        k_steps
        · exfalso
          rename 2 < _ => hbad
          simp at hbad
        · obtain ⟨t2, ht2⟩ : ∃ t2, t2 = z' := ⟨_, rfl⟩
          have hadr : t2.adr = z.adr := by rw [ht2, zadr]
          have in2 : t2.In w NF := by rw [ht2]; exact zin'.all fun q hq => keepF _ (subD _ hq)
          have nd2 : t2.fp.Nodup := by rw [ht2, zfp]; exact zn
          have new2 : ∀ a ∈ t2.fp, New N a := fun a ha => new1 a (by rw [ht2, zfp] at ha; rw [T.fp]; simp [T.fpL_mem hzm ha])
          have subF : ∀ q ∈ N, q ∈ NF := fun q hq => keepF _ (subD _ (stay _ (sub1 _ hq) fun h => new1 _ h _ hq rfl))
          have sp : P.Shut p (T.mk qa qd ql qkk qw qh qx qy (dn ++ T.mk ca cd cl (K.pane p) cw ch cx cy [] :: rp)).er t2.er := by
            rw [qeq, ht2]
            refine .root qk ?_
            rw [hbump, List.nil_append, T.erL, T.erL]
          have hsz : t2.sz ≤ n := by
            have h1 : t2.fp.length = z.fp.length := by rw [ht2, zfp]
            rw [T.sz_fp, T.sz_fp] at h1
            (first | (law_clear; lia) | lia | omega)
          have tl := fun tx ty => layout_placed w n t2 NF 0 0 tx ty hsz in2 nd2
          simp only [hadr] at tl
          k_steps
          rename Fr _ _ _ _ => F22
          rename News _ _ _ _ => N22
          refine Tell.use (tl _ _) B2 F22 X2 N22 T2 rfl rfl (by (first | exact rm1 hd (Nat.le_of_ble_eq_true rfl) | exact rm2 hd (Nat.le_of_ble_eq_true rfl) | (dsimp only; (first | (law_clear; lia) | lia | omega)))) (by (first | exact ru1 hu (Nat.le_of_ble_eq_true rfl) | exact ru2 hu (Nat.le_of_ble_eq_true rfl) | (dsimp only; (first | (law_clear; lia) | lia | omega)))) ?_
          intro kQ kM
          intro NG t3 in3 fp3 er3 at3 keep3 hG tkG FG NG'
          clear F22 N22
          k_steps
          refine ret _ _ ?_ _ _ (by k_asm) (by k_asm)
          exact fin t2 NF new2 nd2 subF sp t3 NG in3 fp3 er3 at3 keep3
      · have hp3 : t1.path p = some (as2 ++ g :: [T.mk qa qd ql qkk qw qh qx qy (dn ++ T.mk ca cd cl (K.pane p) cw ch cx cy [] :: rp), T.mk ca cd cl (K.pane p) cw ch cx cy []]) := by rw [hp2]; simp
        refine letG ?_
        intro kG
        obtain ⟨gpath, gfp, gsz, gok, gnd, gpan, gin, gfn, gre⟩ := T.path_re n t1 as2 g _ sz1 hp3 (er1 ▸ nd)
        k_unfold
        clear kG
        refine letG ?_
        intro kG
        obtain ⟨gk0, gd, gr, gpar, gdoff, groff⟩ := T.path_three gpath gnd
        k_unfold
        clear kG
        obtain ⟨ga, gdd, gl, gk, gw, gh, gx, gy, rfl⟩ : Ex8 fun ga gdd gl gk gw gh gx gy => g = T.mk ga gdd gl gk gw gh gx gy (gd ++ T.mk qa qd ql qkk qw qh qx qy (dn ++ T.mk ca cd cl (K.pane p) cw ch cx cy [] :: rp) :: gr) := by
          cases g
          exact ⟨_, _, _, _, _, _, _, _, by rw [← gpar]; rfl⟩
        clear gpar
        simp only [T.kin] at gk0
        have gn := gfn nd1
        refine letG ?_
        intro kG
        obtain ⟨goff, gal1, gal2, gal3, gnl⟩ := T.node_off gn
        k_unfold
        clear kG
        dsimp only [T.adr, T.dic, T.lst, T.par] at goff gal1 gal2 gal3 gnl
        have qing : ∀ a ∈ (T.mk qa qd ql qkk qw qh qx qy (dn ++ T.mk ca cd cl (K.pane p) cw ch cx cy [] :: rp)).fp, a ∈ T.fpL (gd ++ T.mk qa qd ql qkk qw qh qx qy (dn ++ T.mk ca cd cl (K.pane p) cw ch cx cy [] :: rp) :: gr) := fun a ha => T.fpL_mem (by first | exact mem_mid _ _ _ | exact .head _ | exact .tail _ (.head _) | exact .tail _ (.tail _ (.head _)) | simp) ha
        have gal : ga ≠ gl ∧ ga ≠ gdd ∧ gdd ≠ gl := ⟨gal1, gal3, gal2⟩
        have gin1 := gin w N1 in1
        have paoff : ∀ a ∈ t1.fp, pa ≠ a := fun a ha e => T.new_off in1 pnew (e ▸ ha)
        have hh1 : (as2.map T.adr ++ [ga]).headD 0 = t1.adr := T.headD_of hp3
        have stayD : ∀ q ∈ N1, q.1 ∉ (T.mk qa qd ql qkk qw qh qx qy (dn ++ T.mk ca cd cl (K.pane p) cw ch cx cy [] :: rp)).fp → q ∈ ND := fun q hq hn => subD _ (stay _ hq hn)
        have gcD := gin1.cell.sub (N' := ND) (fun o h => stayD _ h fun hq => (goff _ (qing _ hq)).1 rfl) (fun o h => stayD _ h fun hq => (goff _ (qing _ hq)).2.1 rfl) (fun o h => stayD _ h fun hq => (goff _ (qing _ hq)).2.2 rfl)
        dsimp only [T.adr, T.dic, T.lst, T.kin, T.wid, T.hei, T.xx, T.yy, T.par] at gcD
        have hDl : D ≠ gl := by
          obtain ⟨o, ho⟩ := gin1.has gl (by first | exact T.adr_in | exact T.dic_in | exact T.lst_in | (rw [T.fp]; simp))
          exact (Nat.ne_of_lt (l18 _ (stay _ ho fun hq => (goff _ (qing _ hq)).2.2 rfl))).symm
        have hD2 : (D, listOf (refsA (as2.map T.adr ++ [ga, qa])) 0) ∈ ND := by simpa [T.adr] using hD
        have gcell : ∀ a ∈ (gd ++ T.mk qa qd ql qkk qw qh qx qy (dn ++ T.mk ca cd cl (K.pane p) cw ch cx cy [] :: rp) :: gr).map T.adr, ∃ d, (a, instObj 31 d) ∈ ND := by
          intro a ha
          refine letG ?_
          intro kG
          obtain ⟨z, hz, rfl⟩ := List.mem_map.mp ha
          k_unfold
          clear kG
          by_cases hzq : z.adr ∈ (T.mk qa qd ql qkk qw qh qx qy (dn ++ T.mk ca cd cl (K.pane p) cw ch cx cy [] :: rp)).fp
          · rcases List.mem_append.mp hz with hz' | hz'
            · exfalso
              have n1 := gnl
              rw [T.fpL_append, T.fpL] at n1
              exact (List.nodup_append.mp n1).2.2 z.adr (T.fpL_mem hz' (T.adr_mem z)) z.adr (List.mem_append_left _ hzq) rfl
            · rcases List.mem_cons.mp hz' with rfl | hz'
              · exact ⟨_, subD _ hqaR⟩
              · exfalso
                have n1 := gnl
                rw [T.fpL_append, T.fpL] at n1
                exact (List.nodup_append.mp (List.nodup_append.mp n1).2.1).2.2 z.adr hzq z.adr (T.fpL_mem hz' (T.adr_mem z)) rfl
          · have hzi := T.InL_mem gin1.parts z hz
            refine letG ?_
            intro kG
            obtain ⟨_, _, _, _, _, _, _, _, _, _, _, _, _, _, hza, _⟩ := hzi.cell
            k_unfold
            clear kG
            exact ⟨_, stayD _ hza hzq⟩
        have glen : ((gd ++ T.mk qa qd ql qkk qw qh qx qy (dn ++ T.mk ca cd cl (K.pane p) cw ch cx cy [] :: rp) :: gr).map T.adr).length < 1000 := by
          have h1 := T.lenL (gd ++ T.mk qa qd ql qkk qw qh qx qy (dn ++ T.mk ca cd cl (K.pane p) cw ch cx cy [] :: rp) :: gr)
          rw [T.sz] at gsz
          rw [List.length_map]
          (first | (law_clear; lia) | lia | omega)
        refine Tell.use (layout_exchanged2 w ND D qa z.adr ga 0 (as2.map T.adr) hD2 (by have := lim.1; simp at this; simp; (first | (law_clear; lia) | lia | omega)) gcD (by simp [T.adr]) (T.adr_nodup gnl) gcell glen hDl) B2 F19 X2 N20 T2 rfl rfl (by (first | exact rm1 hd (Nat.le_of_ble_eq_true rfl) | exact rm2 hd (Nat.le_of_ble_eq_true rfl) | (dsimp only; (first | (law_clear; lia) | lia | omega)))) (by (first | exact ru1 hu (Nat.le_of_ble_eq_true rfl) | exact ru2 hu (Nat.le_of_ble_eq_true rfl) | (dsimp only; (first | (law_clear; lia) | lia | omega)))) ?_
        intro kQ kM
        intro NE i hi2 gc9 keep9 h21 tk21 F21 N21
        clear F19 N20
        have hib := T.at_idx gnl hi2
        subst hib
        have hset : ((gd ++ T.mk qa qd ql qkk qw qh qx qy (dn ++ T.mk ca cd cl (K.pane p) cw ch cx cy [] :: rp) :: gr).map T.adr).set gd.length z.adr = (gd ++ z' :: gr).map T.adr := by simp [zadr]
        rw [hset] at gc9
        rw [hh1]
        have hpE := keep9 _ (subD _ hplR) (paoff gl (gfp _ (by first | exact T.adr_in | exact T.dic_in | exact T.lst_in | (rw [T.fp]; simp))))
        refine letG ?_
        intro kG
        obtain ⟨g1, g2, g3, g4, g5, g6, g7, gkt, gwt, ght, gxt, gyt, gpt, ge, hga, hgd, hgl⟩ := gc9
        k_unfold
        clear kG
        k_steps
        rename News _ _ _ _ => N23
        refine halt (len_led N23 hpE (by have := lim.1; simp at this; simp; (first | (law_clear; lia) | lia | omega)) ?_)
        (try dsimp only)
        k_steps
        · refine halt (item_led (j := as2.length) (v := .ref ga) N23 hpE (seqIndex_at (.inr ⟨by decide, by simp; (first | (law_clear; lia) | lia | omega)⟩) (by first | exact mem_mid _ _ _ | exact .head _ | exact .tail _ (.head _) | exact .tail _ (.tail _ (.head _)) | simp)) (by simp [T.adr]) (by decide) (by decide) ?_)
          (try dsimp only)
          k_steps
          rename News _ _ _ _ => N24
          refine halt (item_led (j := as2.length) (v := .ref ga) N24 hpE (seqIndex_at (.inr ⟨by decide, by simp; (first | (law_clear; lia) | lia | omega)⟩) (by first | exact mem_mid _ _ _ | exact .head _ | exact .tail _ (.head _) | exact .tail _ (.tail _ (.head _)) | simp)) (by simp [T.adr]) (by decide) (by decide) ?_)
          (try dsimp only)
          k_steps
          have zing : ∀ a ∈ z.fp, a ∈ (T.mk qa qd ql qkk qw qh qx qy (dn ++ T.mk ca cd cl (K.pane p) cw ch cx cy [] :: rp)).fp := fun a ha => by rw [T.fp]; simp [T.fpL_mem hzm ha]
          have hpsE : T.InL w NE (gd ++ z' :: gr) := by
            have h1 : T.InL w N1 (gd ++ T.mk qa qd ql qkk qw qh qx qy (dn ++ T.mk ca cd cl (K.pane p) cw ch cx cy [] :: rp) :: gr) := gin1.parts
            have n1 := gnl
            rw [T.fpL_append, T.fpL] at n1
            have n2 := List.nodup_append.mp n1
            have n3 := List.nodup_append.mp n2.2.1
            have hs := T.InL_split h1
            have hs2 := hs.2
            rw [T.InL] at hs2
            refine T.InL_append (hs.1.to fun a ha o ho => keep9 _ (stayD _ ho fun hq => n2.2.2 a ha a (List.mem_append_left _ hq) rfl) (goff a (by rw [T.fpL_append]; exact List.mem_append_left _ ha)).2.2) ?_
            rw [T.InL]
            exact ⟨zin'.to fun a ha o ho => keep9 _ (subD _ ho) (goff a (qing _ (zing _ (zfp ▸ ha)))).2.2, hs2.2.to fun a ha o ho => keep9 _ (stayD _ ho fun hq => n3.2.2 a hq a ha rfl) (goff a (by rw [T.fpL_append, T.fpL]; simp [ha])).2.2⟩
          have zszq : z.sz ≤ T.szL (dn ++ T.mk ca cd cl (K.pane p) cw ch cx cy [] :: rp) := T.szL_mem hzm
          have zsz' : z'.sz = z.sz := by
            have h1 : z'.fp.length = z.fp.length := by rw [zfp]
            rw [T.sz_fp, T.sz_fp] at h1
            (first | (law_clear; lia) | lia | omega)
          have pszE : T.szL (gd ++ z' :: gr) + 1 ≤ (T.mk ga gdd gl gk gw gh gx gy (gd ++ T.mk qa qd ql qkk qw qh qx qy (dn ++ T.mk ca cd cl (K.pane p) cw ch cx cy [] :: rp) :: gr)).sz := by
            rw [T.sz, T.szL_append, T.szL, T.szL_append, T.szL, T.sz]
            (first | (law_clear; lia) | lia | omega)
          rename Fr _ _ _ _ => F25
          rename News _ _ _ _ => N25
          refine Tell.use (layout_melted w n (gd ++ z' :: gr) gk gkt gl ge NE (by (first | (law_clear; lia) | lia | omega)) hgl hpsE) B2 F25 X2 N25 T2 rfl rfl (by (first | exact rm1 hd (Nat.le_of_ble_eq_true rfl) | exact rm2 hd (Nat.le_of_ble_eq_true rfl) | (dsimp only; (first | (law_clear; lia) | lia | omega)))) (by (first | exact ru1 hu (Nat.le_of_ble_eq_true rfl) | exact ru2 hu (Nat.le_of_ble_eq_true rfl) | (dsimp only; (first | (law_clear; lia) | lia | omega)))) ?_
          intro kQ kM
          intro NM ml me hml mlt subM h26 tk26 F26 N26
          clear F25 N25
          have hpM := subM _ hpE
          have hgaM := subM _ hga
          have hgdM := subM _ hgd
          k_steps
          rename News _ _ _ _ => N27
          refine halt (item_led (j := as2.length) (v := .ref ga) N27 hpM (seqIndex_at (.inr ⟨by decide, by simp; (first | (law_clear; lia) | lia | omega)⟩) (by first | exact mem_mid _ _ _ | exact .head _ | exact .tail _ (.head _) | exact .tail _ (.tail _ (.head _)) | simp)) (by simp [T.adr]) (by decide) (by decide) ?_)
          (try dsimp only)
          have hgaW := mem_wipe hgaM gal.2.1
          have wn := wipe_ne (d := gdd) (N := NM)
          have N28 := News.focus N27 hgdM
          clear N27
          k_steps
          rename Fr _ _ _ _ => F22
          rename News _ _ _ _ => N22
          have hall : ∀ q ∈ N1, q.1 < ml := by
            intro q hq
            by_cases hg : q.1 = gl
            · rw [hg]; exact mlt _ hgl
            by_cases hl' : q.1 = ql
            · exact hl' ▸ mlt _ (keep9 _ (subD _ hqlR) (hl' ▸ hg))
            by_cases hz : q.1 ∈ z.fp
            · obtain ⟨o, ho⟩ := zin'.has q.1 (zfp ▸ hz)
              exact mlt (q.1, o) (keep9 (q.1, o) (subD (q.1, o) ho) hg)
            · exact mlt _ (keep9 _ (subD _ (keepR _ (keepP _ (sub2 _ hq) hl') hz)) hg)
          have mlNew : ∀ a ∈ [ml], New N1 a := by
            intro a ha q hq
            rw [List.mem_singleton] at ha
            rw [ha]
            exact Nat.ne_of_lt (hall q hq)
          have mlg : ml ∉ t1.fp := T.new_off in1 (mlNew ml (by first | exact mem_mid _ _ _ | exact .head _ | exact .tail _ (.head _) | exact .tail _ (.tail _ (.head _)) | simp))
          have mlgd : ml ≠ gdd := fun e => mlg (e ▸ gfp _ (by first | exact T.adr_in | exact T.dic_in | exact T.lst_in | (rw [T.fp]; simp)))
          obtain ⟨NF, N29, hgF, subW⟩ : ∃ NF, And3 (News _ _ _ NF) (CellIn w NF ga gdd ml gk gw gh gx gy ((T.melt gk (gd ++ z' :: gr)).map T.adr)) (∀ q ∈ NM, q.1 ≠ gdd → q ∈ NF) :=
            ⟨_, N22, CellIn.mk (.tail _ hgaW) (.head _) (.tail _ (mem_wipe hml mlgd)), fun q hq hne => .tail _ (mem_wipe hq hne)⟩
          clear N22
          have zcount : ∀ a, z'.fp.count a ≤ (T.mk qa qd ql qkk qw qh qx qy (dn ++ T.mk ca cd cl (K.pane p) cw ch cx cy [] :: rp)).fp.count a := fun a => by
            have h1 := T.count_drop dn rp (T.mk ca cd cl (K.pane p) cw ch cx cy []) a
            rw [hxz, List.nil_append, T.fpL, T.fpL, List.append_nil] at h1
            rw [zfp, T.fp]
            simp only [List.count_cons]
            (first | (law_clear; lia) | lia | omega)
          have lcount : ∀ a, (T.fpL (gd ++ z' :: gr)).count a ≤ (T.fpL (gd ++ T.mk qa qd ql qkk qw qh qx qy (dn ++ T.mk ca cd cl (K.pane p) cw ch cx cy [] :: rp) :: gr)).count a := fun a => by
            have h1 := zcount a
            rw [T.fpL_append, T.fpL_append, T.fpL, T.fpL]
            simp only [List.count_append]
            (first | (law_clear; lia) | lia | omega)
          have mcount : ∀ a, (T.fpL (T.melt gk (gd ++ z' :: gr))).count a ≤ (T.fpL (gd ++ T.mk qa qd ql qkk qw qh qx qy (dn ++ T.mk ca cd cl (K.pane p) cw ch cx cy [] :: rp) :: gr)).count a := fun a => Nat.le_trans (T.melt_count gk a _) (lcount a)
          refine letG ?_
          intro kG
          obtain ⟨t2, re, hat⟩ := gre (T.mk ga gdd ml gk gw gh gx gy (T.melt gk (gd ++ z' :: gr)))
          k_unfold
          clear kG
          have hadr : t2.adr = t1.adr := re.adr rfl
          have in2 : t2.In w NF := by
            refine re.in rfl nd1 in1 ?_ fun q hq hn => subW _ (subM _ (keep9 _ (stayD _ hq fun h => hn (by first | exact T.par_in (qing _ h) | (rw [T.fp]; simp [qing _ h]))) fun e => hn (by first | exact e ▸ T.lst_in | exact e ▸ T.dic_in | exact e ▸ T.adr_in | (rw [e, T.fp]; simp)))) fun e => hn (by first | exact e ▸ T.lst_in | exact e ▸ T.dic_in | exact e ▸ T.adr_in | (rw [e, T.fp]; simp))
            rw [T.In]
            refine ⟨hgF, (T.melt_in gk hpsE).to fun a ha o ho => subW _ (subM _ ho) (goff a (T.count_mem mcount ha)).2.1⟩
          have gcount : ∀ a, (T.mk ga gdd ml gk gw gh gx gy (T.melt gk (gd ++ z' :: gr))).fp.count a ≤ ([ml] ++ (T.mk ga gdd gl gk gw gh gx gy (gd ++ T.mk qa qd ql qkk qw qh qx qy (dn ++ T.mk ca cd cl (K.pane p) cw ch cx cy [] :: rp) :: gr)).fp).count a := fun a => by
            have h1 := mcount a
            rw [T.fp, T.fp]
            simp only [List.count_append, List.count_cons, List.count_nil]
            (first | (law_clear; lia) | lia | omega)
          have gnb : ([ml] ++ (T.mk ga gdd gl gk gw gh gx gy (gd ++ T.mk qa qd ql qkk qw qh qx qy (dn ++ T.mk ca cd cl (K.pane p) cw ch cx cy [] :: rp) :: gr)).fp).Nodup := List.nodup_append.mpr ⟨by simp, gn, fun x hx y hy e => by
            rw [List.mem_singleton] at hx
            exact mlg (by rw [← hx, e]; exact gfp y hy)⟩
          obtain ⟨new2, nd2⟩ := T.re_made2 (fr := [ml]) re (fun a ha => List.mem_append.mp (T.count_mem gcount ha)) (T.count_nodup gcount gnb) mlNew in1 new1 nd1 sub1
          have subF : ∀ q ∈ N, q ∈ NF := fun q hq => by
            have hoff : ∀ a ∈ t1.fp, q.1 ≠ a := fun a ha e => new1 a ha _ hq e
            exact subW _ (subM _ (keep9 _ (stayD _ (sub1 _ hq) fun h => hoff _ (qfp _ h) rfl) (hoff _ (gfp _ (by first | exact T.adr_in | exact T.dic_in | exact T.lst_in | (rw [T.fp]; simp)))))) (hoff _ (gfp _ (by first | exact T.adr_in | exact T.dic_in | exact T.lst_in | (rw [T.fp]; simp))))
          have geq : (T.mk ga gdd gl gk gw gh gx gy (gd ++ T.mk qa qd ql qkk qw qh qx qy (dn ++ T.mk ca cd cl (K.pane p) cw ch cx cy [] :: rp) :: gr)).er = P.mk gk gw gh (T.erL gd ++ P.mk qkk qw qh (T.erL dn ++ P.leaf p cw ch :: T.erL rp) :: T.erL gr) := by
            rw [T.er, T.erL_append, T.erL, qeq]
          have geq2 : (T.mk ga gdd ml gk gw gh gx gy (T.melt gk (gd ++ z' :: gr))).er = P.mk gk gw gh (P.melt gk (T.erL gd ++ z'.er :: T.erL gr)) := by
            rw [T.er, T.melt_er, T.erL_append, T.erL]
          have hsz : t2.sz ≤ n := by
            have h1 := P.AtP_sz hat
            rw [T.sz_er, T.sz_er, T.sz_er, T.sz_er] at h1
            have h3 : (T.mk ga gdd ml gk gw gh gx gy (T.melt gk (gd ++ z' :: gr))).sz = T.szL (T.melt gk (gd ++ z' :: gr)) + 1 := by rw [T.sz]
            have h2 := T.melt_sz gk (gd ++ z' :: gr)
            (first | (law_clear; lia) | lia | omega)
          have sp : P.Shut p t1.er t2.er := by
            rw [geq, geq2] at hat
            exact .two gk0 qk (by rw [hbump, List.nil_append, T.erL, T.erL]) gdoff groff hat
          have tl := fun tx ty => layout_placed w n t2 NF 0 0 tx ty hsz in2 nd2
          simp only [hadr] at tl
          refine Tell.use (tl _ _) B2 F22 X2 N29 T2 rfl rfl (by (first | exact rm1 hd (Nat.le_of_ble_eq_true rfl) | exact rm2 hd (Nat.le_of_ble_eq_true rfl) | (dsimp only; (first | (law_clear; lia) | lia | omega)))) (by (first | exact ru1 hu (Nat.le_of_ble_eq_true rfl) | exact ru2 hu (Nat.le_of_ble_eq_true rfl) | (dsimp only; (first | (law_clear; lia) | lia | omega)))) ?_
          intro kQ kM
          intro NG t3 in3 fp3 er3 at3 keep3 hG tkG FG NG'
          clear F22 N29
          k_steps
          refine ret _ _ ?_ _ _ (by k_asm) (by k_asm)
          exact fin t2 NF new2 nd2 subF sp t3 NG in3 fp3 er3 at3 keep3
        · exfalso
          rename ¬ 2 < _ => hbad
          simp at hbad
          (first | (law_clear; lia) | lia | omega)
example : True := by
  k_with_none
  trivial
end
noncomputable def K.isRow (k : K) : Bool := sameK k .row
theorem K.isRow_true {k : K} (h : k.isRow = true) : k = .row := by cases k <;> simp_all [K.isRow, sameK, kno]
theorem K.isRow_false {k : K} (h : k.isRow = false) : k ≠ .row := by cases k <;> simp_all [K.isRow, sameK, kno]
namespace P
noncomputable def side (r : Bool) (p : P) : Int := if r then p.wid else p.hei
noncomputable def sums (r : Bool) : List P → Int
  | [] => 0
  | p :: q => p.side r + sums r q
theorem sums_append (r : Bool) : ∀ a b : List P, sums r (a ++ b) = sums r a + sums r b
  | [], b => by simp [sums]
  | p :: a, b => by rw [List.cons_append, sums, sums, sums_append r a b]; (first | (law_clear; lia) | lia | omega)
theorem sums_eq (r : Bool) : ∀ a : List P, (a.map (side r)).sum = sums r a
  | [] => rfl
  | p :: a => by rw [List.map_cons, List.sum_cons, sums, sums_eq r a]
mutual
noncomputable def Sized : P → Prop
  | mk k w h ps => 1 ≤ w ∧ 1 ≤ h ∧ (k.isPane = false → (∀ q ∈ ps, q.side (!k.isRow) = if k.isRow then h else w) ∧ sums k.isRow ps + ps.length = (if k.isRow then w else h) + 1) ∧ SizedL ps
noncomputable def SizedL : List P → Prop
  | [] => True
  | p :: q => p.Sized ∧ SizedL q
end
theorem SizedL_mem : ∀ {ps : List P}, SizedL ps → ∀ p ∈ ps, p.Sized
  | [], _, _, h => nomatch h
  | q :: r, h, p, hp => by
    rw [SizedL] at h
    rcases List.mem_cons.mp hp with rfl | hp
    · exact h.1
    · exact SizedL_mem h.2 p hp
theorem SizedL_of : ∀ {ps : List P}, (∀ p ∈ ps, p.Sized) → SizedL ps
  | [], _ => by rw [SizedL]; trivial
  | q :: r, h => by rw [SizedL]; exact ⟨h q (by first | exact mem_mid _ _ _ | exact .head _ | exact .tail _ (.head _) | exact .tail _ (.tail _ (.head _)) | simp), SizedL_of fun p hp => h p (by simp [hp])⟩
end P
theorem T.side_er (t : T) (r : Bool) : t.er.side r = if r then t.wid else t.hei := by cases t; rfl
theorem open_led {h₀ h : Heap} {L : Addr} {a b c : Addr × Obj} {N : Led} (n : News h₀ L h (a :: b :: c :: N)) : ∃ NB, News h₀ L h NB ∧ c ∈ NB ∧ ∀ q ∈ N, q ∈ NB :=
  ⟨_, n, by simp, fun q hq => by simp [hq]⟩
section
example : True := by
  k_with "call builtin:len" => (refine halt ?_)
  trivial
theorem layout_is_right (w : World) : ∀ (n : Nat) (t : T) (N : Led) (x y : Int) (tx ty : Tok), t.sz ≤ n → t.In w N → t.At x y → t.er.Ok → t.er.Sized →
    Tell w 154 [.ref t.adr, .int x tx, .int y ty] (5 * n + 40) N (RetK (.bool true) fun N' => ∀ q ∈ N, q ∈ N') := by
  intro n
  induction n with
  | zero => intro t N x y tx ty h; cases t; simp [T.sz] at h
  | succ n ih =>
  intro t N₀ x y tx ty hn tin tat ok sized
  unfold Tell
  intro cx A₀ base h₀ L m mean mg mb s Q E B hf hk F X N TT hd hu ret
  cases t with | mk a d l k wd ht x' y' ps =>
  rw [T.In] at tin
  obtain ⟨cc, tl⟩ := tin
  refine letG ?_
  intro kG
  obtain ⟨t1, t2, t3, t4, t5, t6, t7, tk, tw, th, tx', ty', tp, e, ha, hdd, hl⟩ := id cc
  k_unfold
  clear kG
  simp only [T.adr]
  rw [T.At] at tat
  refine letG ?_
  intro kG
  obtain ⟨rfl, rfl, tatl⟩ := tat
  k_unfold
  clear kG
  rw [T.er, P.Ok] at ok
  rw [T.er, P.Sized] at sized
  rw [T.sz] at hn
  (refine wpAny_call ?_; k_dflt (refine' code_defC ?k1 ?k2 ?k3 ?k4 ?k5 ?kA ?kF ?kK ?k6 ?k7 ?k8 ?k9 ?kB ?kD ?_ ?c2 ?c3 ?c4; (case kA => exact rfl); (case kF => assumption); (case kK => assumption); (case k1 => k_asm); (case k2 => k_asm); (case k3 => k_asm); (case k4 => k_asm); (case k5 => k_asm); (case k6 => k_is); (case k7 => k_is); (case k8 => k_room); (case k9 => first | exact bnd3 "cell" "x" "y" rfl | exact binds_K (by k_in) rfl (by k_is) rfl rfl rfl); (case kB => exact rfl); (case kD => decide +kernel); (case c2 => exact rfl); (case c3 => exact rfl); (case c4 => exact rfl); k_whole; intro _ _ _ _ _ _ _ zzN zzY _ _ _ zzl; (have lc1 := fun p hp => Nat.ne_of_lt (Nat.lt_add_right 1 (zzl p hp))); (have lc2 := fun p hp => Nat.ne_of_lt (Nat.lt_add_right 1 (Nat.lt_add_right 1 (zzl p hp)))); (try k_lt zzl); k_cells zzY; (try simp only [List.cons_append, List.nil_append] at zzN); (try dsimp only); (try (refine foldL ?_; intro kQ kE))))
  k_steps
  cases hkp : k.isPane with
  | true =>
    refine eq_kindB (k' := .pane 0) (b := true) ((sameK_pane k 0).trans hkp) ?_
    have hps : ps = [] := by
      rw [hkp] at ok
      cases ps with
      | nil => rfl
      | cons q r => simp [T.erL] at ok
    subst hps
    rw [show refsA (List.map T.adr []) = #[] from rfl] at hl
    (try dsimp only)
    k_steps
    refine ret _ ?_ _ _ (by k_asm) (by k_asm)
    exact fun q hq => by simp [hq]
  | false =>
    refine eq_kindB (k' := .pane 0) (b := false) ((sameK_pane k 0).trans hkp) ?_
    rw [hkp] at ok sized
    refine letG ?_
    intro kG
    obtain ⟨⟨ok1, ok2⟩, ok3⟩ := ok
    k_unfold
    clear kG
    refine letG ?_
    intro kG
    obtain ⟨w1, h1, szs, sized3⟩ := sized
    k_unfold
    clear kG
    obtain ⟨cross, along⟩ := szs rfl
    (try dsimp only)
    k_steps
    obtain ⟨r, hr⟩ : ∃ r, r = k.isRow := ⟨_, rfl⟩
    refine halt (eq_kindB (k' := .row) (b := r) hr.symm ?_)
    (try dsimp only)
    k_steps
    have lim : n ≤ 200 := by simp only [recursionLimit] at hd; (first | (law_clear; lia) | lia | omega)
    have lps := T.lenL ps
    rw [T.erL_length] at ok1
    have hlen2 : (2 : Int) ≤ (((ps.map T.adr).map Value.ref).length : Int) := by simp; (first | (law_clear; lia) | lia | omega)
    rename News _ _ _ (_ :: _) => N2
    refine halt (len_led N2 (.tail _ (.tail _ (.tail _ hl))) (by simp; (first | (law_clear; lia) | lia | omega)) ?_)
    (try dsimp only)
    k_steps
    rename Fr _ _ _ _ => F3
    rename News _ _ _ (_ :: _) => N3
    rename Below _ _ (_ :: _) _ => B2
    rename Frag.In _ _ => X2
    rename Top _ _ _ _ _ _ => T2
    refine letG ?_
    intro kG
    obtain ⟨NB, N4, hcm, sub0⟩ := open_led N3
    k_unfold
    clear kG
    clear N3
    refine iter_ledS F3 N4 (sub0 _ hl) (by rfl) (by rfl) (by rfl) (by rfl) ["x", "y"] (fun av rest N => Ex6 fun (dn rp : List T) (xx yy : Int) (ux uy : Tok) => And5 (av = [some (.int xx ux), some (.int yy uy)]) (ps = dn ++ rp) (rest = (rp.map T.adr).map Value.ref) (T.AtL k xx yy rp) (∀ q ∈ NB, q ∈ N))
      ⟨[], ps, _, _, _, _, rfl, rfl, rfl, tatl, fun p hp => hp⟩ (fun av rest N h => by obtain ⟨dn, rp, xx, yy, ux, uy, h0, h1, h2, h3, h4⟩ := h; exact h4 _ (sub0 _ hl)) ?_ ?_
    · intro av v rest N I it h tk HI hne hc F5 N5
      (try (refine foldL ?_; intro kQ kE))
      refine letG ?_
      intro kG
      obtain ⟨dn, rp, xx, yy, ux, uy, rfl, hps, hv, hat, hN⟩ := HI
      k_unfold
      clear kG
      cases rp with
      | nil => simp at hv
      | cons q rp =>
      simp only [List.map_cons, List.cons.injEq] at hv
      obtain ⟨rfl, rfl⟩ := hv
      clear F3 N4
      have hcN := hN _ hcm
      have hqm : q ∈ ps := by rw [hps]; simp
      have hqi : q.In w N := (T.InL_mem tl q hqm).all fun p hp => hN _ (sub0 _ hp)
      have ccN : CellIn w N a d l k wd ht x' y' (ps.map T.adr) := cc.sub (fun o h => hN _ (sub0 _ h)) (fun o h => hN _ (sub0 _ h)) (fun o h => hN _ (sub0 _ h))
      have hsz : q.sz ≤ n := by
        have := T.szL_mem hqm
        (first | (law_clear; lia) | lia | omega)
      have hcr : (if (!r) = true then q.wid else q.hei) = (if (!r) = true then wd else ht) := by
        have := cross q.er (T.er_mem hqm)
        rw [T.side_er, ← hr] at this
        rw [this]
        cases r <;> rfl
      refine letG ?_
      intro kG
      obtain ⟨t1', t2', t3', t4', t5', t6', t7', tk', tw', th', tx3, ty3, tp', e', hqa, hqd, hql⟩ := hqi.cell
      k_unfold
      clear kG
      rw [T.AtL] at hat
      k_steps
      rename Fr _ _ _ _ => F6
      rename News _ _ _ _ => N6
      refine Tell.use (layout_side w _ (hqi.cell.sub (fun o h => .tail _ h) (fun o h => .tail _ h) (fun o h => .tail _ h)) (!r)) B2 F6 X2 N6 T2 rfl rfl (by (first | exact rm1 hd (Nat.le_of_ble_eq_true rfl) | exact rm2 hd (Nat.le_of_ble_eq_true rfl) | (dsimp only; (first | (law_clear; lia) | lia | omega)))) (by (first | exact ru1 hu (Nat.le_of_ble_eq_true rfl) | exact ru2 hu (Nat.le_of_ble_eq_true rfl) | (dsimp only; (first | (law_clear; lia) | lia | omega)))) ?_
      intro kQ kM
      rintro N7 st7 rfl h7 tk7 F7 N7'
      clear F6 N6
      k_steps
      rename Fr _ _ _ _ => F6
      rename News _ _ _ _ => N6
      refine Tell.use (layout_side w _ (ccN.sub (fun o h => .tail _ h) (fun o h => .tail _ h) (fun o h => .tail _ h)) (!r)) B2 F6 X2 N6 T2 rfl rfl (by (first | exact rm1 hd (Nat.le_of_ble_eq_true rfl) | exact rm2 hd (Nat.le_of_ble_eq_true rfl) | (dsimp only; (first | (law_clear; lia) | lia | omega)))) (by (first | exact ru1 hu (Nat.le_of_ble_eq_true rfl) | exact ru2 hu (Nat.le_of_ble_eq_true rfl) | (dsimp only; (first | (law_clear; lia) | lia | omega)))) ?_
      intro kQ kM
      rintro N8 st8 rfl h8 tk8 F8 N8'
      clear F6 N6
      k_unfold
      (try dsimp only)
      rw [hcr]
      obtain ⟨sd, hsd⟩ : ∃ sd : Int, sd = if (!r) = true then wd else ht := ⟨_, rfl⟩
      rw [← hsd]
      k_steps
      · exfalso
        rename sd ≠ sd => hb
        exact hb rfl
      rename Fr _ _ _ _ => F6
      rename News _ _ _ _ => N6
      refine Tell.use (ih q _ xx yy _ _ hsz (hqi.all fun p hp => .tail _ hp) hat.1 (P.OkL_mem ok3 _ (T.er_mem hqm)) (P.SizedL_mem sized3 _ (T.er_mem hqm))) B2 F6 X2 N6 T2 rfl rfl (by (first | exact rm1 hd (Nat.le_of_ble_eq_true rfl) | exact rm2 hd (Nat.le_of_ble_eq_true rfl) | (dsimp only; (first | (law_clear; lia) | lia | omega)))) (by (first | exact ru1 hu (Nat.le_of_ble_eq_true rfl) | exact ru2 hu (Nat.le_of_ble_eq_true rfl) | (dsimp only; (first | (law_clear; lia) | lia | omega)))) ?_
      intro kQ kM
      intro N9 sub9 h9 tk9 F9 N9'
      clear F6 N6
      have hqa9 := sub9 _ (.tail _ hqa)
      have hqd9 := sub9 _ (.tail _ hqd)
      have hcm9 := sub9 _ (.tail _ hcN)
      k_steps
      · rename r = true => hrt
        have hkr := K.isRow_true (hr.symm.trans hrt)
        refine LPostS.intro (by k_asm) (by k_asm) (.tail _ (sub9 _ (.head _))) ?_ ⟨dn ++ [q], rp, xx + q.wid + 1, yy, _, _, rfl, by simp [hps], rfl, (by have := hat.2; rw [T.nx, T.ny, if_pos hkr, if_pos hkr, ← Int.add_assoc] at this; exact this), fun p hp => mem_wipe (.tail _ (sub9 _ (.tail _ (hN p hp)))) (hne p (hN p hp))⟩
        intro z hz1 hz2
        simp only [List.mem_cons, List.not_mem_nil, or_false, not_or] at hz2
        simp +zetaDelta [up, ovl, hz1, hz2]
      · rename r = false => hrt
        have hkr := K.isRow_false (hr.symm.trans hrt)
        refine LPostS.intro (by k_asm) (by k_asm) (.tail _ (sub9 _ (.head _))) ?_ ⟨dn ++ [q], rp, xx, yy + q.hei + 1, _, _, rfl, by simp [hps], rfl, (by have := hat.2; rw [T.nx, T.ny, if_neg hkr, if_neg hkr, ← Int.add_assoc] at this; exact this), fun p hp => mem_wipe (.tail _ (sub9 _ (.tail _ (hN p hp)))) (hne p (hN p hp))⟩
        intro z hz1 hz2
        simp only [List.mem_cons, List.not_mem_nil, or_false, not_or] at hz2
        simp +zetaDelta [up, ovl, hz1, hz2]
    · intro av u N h tk HI F7 N7
      (try (refine foldL ?_; intro kQ kE))
      refine letG ?_
      intro kG
      obtain ⟨dn, rp, xx, yy, ux, uy, rfl, hps, hv, hat, hN⟩ := HI
      k_unfold
      clear kG
      clear F3 N4
      have hcN := hN _ hcm
      have haN := hN _ (sub0 _ ha)
      have hdN := hN _ (sub0 _ hdd)
      have hlN := hN _ (sub0 _ hl)
      k_steps
      rename Fr _ _ _ _ => F8
      rename News _ _ _ _ => N8
      refine comp_led rfl F8 N8 hlN ?_ (fun rr ys M => Ex2 fun (dn rp : List T) => And4 (ps = dn ++ rp) (rr = (rp.map T.adr).map Value.ref) (IntsAre ys ((T.erL dn).map (P.side r))) (∀ q ∈ N, q ∈ M))
        ⟨[], ps, rfl, rfl, .nil, fun _ h => h⟩ (fun rr ys M h => by obtain ⟨dn, rp, h1, h2, h3, h4⟩ := h; exact h4 _ hlN) ?_ ?_
      · simp only [List.length_map, sizeLine_eq]
        (first | (law_clear; lia) | lia | omega)
      · intro v rr ys M I oI C oC D m₂ h8 tk8 E' HI hC hx F9 N9 off ne
        (try (refine foldL ?_; intro kQ kE))
        refine letG ?_
        intro kG
        obtain ⟨dn, rp, hps, hv, hys, hM⟩ := HI
        k_unfold
        clear kG
        cases rp with
        | nil => simp at hv
        | cons q rp =>
        simp only [List.map_cons, List.cons.injEq] at hv
        obtain ⟨rfl, rfl⟩ := hv
        clear F8 N8
        have hcM := hM _ hcN
        have hqm : q ∈ ps := by rw [hps]; simp
        have hqi : q.In w M := (T.InL_mem tl q hqm).all fun p hp => hM _ (hN _ (sub0 _ hp))
        k_steps
        refine Tell.use (layout_side w _ (hqi.cell.sub (fun o h => .tail _ (.tail _ (.tail _ h))) (fun o h => .tail _ (.tail _ (.tail _ h))) (fun o h => .tail _ (.tail _ (.tail _ h)))) r) B2 F9 X2 N9 T2 rfl rfl (by (first | exact rm1 hd (Nat.le_of_ble_eq_true rfl) | exact rm2 hd (Nat.le_of_ble_eq_true rfl) | (dsimp only; (first | (law_clear; lia) | lia | omega)))) (by (first | exact ru1 hu (Nat.le_of_ble_eq_true rfl) | exact ru2 hu (Nat.le_of_ble_eq_true rfl) | (dsimp only; (first | (law_clear; lia) | lia | omega)))) ?_
        intro kQ kM
        rintro N7 st7 rfl h7 tk7 F7 N7'
        k_steps
        refine CPost.same F7 N7' off ⟨dn ++ [q], rp, by simp [hps], rfl, ?_, hM⟩
        rw [T.erL_append, List.map_append, T.erL, T.erL, List.map_singleton, T.side_er]
        exact hys.append (.cons _ _ .nil)
      · rintro ys M g ⟨dn, rp, hps, hv, hys, hM⟩
        have : rp = [] := by cases rp with | nil => rfl | cons => simp at hv
        subst this
        rw [List.append_nil] at hps
        subst hps
        unfold LCg.FinE
        intro D h9 tk9 F9 N9 o1
        clear F8 N8
        have hcM := hM _ hcN
        have haM := hM _ haN
        have hdM := hM _ hdN
        have hlM := hM _ hlN
        k_steps
        rename News _ _ _ (_ :: _) => N10
        refine halt (len_led N10 (.tail _ hlM) (by simp; (first | (law_clear; lia) | lia | omega)) ?_)
        (try dsimp only)
        k_steps
        rename Fr _ _ _ _ => F11
        rename News _ _ _ (_ :: _) => N11
        have ccM : CellIn w M a d l k wd ht x' y' (ps.map T.adr) := cc.sub (fun o h => hM _ (hN _ (sub0 _ h))) (fun o h => hM _ (hN _ (sub0 _ h))) (fun o h => hM _ (hN _ (sub0 _ h)))
        refine Tell.use (layout_side w _ (ccM.sub (fun o h => .tail _ h) (fun o h => .tail _ h) (fun o h => .tail _ h)) r) B2 F11 X2 N11 T2 rfl rfl (by (first | exact rm1 hd (Nat.le_of_ble_eq_true rfl) | exact rm2 hd (Nat.le_of_ble_eq_true rfl) | (dsimp only; (first | (law_clear; lia) | lia | omega)))) (by (first | exact ru1 hu (Nat.le_of_ble_eq_true rfl) | exact ru2 hu (Nat.le_of_ble_eq_true rfl) | (dsimp only; (first | (law_clear; lia) | lia | omega)))) ?_
        intro kQ kM
        rintro N12 st12 rfl h12 tk12 F12 N12'
        clear F11 N11
        have fine : ((T.erL ps).map (P.side r)).sum + (((ps.map T.adr).map Value.ref).length : Int) - 1 = if r then wd else ht := by
          rw [P.sums_eq, List.length_map, List.length_map]
          rw [T.erL_length, ← hr] at along
          cases r
          · simp only [Bool.false_eq_true, if_false] at along ⊢; (first | (law_clear; lia) | lia | omega)
          · simp only [if_true] at along ⊢; (first | (law_clear; lia) | lia | omega)
        k_steps
        refine RetK.of ret ?_ (fun q hq => .tail _ (hM _ (hN _ (sub0 _ hq)))) _ _ (by k_asm) (by k_asm)
        rw [fine]
        simp
example : True := by
  k_with_none
  trivial
end
theorem is_tiling (w : World) (n : Nat) (t : T) (N : Led) (hn : t.sz ≤ n) (tin : t.In w N) (tat : t.At 0 0) (ok : t.er.Ok) (sized : t.er.Sized) :
    Tell w 149 [.ref t.adr] (5 * n + 60) N (RetK (.bool true) fun N' => ∀ q ∈ N, q ∈ N') := by
  unfold Tell
  intro cx A₀ base h₀ L m mean mg mb s Q E B hf hk F X N₀ TT hd hu ret
  (refine wpAny_call ?_; k_dflt (refine' code_def ?k1 ?k2 ?k3 ?k4 ?k5 ?kA ?kF ?kK ?k6 ?k7 ?k8 ?k9 ?kB ?_ ?c2 ?c3 ?c4 ?c5; (case kA => exact rfl); (case kF => assumption); (case kK => assumption); (case k1 => k_asm); (case k2 => k_asm); (case k3 => k_asm); (case k4 => k_asm); (case k5 => k_asm); (case k6 => k_is); (case k7 => k_is); (case k8 => k_room); (case k9 => exact bnd1 "root" rfl); (case c5 => decide); (case kB => exact locs rfl); (case c2 => exact rfl); (case c3 => exact rfl); (case c4 => exact rfl); k_whole; intro _ _ _ _ _ _ _ _ _; (try dsimp only); (try (refine foldL ?_; intro kQ kE))))
  k_steps
  rename Fr _ _ _ _ => F2
  rename News _ _ _ _ => N2
  rename Below _ _ (_ :: _) _ => B2
  rename Frag.In _ _ => X2
  rename Top _ _ _ _ _ _ => T2
  refine Tell.use (layout_is_right w n t N 0 0 _ _ hn tin tat ok sized) B2 F2 X2 N2 T2 rfl rfl (by (first | exact rm1 hd (Nat.le_of_ble_eq_true rfl) | exact rm2 hd (Nat.le_of_ble_eq_true rfl) | (dsimp only; (first | (law_clear; lia) | lia | omega)))) (by (first | exact ru1 hu (Nat.le_of_ble_eq_true rfl) | exact ru2 hu (Nat.le_of_ble_eq_true rfl) | (dsimp only; (first | (law_clear; lia) | lia | omega)))) ?_
  intro kQ kM
  intro N2 sub h2 tk2 F4 N4
  k_steps
  exact ret _ sub _ _ (by k_asm) (by k_asm)
namespace T
mutual
noncomputable def cells : T → List T | mk a d l k w h x y ps => mk a d l k w h x y ps :: cellsL ps
noncomputable def cellsL : List T → List T
  | [] => []
  | p :: r => p.cells ++ cellsL r
end
noncomputable abbrev newK (f : Addr → Option Int) (a : Addr) : K → K
  | .pane q => .pane ((f a).getD q)
  | .row => .row
  | .col => .col
mutual
noncomputable def paint (f : Addr → Option Int) : T → T | mk a d l k w h x y ps => mk a d l (newK f a k) w h x y (paintL f ps)
noncomputable def paintL (f : Addr → Option Int) : List T → List T
  | [] => []
  | p :: r => p.paint f :: paintL f r
end
noncomputable abbrev Bears (w : World) (N : Led) (c : T) : Prop := CellIn w N c.adr c.dic c.lst c.kin c.wid c.hei c.xx c.yy (c.par.map adr)
mutual
theorem in_cells {w : World} {N : Led} : ∀ t : T, t.In w N ↔ ∀ c ∈ t.cells, Bears w N c
  | mk a d l k wd h x y ps => by
    have := inL_cells (w := w) (N := N) ps
    rw [In, cells, this]
    simp only [List.mem_cons, forall_eq_or_imp]
    rfl
theorem inL_cells {w : World} {N : Led} : ∀ ps : List T, InL w N ps ↔ ∀ c ∈ cellsL ps, Bears w N c
  | [] => by simp [InL, cellsL]
  | p :: r => by
    have h1 := in_cells (w := w) (N := N) p
    have h2 := inL_cells (w := w) (N := N) r
    rw [InL, cellsL, h1, h2]
    simp only [List.mem_append]
    exact ⟨fun h c hc => hc.elim (h.1 c) (h.2 c), fun h => ⟨fun c hc => h c (.inl hc), fun c hc => h c (.inr hc)⟩⟩
end
noncomputable def tri (c : T) : List Addr := [c.adr, c.dic, c.lst]
mutual
theorem fp_cells : ∀ t : T, t.fp = t.cells.flatMap tri
  | mk a d l k wd h x y ps => by
    rw [fp, cells, List.flatMap_cons, fpL_cells ps]
    rfl
theorem fpL_cells : ∀ ps : List T, fpL ps = (cellsL ps).flatMap tri
  | [] => rfl
  | p :: r => by rw [fpL, cellsL, List.flatMap_append, fp_cells p, fpL_cells r]
end
theorem flat_one {α β : Type} {g : α → List β} {l : List α} (n : (l.flatMap g).Nodup) {x y : α} {z : β} (hx : x ∈ l) (hy : y ∈ l) (zx : z ∈ g x) (zy : z ∈ g y) : x = y := by
  induction l with
  | nil => cases hx
  | cons a l ih =>
    rw [List.flatMap_cons] at n
    have n1 := List.nodup_append.mp n
    rcases List.mem_cons.mp hx with ex | hx'
    · rcases List.mem_cons.mp hy with ey | hy'
      · rw [ex, ey]
      · exact absurd rfl (n1.2.2 z (ex ▸ zx) z (List.mem_flatMap.mpr ⟨y, hy', zy⟩))
    · rcases List.mem_cons.mp hy with ey | hy'
      · exact absurd rfl (n1.2.2 z (ey ▸ zy) z (List.mem_flatMap.mpr ⟨x, hx', zx⟩))
      · exact ih n1.2.1 hx' hy'
theorem cells_one {t x y : T} {z : Addr} (n : t.fp.Nodup) (hx : x ∈ t.cells) (hy : y ∈ t.cells) (zx : z ∈ tri x) (zy : z ∈ tri y) : x = y := by
  rw [fp_cells] at n
  exact flat_one n hx hy zx zy
mutual
theorem leaves_cells : ∀ (t : T), ∀ q ∈ t.leaves, q ∈ t.cells
  | mk a d l k w h x y ps, q, hq => by
    cases k with
    | pane p => simp only [leaves, List.mem_singleton] at hq; rw [hq, cells]; exact List.Mem.head _
    | row => rw [cells]; exact List.mem_cons_of_mem _ (leavesL_cells ps q (by simpa only [leaves] using hq))
    | col => rw [cells]; exact List.mem_cons_of_mem _ (leavesL_cells ps q (by simpa only [leaves] using hq))
theorem leavesL_cells : ∀ (ps : List T), ∀ q ∈ leavesL ps, q ∈ cellsL ps
  | p :: r, q, hq => by
    rw [leavesL] at hq
    rw [cellsL]
    rcases List.mem_append.mp hq with h | h
    · exact List.mem_append_left _ (leaves_cells p q h)
    · exact List.mem_append_right _ (leavesL_cells r q h)
end
theorem cell_fp {t c : T} (h : c ∈ t.cells) : ∀ z ∈ tri c, z ∈ t.fp := fun z hz => by
  rw [fp_cells]
  exact List.mem_flatMap.mpr ⟨c, h, hz⟩
mutual
theorem leaves_nodup : ∀ (t : T), t.fp.Nodup → (t.leaves.map adr).Nodup
  | mk a d l k w h x y ps, n => by
    rw [fp] at n
    simp at n
    cases k with
    | pane p => simp [leaves]
    | row => simp only [leaves]; exact leavesL_nodup ps n.2.2.2
    | col => simp only [leaves]; exact leavesL_nodup ps n.2.2.2
theorem leavesL_nodup : ∀ (ps : List T), (fpL ps).Nodup → ((leavesL ps).map adr).Nodup
  | [], _ => by simp [leavesL]
  | p :: r, n => by
    rw [fpL] at n
    have n1 := List.nodup_append.mp n
    rw [leavesL, List.map_append]
    refine List.nodup_append.mpr ⟨leaves_nodup p n1.1, leavesL_nodup r n1.2.1, fun a ha b hb e => ?_⟩
    refine letG ?_
    intro kG
    obtain ⟨x, hx, rfl⟩ := List.mem_map.mp ha
    k_unfold
    clear kG
    refine letG ?_
    intro kG
    obtain ⟨y, hy, rfl⟩ := List.mem_map.mp hb
    k_unfold
    clear kG
    refine n1.2.2 x.adr (cell_fp (leaves_cells p x hx) _ (by simp [tri])) y.adr ?_ e
    rw [fpL_cells]
    exact List.mem_flatMap.mpr ⟨y, leavesL_cells r y hy, by simp [tri]⟩
end
mutual
theorem paint_fp (f : Addr → Option Int) : ∀ t : T, (t.paint f).fp = t.fp
  | mk a d l k w h x y ps => by rw [paint, fp, fp, paintL_fp f ps]
theorem paintL_fp (f : Addr → Option Int) : ∀ ps : List T, fpL (paintL f ps) = fpL ps
  | [] => rfl
  | p :: r => by rw [paintL, fpL, fpL, paint_fp f p, paintL_fp f r]
end
theorem paint_adr (f : Addr → Option Int) (t : T) : (t.paint f).adr = t.adr := by cases t; rw [paint]; rfl
theorem paintL_adr (f : Addr → Option Int) : ∀ ps : List T, (paintL f ps).map adr = ps.map adr
  | [] => rfl
  | p :: r => by rw [paintL, List.map_cons, List.map_cons, paint_adr, paintL_adr f r]
mutual
theorem cells_paint (f : Addr → Option Int) : ∀ t : T, (t.paint f).cells = t.cells.map (paint f)
  | mk a d l k w h x y ps => by rw [paint, cells, cells, List.map_cons, paint, cellsL_paint f ps]
theorem cellsL_paint (f : Addr → Option Int) : ∀ ps : List T, cellsL (paintL f ps) = (cellsL ps).map (paint f)
  | [] => rfl
  | p :: r => by rw [paintL, cellsL, cellsL, List.map_append, cells_paint f p, cellsL_paint f r]
end
theorem bears_paint {w : World} {N : Led} {f : Addr → Option Int} {c : T} : Bears w N (c.paint f) ↔ CellIn w N c.adr c.dic c.lst (newK f c.adr c.kin) c.wid c.hei c.xx c.yy (c.par.map adr) := by
  cases c with | mk a d l k wd h x y ps =>
  rw [paint]
  show CellIn _ _ _ _ _ _ _ _ _ _ ((paintL f ps).map adr) ↔ _
  rw [paintL_adr]
  rfl
mutual
theorem areas_paint (f : Addr → Option Int) : ∀ t : T, (t.paint f).areas = t.leaves.map fun q => ⟨(f q.adr).getD q.num, q.xx, q.yy, q.wid, q.hei⟩
  | mk a d l k w h x y ps => by
    have := areasL_paint f ps
    cases k <;> simp_all [paint, areas, leaves, adr, num, kin, xx, yy, wid, hei]
theorem areasL_paint (f : Addr → Option Int) : ∀ ps : List T, areasL (paintL f ps) = (leavesL ps).map fun q => ⟨(f q.adr).getD q.num, q.xx, q.yy, q.wid, q.hei⟩
  | [] => rfl
  | p :: r => by rw [paintL, areasL, leavesL, List.map_append, areas_paint f p, areasL_paint f r]
end
theorem paint_step {w : World} {N N' : Led} {f : Addr → Option Int} {t q : T} {n : Int} (nd : t.fp.Nodup) (hq : q ∈ t.leaves) (h : (t.paint f).In w N)
    (hb : CellIn w N' q.adr q.dic q.lst (.pane n) q.wid q.hei q.xx q.yy (q.par.map adr)) (keep : ∀ p ∈ N, p.1 ≠ q.dic → p ∈ N') :
    (t.paint fun a => if a = q.adr then some n else f a).In w N' := by
  rw [in_cells, cells_paint] at h ⊢
  intro c0 hc0
  refine letG ?_
  intro kG
  obtain ⟨c, hc, rfl⟩ := List.mem_map.mp hc0
  k_unfold
  clear kG
  have h1 := h _ (List.mem_map.mpr ⟨c, hc, rfl⟩)
  rw [bears_paint] at h1 ⊢
  have hqc := leaves_cells t q hq
  by_cases e : c = q
  · subst e
    have hp := leaves_pane t c hq
    unfold isPane at hp
    rw [hp]
    simpa [newK] using hb
  · have off : ∀ z ∈ tri c, z ∉ tri q := fun z hz hz' => e (cells_one nd hc hqc hz hz')
    have hd : ∀ z ∈ tri c, z ≠ q.dic := fun z hz e' => off z hz (by rw [e']; simp [tri])
    have ha : c.adr ≠ q.adr := fun e' => off c.adr (by simp [tri]) (by rw [e']; simp [tri])
    have hk : newK (fun a => if a = q.adr then some n else f a) c.adr c.kin = newK f c.adr c.kin := by
      cases c.kin <;> simp [newK, ha]
    rw [hk]
    exact h1.sub (fun o ho => keep _ ho (hd _ (by simp [tri]))) (fun o ho => keep _ ho (hd _ (by simp [tri]))) (fun o ho => keep _ ho (hd _ (by simp [tri])))
mutual
theorem paint_none : ∀ t : T, t.paint (fun _ => none) = t
  | mk a d l k w h x y ps => by
    rw [paint, paintL_none ps]
    cases k <;> rfl
theorem paintL_none : ∀ ps : List T, paintL (fun _ => none) ps = ps
  | [] => rfl
  | p :: r => by rw [paintL, paint_none p, paintL_none r]
end
end T
theorem pairs_store {h₀ h : Heap} {L : Addr} {its N : Led} {d : Addr} {o o' : Obj} (off : ∀ p ∈ N, ∀ q ∈ its, p.1 ≠ q.1) (hm : (d, o) ∈ N) (n : News h₀ L h ((d, o') :: wipe d (its ++ N))) :
    ∃ NW, News h₀ L h (its ++ NW) ∧ (d, o') ∈ NW ∧ (∀ p ∈ N, p.1 ≠ d → p ∈ NW) ∧ ∀ p ∈ NW, ∀ q ∈ its, p.1 ≠ q.1 := by
  refine ⟨(d, o') :: wipe d N, News.sub n fun p hp => ?_, .head _, fun p hp hne => .tail _ (mem_wipe hp hne), fun p hp q hq => ?_⟩
  · rcases List.mem_append.mp hp with hp | hp
    · exact .tail _ (mem_wipe (List.mem_append_left _ hp) (fun e => off _ hm _ hp e.symm))
    · rcases List.mem_cons.mp hp with rfl | hp
      · exact .head _
      · exact .tail _ (mem_wipe (List.mem_append_right _ (List.mem_filter.mp hp).1) (wipe_ne _ hp))
  · rcases List.mem_cons.mp hp with rfl | hp
    · exact off _ hm _ hq
    · exact off _ (List.mem_filter.mp hp).1 _ hq
theorem zip_fill (f : Addr → Option Int) : ∀ (dn : List T) (ns : List Int), dn.map (fun x => f x.adr) = ns.map some →
    dn.map (fun q => (⟨(f q.adr).getD q.num, q.xx, q.yy, q.wid, q.hei⟩ : Area)) = List.zipWith (fun (a : Area) n => (⟨n, a.x, a.y, a.w, a.h⟩ : Area)) (dn.map T.area) ns
  | [], ns, _ => by simp
  | x :: dn, [], h => by simp at h
  | x :: dn, n :: ns, h => by
    simp only [List.map_cons, List.cons.injEq] at h
    rw [List.map_cons, List.map_cons, List.zipWith_cons_cons, zip_fill f dn ns h.2, h.1]
    rfl
noncomputable def RenK (w : World) (N₀ : Led) (as : List Area) (n : Nat) (φ : Value → Led → Prop) : Prop :=
  ∀ N' (t' : T) (h1 : Made w N₀ N' t') (h2 : t'.areas = as) (h3 : t'.sz ≤ n), φ (.ref t'.adr) N'
theorem RenK.of {w : World} {N₀ N' : Led} {as : List Area} {n : Nat} {φ : Value → Led → Prop} (k : RenK w N₀ as n φ) {r : Value} {t' : T} (e : r = .ref t'.adr) (h1 : Made w N₀ N' t') (h2 : t'.areas = as) (h3 : t'.sz ≤ n) : φ r N' := e ▸ k N' t' h1 h2 h3
theorem layout_renumbered (w : World) (n : Nat) (t : T) (N₀ : Led) (nl : Addr) (its : List Value) (ns : List Int) (e : Nat) (hn : t.sz ≤ n) (tin : t.In w N₀) (hnl : (nl, listOf its.toArray e) ∈ N₀) (hns : IntsAre its ns) (hlen : ns.length = t.leaves.length) :
    Tell w 161 [.ref t.adr, .ref nl] (5 * n + 60) N₀ (RenK w N₀ (List.zipWith (fun a n => ⟨n, a.x, a.y, a.w, a.h⟩) t.areas ns) n) := by
  unfold Tell
  intro cx A₀ base h₀ L m mean mg mb s Q E B hf hk F X N TT hd hu ret
  (refine wpAny_call ?_; k_dflt (refine' code_def ?k1 ?k2 ?k3 ?k4 ?k5 ?kA ?kF ?kK ?k6 ?k7 ?k8 ?k9 ?kB ?_ ?c2 ?c3 ?c4 ?c5; (case kA => exact rfl); (case kF => assumption); (case kK => assumption); (case k1 => k_asm); (case k2 => k_asm); (case k3 => k_asm); (case k4 => k_asm); (case k5 => k_asm); (case k6 => k_is); (case k7 => k_is); (case k8 => k_room); (case k9 => exact bnd2 "root" "numbers" rfl); (case c5 => decide); (case kB => exact locs rfl); (case c2 => exact rfl); (case c3 => exact rfl); (case c4 => exact rfl); k_whole; intro _ _ _ _ _ _ _ _ _; (try dsimp only); (try (refine foldL ?_; intro kQ kE))))
  k_steps
  rename Fr _ _ _ _ => F2
  rename News _ _ _ _ => N2
  rename Below _ _ (_ :: _) _ => B2
  rename Frag.In _ _ => X2
  rename Top _ _ _ _ _ _ => T2
  have lim : n ≤ 200 := by simp only [recursionLimit] at hd; (first | (law_clear; lia) | lia | omega)
  refine Tell.use (layout_copy w n t N₀ hn tin) B2 F2 X2 N2 T2 rfl rfl (by (first | exact rm1 hd (Nat.le_of_ble_eq_true rfl) | exact rm2 hd (Nat.le_of_ble_eq_true rfl) | (dsimp only; (first | (law_clear; lia) | lia | omega)))) (by (first | exact ru1 hu (Nat.le_of_ble_eq_true rfl) | exact ru2 hu (Nat.le_of_ble_eq_true rfl) | (dsimp only; (first | (law_clear; lia) | lia | omega)))) ?_
  intro kQ kM
  rintro N1 t1 ⟨in1, new1, nd1, sub1⟩ er1 ar1 h1 tk1 F3 N3
  clear F2 N2
  k_steps
  have sz1 : t1.sz ≤ n := by rw [← T.sz_er, er1, T.sz_er]; exact hn
  rename Fr _ _ _ _ => F4
  rename News _ _ _ _ => N4
  refine Tell.use (layout_leaves w n t1 N1 sz1 in1) B2 F4 X2 N4 T2 rfl rfl (by (first | exact rm1 hd (Nat.le_of_ble_eq_true rfl) | exact rm2 hd (Nat.le_of_ble_eq_true rfl) | (dsimp only; (first | (law_clear; lia) | lia | omega)))) (by (first | exact ru1 hu (Nat.le_of_ble_eq_true rfl) | exact ru2 hu (Nat.le_of_ble_eq_true rfl) | (dsimp only; (first | (law_clear; lia) | lia | omega)))) ?_
  intro kQ kM
  intro NB l2 e2 hl2 lt2 sub2 h2 tk2 F5 N5
  clear F4 N4
  k_steps
  rename Fr _ _ _ _ => F6
  rename News _ _ _ _ => N6
  refine zip_led F6 N6 hl2 (sub2 _ (sub1 _ hnl)) (by rfl) (by rfl) (by rfl) (by rfl) (by rfl) (by rfl) ["leaf", "pane"]
    (fun a r q N => Ex7 fun (u v : Option Value) (dn rp : List T) (ms rm : List Int) (f : Addr → Option Int) => And9 (a = [u, v]) (t1.leaves = dn ++ rp) (ns = ms ++ rm) (dn.length = ms.length) (r = (rp.map T.adr).map Value.ref) (IntsAre q rm) (dn.map (fun x => f x.adr) = ms.map some) ((t1.paint f).In w N) (∀ p ∈ NB, p.1 ∉ t1.fp → p ∈ N)) ?_ ?_ ?_ ?_
  · exact ⟨_, _, [], t1.leaves, [], ns, fun _ => none, rfl, rfl, rfl, rfl, rfl, hns, rfl, by rw [T.paint_none]; exact in1.all sub2, fun p hp _ => hp⟩
  · rintro a r q N ⟨u, v, dn, rp, ms, rm, f, -, -, -, -, -, -, -, -, hN⟩
    refine ⟨hN _ hl2 fun h => ?_, hN _ (sub2 _ (sub1 _ hnl)) fun h => new1 _ h _ hnl rfl⟩
    obtain ⟨o, ho⟩ := in1.has l2 h
    exact Nat.lt_irrefl _ (lt2 _ ho)
  · intro a x r y q N its2 Tt h tk HI tup off F7 N7
    (try (refine foldL ?_; intro kQ kE))
    refine letG ?_
    intro kG
    obtain ⟨u, v, dn, rp, ms, rm, f, rfl, hlv, hms, hdm, hr, hq, hf2, hin, hN⟩ := HI
    k_unfold
    clear kG
    clear F6 N6
    cases rp with
    | nil => simp at hr
    | cons z rp =>
    simp only [List.map_cons, List.cons.injEq] at hr
    obtain ⟨rfl, rfl⟩ := hr
    cases hq with | cons n1 u1 hq =>
    have hz : z ∈ t1.leaves := by rw [hlv]; simp
    have hzb : CellIn w N z.adr z.dic z.lst (T.newK f z.adr z.kin) z.wid z.hei z.xx z.yy (z.par.map T.adr) := by
      have := (T.in_cells _).mp hin (z.paint f) (by rw [T.cells_paint]; exact List.mem_map.mpr ⟨z, T.leaves_cells t1 z hz, rfl⟩)
      exact T.bears_paint.mp this
    have hzp := T.leaves_pane t1 z hz
    unfold T.isPane at hzp
    rw [hzp] at hzb
    refine letG ?_
    intro kG
    obtain ⟨t1', t2', t3', t4', t5', t6', t7', tk', tw', th', tx', ty', tp', e', ha, hdd, hl⟩ := hzb
    k_unfold
    clear kG
    dsimp only [T.newK, kindV, paneV] at hdd
    have zd : z.dic ∈ t1.fp := T.cell_fp (T.leaves_cells t1 z hz) _ (by simp [T.tri])
    have wn := wipe_ne (d := z.dic) (N := its2 ++ N)
    have zad : z.adr ≠ z.dic := News.ne_of N7 (List.mem_append_right _ ha) (List.mem_append_right _ hdd) (by first | exact mem_mid _ _ _ | exact .head _ | exact .tail _ (.head _) | exact .tail _ (.tail _ (.head _)) | simp)
    have zld : z.lst ≠ z.dic := News.ne_of N7 (List.mem_append_right _ hl) (List.mem_append_right _ hdd) (by first | exact mem_mid _ _ _ | exact .head _ | exact .tail _ (.head _) | exact .tail _ (.tail _ (.head _)) | simp)
    have haW : (z.adr, instObj 31 z.dic) ∈ wipe z.dic (its2 ++ N) := mem_wipe (List.mem_append_right _ ha) zad
    have N8 := News.focus N7 (List.mem_append_right its2 hdd)
    clear N7
    k_steps
    rename News _ _ _ (_ :: _) => N9
    rename Fr _ _ _ _ => F9
    refine letG ?_
    intro kG
    obtain ⟨NW, N10, hzW0, keepW, offW⟩ := pairs_store off hdd N9
    k_unfold
    clear kG
    have hzW : CellIn w NW z.adr z.dic z.lst (.pane n1) z.wid z.hei z.xx z.yy (z.par.map T.adr) := CellIn.mk (keepW _ ha zad) hzW0 (keepW _ hl zld)
    refine PPost.same F9 N10 offW ?_ ⟨_, _, dn ++ [z], rp, ms ++ [n1], _, fun a => if a = z.adr then some n1 else f a, rfl, by simp [hlv], ?_, by simp [hdm], rfl, hq, ?_, T.paint_step nd1 hz hin hzW keepW, fun p hp hpf => keepW _ (hN _ hp hpf) fun e => hpf (e ▸ zd)⟩
    · intro z hz
      simp only [List.mem_cons, List.not_mem_nil, or_false, not_or] at hz
      simp +zetaDelta [up, ovl, hz]
    · rw [hms]
      simp
    · have ln := T.leaves_nodup t1 nd1
      rw [hlv, List.map_append, List.map_cons] at ln
      have ln2 := (List.nodup_append.mp ln).2.2
      rw [List.map_append, List.map_append, ← hf2]
      refine congr (congrArg _ (List.map_congr_left fun x hx => ?_)) (by first | exact mem_mid _ _ _ | exact .head _ | exact .tail _ (.head _) | exact .tail _ (.tail _ (.head _)) | simp)
      show (if x.adr = z.adr then some n1 else f x.adr) = f x.adr
      rw [if_neg]
      exact ln2 _ (List.mem_map.mpr ⟨x, hx, rfl⟩) _ (List.Mem.head _)
  · intro a r q N h tk HI hend F7 N7
    (try (refine foldL ?_; intro kQ kE))
    refine letG ?_
    intro kG
    obtain ⟨u, v, dn, rp, ms, rm, f, rfl, hlv, hms, hdm, hr, hq, hf2, hin, hN⟩ := HI
    k_unfold
    clear kG
    clear F6 N6
    have hrp : rp = [] ∧ rm = [] := by
      have h1 := congrArg List.length hlv
      have h2 := congrArg List.length hms
      rw [List.length_append] at h1 h2
      have h3 : t1.leaves.length = ns.length := by
        rw [hlen]
        have h4 := congrArg List.length ar1
        rw [T.areas_eq, T.areas_eq, List.length_map, List.length_map] at h4
        exact h4
      rcases hend with h | h
      · subst h
        have : rp = [] := by cases rp with | nil => rfl | cons => simp at hr
        subst this
        exact ⟨rfl, List.eq_nil_of_length_eq_zero (by simp at h1; (first | (law_clear; lia) | lia | omega))⟩
      · subst h
        have : rm = [] := by cases hq; rfl
        subst this
        exact ⟨List.eq_nil_of_length_eq_zero (by simp at h2; (first | (law_clear; lia) | lia | omega)), rfl⟩
    obtain ⟨rfl, rfl⟩ := hrp
    rw [List.append_nil] at hlv hms
    subst hms
    k_steps
    refine RenK.of ret (t' := t1.paint f) (by rw [T.paint_adr]) ⟨hin, by rw [T.paint_fp]; exact new1, by rw [T.paint_fp]; exact nd1, fun p hp => hN _ (sub2 _ (sub1 _ hp)) fun h => new1 _ h _ hp rfl⟩ ?_ ?_ _ _ (by k_asm) (by k_asm)
    · rw [T.areas_paint, ← ar1, T.areas_eq, hlv]
      exact zip_fill f dn ns hf2
    · have h1 := T.sz_fp (t1.paint f)
      rw [T.paint_fp, T.sz_fp] at h1
      (first | (law_clear; lia) | lia | omega)
noncomputable def swapI (a b p : Int) : Int := if p = a then b else if p = b then a else p
noncomputable abbrev fill (as : List Area) (ns : List Int) : List Area := List.zipWith (fun (a : Area) n => (⟨n, a.x, a.y, a.w, a.h⟩ : Area)) as ns
section
variable {prog : Program} {w : World} {s : Shared} {h₀ : Heap} {L d : Addr} {m : Str → Option Value} {news : List (Addr × Obj)} {g : Obj → List (Addr × Obj)} {o : Obj} {Q : Value → Shared → Prop} {vs : List (Value × Value)}
theorem made_int (F : Fr h₀ L s.heap m) (N : News h₀ L s.heap news) (U : UpdF d o news g) (hd : o.IsDictOf (PySem.intKind prog w) []) (hk : allIntKeys vs = true)
    (h : ∀ h' o', Fr h₀ L h' m → News h₀ L h' (g o') → o'.IsDictOf (PySem.intKind prog w) (merged [] (intKeyPairs vs)) → Q (.ref d) { s with heap := h', toks := s.toks + vs.length }) : KdnMade prog w (PySem.intKind prog w) d Q vs s := by
  refine letG ?_
  intro kG
  obtain ⟨pre, post, rfl, hg, a, b⟩ := U.split
  k_unfold
  clear kG
  have hm := N (d, o) (List.mem_append_right _ (.head _))
  refine ⟨intKeyPairs vs, carries_intKeyPairs prog w vs hk, Heap.dictOf_iff.mpr ⟨o, hm.1, hd⟩, fun h' hmm hs => ?_⟩
  refine letG ?_
  intro kG
  obtain ⟨o', ho', hd'⟩ := Heap.dictOf_iff.mp hmm
  k_unfold
  clear kG
  exact h h' o' (F.change hs hm.2.1 hm.2.2) (hg o' ▸ N.setIn a b hs ho') hd'
end
theorem focus3 {h₀ h : Heap} {L d : Addr} {N N₀ : Led} {o : Obj} (n : News h₀ L h N) (hm : (d, o) ∈ N) (sub : ∀ p ∈ N₀, p ∈ N) (off : ∀ p ∈ N₀, p.1 ≠ d) :
    ∃ NW, News h₀ L h ((d, o) :: NW) ∧ (∀ p ∈ NW, p.1 ≠ d) ∧ (∀ p ∈ N, p.1 ≠ d → p ∈ NW) ∧ ∀ p ∈ N₀, p ∈ NW :=
  ⟨wipe d N, News.focus n hm, wipe_ne, fun p hp hne => mem_wipe hp hne, fun p hp => mem_wipe (sub _ hp) (off _ hp)⟩
theorem open_led0 {h₀ h : Heap} {L : Addr} {c : Addr × Obj} {N : Led} (n : News h₀ L h (c :: N)) : ∃ NB, News h₀ L h NB ∧ c ∈ NB ∧ ∀ q ∈ N, q ∈ NB := ⟨_, n, .head _, fun _ hq => .tail _ hq⟩
theorem swap_value (a b k : Int) (ta tb : Tok) : valueAt (merged [] [(a, Value.int b tb), (b, Value.int a ta)]) k = if k = b then some (.int a ta) else if k = a then some (.int b tb) else none := by
  by_cases e : a = b
  · subst e
    by_cases h : k = a
    · subst h; simp [merged, stored, valueAt]
    · simp [merged, stored, valueAt, h, Ne.symm h]
  · by_cases h : k = b
    · subst h; simp [merged, stored, valueAt, e]
    · by_cases h2 : k = a
      · subst h2; simp [merged, stored, valueAt, e, Ne.symm e]
      · simp [merged, stored, valueAt, e, h, h2, Ne.symm h, Ne.symm h2]
section
example : True := by
  k_with "eval Dict" => (refine halt ?_)
  k_with "KdnMade" => (refine halt ?_)
  k_with "getMethod ref" => (refine halt ?_)
  k_with "call builtin:dict.get" => (refine halt ?_)
  trivial
theorem swap_panes (w : World) (n : Nat) (t : T) (N₀ : Led) (a b : Int) (ta tb : Tok) (hn : t.sz ≤ n) (tin : t.In w N₀) :
    Tell w 166 [.ref t.adr, .int a ta, .int b tb] (5 * n + 80) N₀ (PostK fun r N' => (∀ q ∈ N₀, q ∈ N') ∧ if a ∈ t.panes ∧ b ∈ t.panes then ∃ t', r = .ref t'.adr ∧ Made w N₀ N' t' ∧ (t'.areas = fill t.areas (t.panes.map (swapI a b)) ∧ t'.sz ≤ n) else r = .none) := by
  unfold Tell
  intro cx A₀ base h₀ L m mean mg mb s Q E B hf hk F X N TT hd hu ret
  (refine wpAny_call ?_; k_dflt (refine' code_defC ?k1 ?k2 ?k3 ?k4 ?k5 ?kA ?kF ?kK ?k6 ?k7 ?k8 ?k9 ?kB ?kD ?_ ?c2 ?c3 ?c4; (case kA => exact rfl); (case kF => assumption); (case kK => assumption); (case k1 => k_asm); (case k2 => k_asm); (case k3 => k_asm); (case k4 => k_asm); (case k5 => k_asm); (case k6 => k_is); (case k7 => k_is); (case k8 => k_room); (case k9 => first | exact bnd3 "root" "one" "other" rfl | exact binds_K (by k_in) rfl (by k_is) rfl rfl rfl); (case kB => exact rfl); (case kD => decide +kernel); (case c2 => exact rfl); (case c3 => exact rfl); (case c4 => exact rfl); k_whole; intro _ _ _ _ _ _ _ zzN zzY _ _ _ zzl; (have lc1 := fun p hp => Nat.ne_of_lt (Nat.lt_add_right 1 (zzl p hp))); (have lc2 := fun p hp => Nat.ne_of_lt (Nat.lt_add_right 1 (Nat.lt_add_right 1 (zzl p hp)))); (try k_lt zzl); k_cells zzY; (try simp only [List.cons_append, List.nil_append] at zzN); (try dsimp only); (try (refine foldL ?_; intro kQ kE))))
  k_steps
  rename Fr _ _ _ _ => F2
  rename News _ _ _ _ => N2
  rename Below _ _ (_ :: _) _ => B2
  rename Frag.In _ _ => X2
  rename Top _ _ _ _ _ _ => T2
  have lim : n ≤ 200 := by simp only [recursionLimit] at hd; (first | (law_clear; lia) | lia | omega)
  refine Tell.use (layout_panes w n t _ hn (tin.all fun q hq => .tail _ hq)) B2 F2 X2 N2 T2 rfl rfl (by (first | exact rm1 hd (Nat.le_of_ble_eq_true rfl) | exact rm2 hd (Nat.le_of_ble_eq_true rfl) | (dsimp only; (first | (law_clear; lia) | lia | omega)))) (by (first | exact ru1 hu (Nat.le_of_ble_eq_true rfl) | exact ru2 hu (Nat.le_of_ble_eq_true rfl) | (dsimp only; (first | (law_clear; lia) | lia | omega)))) ?_
  intro kQ kM
  intro N3 il its ie hil hints inew sub3 h3 tk3 F3 N3'
  clear F2 N2
  have hcm := sub3 _ (.head _)
  have sub0 : ∀ q ∈ N₀, q ∈ N3 := fun q hq => sub3 _ (.tail _ hq)
  k_steps
  rename News _ _ _ _ => N4
  refine notin_list_ints (News.isList N4 hil) hints ?_
  rw [show (t.panes.any fun x => x == a) = decide (a ∈ t.panes) by rw [Bool.eq_iff_iff]; simp]
  by_cases ha : a ∈ t.panes
  · rw [decide_eq_true ha]
    (try dsimp only)
    k_steps
    rename News _ _ _ _ => N5
    refine notin_list_ints (News.isList N5 hil) hints ?_
    rw [show (t.panes.any fun x => x == b) = decide (b ∈ t.panes) by rw [Bool.eq_iff_iff]; simp]
    by_cases hb : b ∈ t.panes
    · rw [decide_eq_true hb]
      (try dsimp only)
      k_steps
      rename Fr _ _ _ _ => F6
      rename News _ _ _ _ => N6
      refine (?_ : wpAny _ _ _ _ _ _)
      with_reducible refine' kdn_eval (knd := PySem.intKind _ _) F6 N6 ?b1 ?b2 ?b3 (List.cons_ne_nil _ _) ?b4 ?_
      case b1 => exact Top.nolimit (by k_asm)
      case b2 => rfl
      case b3 => rfl
      case b4 => decide
      intro td h7 to F7 N7 l7 lo7 hd7
      clear F6 N6
      k_steps
      change KdnMade _ _ _ _ _ _ _
      refine made_int F7 N7 (UpdF.head (fun p hp => Nat.ne_of_lt (l7 p hp))) hd7 (by rfl) ?_
      intro h8 o8 F8 N8 hd8
      clear F7 N7
      rw [show intKeyPairs [(Value.int a ta, Value.int b tb), (Value.int b tb, Value.int a ta)] = [(a, Value.int b tb), (b, Value.int a ta)] from rfl] at hd8
      refine letG ?_
      intro kG
      obtain ⟨NW, N9, wn, keepW, subW⟩ := focus3 (N₀ := N₀) N8 (.tail _ hcm) (fun q hq => .tail _ (sub0 _ hq)) (by assumption)
      k_unfold
      clear kG
      have htd := keepW _ (.head _) (Ne.symm (Nat.ne_of_lt (l7 _ hcm)))
      have hilW := keepW _ (.tail _ hil) (Ne.symm (inew _ (.head _)))
      clear N8
      (try dsimp only)
      k_steps
      rename Fr _ _ _ _ => F10
      rename News _ _ _ (_ :: _) => N10
      refine letG ?_
      intro kG
      obtain ⟨NB, N11, hcB, subB⟩ := open_led0 N10
      k_unfold
      clear kG
      clear N10
      have htB := subB _ htd
      have hiB := subB _ hilW
      have pl : t.panes.length ≤ 200 := by
        have h1 := T.leaves_len t
        rw [T.panes, List.length_map]
        (first | (law_clear; lia) | lia | omega)
      refine comp_led rfl F10 N11 hiB ?_ (fun rr ys M => Ex2 fun (dn rp : List Int) => And4 (t.panes = dn ++ rp) (IntsAre rr rp) (IntsAre ys (dn.map (swapI a b))) (∀ q ∈ NB, q ∈ M))
        ⟨[], t.panes, rfl, hints, .nil, fun _ h => h⟩ (fun rr ys M h => by obtain ⟨dn, rp, h1, h2, h3, h4⟩ := h; exact h4 _ hiB) ?_ ?_
      · rw [hints.length, sizeLine_eq]
        (first | (law_clear; lia) | lia | omega)
      · intro v rr ys M I oI C oC D m₂ h12 tk12 E' HI hC hx F12 N12 off ne
        (try (refine foldL ?_; intro kQ kE))
        refine letG ?_
        intro kG
        obtain ⟨dn, rp, hps, hv, hys, hM⟩ := HI
        k_unfold
        clear kG
        cases hv with | cons n1 u1 hv =>
        rename_i rp'
        clear F10 N11
        have hcM := hM _ hcB
        have htM := hM _ htB
        k_steps
        refine halt (kdg_method (knd := PySem.intKind _ _) N12 (.tail _ (.tail _ (.tail _ htM))) hd8 ?_)
        (try dsimp only)
        k_steps
        refine halt (kdg_get2 (knd := PySem.intKind _ _) N12 (.tail _ (.tail _ (.tail _ htM))) hd8 lo7 (intKind_is _ _ _ _) _ (swap_value a b n1 ta tb) ?_)
        obtain ⟨vt, hvt⟩ : ∃ vt, (if n1 = b then some (Value.int a ta) else if n1 = a then some (Value.int b tb) else none).getD (Value.int n1 u1) = Value.int (swapI a b n1) vt := by
          unfold swapI
          by_cases h1 : n1 = b
          · subst h1
            by_cases h2 : n1 = a
            · subst h2; exact ⟨ta, by simp⟩
            · exact ⟨ta, by simp [h2]⟩
          · by_cases h2 : n1 = a
            · subst h2; exact ⟨tb, by simp [h1]⟩
            · exact ⟨u1, by simp [h1, h2]⟩
        rw [hvt]
        (try dsimp only)
        k_steps
        refine CPost.same F12 N12 off ⟨dn ++ [n1], rp', by simp [hps], hv, ?_, hM⟩
        rw [List.map_append]
        exact hys.append (.cons _ _ .nil)
      · rintro ys M g ⟨dn, rp, hps, hv, hys, hM⟩
        have : rp = [] := by cases hv; rfl
        subst this
        rw [List.append_nil] at hps
        unfold LCg.FinE
        intro D h14 tk14 F14 N14 o1
        clear F10 N11
        k_steps
        rename Fr _ _ _ _ => F15
        rename News _ _ _ _ => N15
        refine Tell.use (layout_renumbered w n t _ D ys (t.panes.map (swapI a b)) _ hn (tin.all fun q hq => .tail _ (hM _ (subB _ (subW _ hq)))) (.head _) (hps ▸ hys) (by rw [List.length_map, T.panes, List.length_map])) B2 F15 X2 N15 T2 rfl rfl (by (first | exact rm1 hd (Nat.le_of_ble_eq_true rfl) | exact rm2 hd (Nat.le_of_ble_eq_true rfl) | (dsimp only; (first | (law_clear; lia) | lia | omega)))) (by (first | exact ru1 hu (Nat.le_of_ble_eq_true rfl) | exact ru2 hu (Nat.le_of_ble_eq_true rfl) | (dsimp only; (first | (law_clear; lia) | lia | omega)))) ?_
        intro kQ kM
        rintro N16 t' ⟨in16, new16, nd16, sub16⟩ ar16 sz16 h16 tk16 F16 N16'
        clear F15 N15
        k_steps
        have subE : ∀ q ∈ N₀, q ∈ N16 := fun q hq => sub16 _ (.tail _ (hM _ (subB _ (subW _ hq))))
        refine ret _ _ ⟨subE, ?_⟩ _ _ (by k_asm) (by k_asm)
        rw [if_pos ⟨ha, hb⟩]
        exact ⟨t', rfl, ⟨in16, fun a ha => (new16 a ha).sub fun q hq => .tail _ (hM _ (subB _ (subW _ hq))), nd16, subE⟩, ar16, sz16⟩
    · rw [decide_eq_false hb]
      (try dsimp only)
      k_steps
      exact ret _ _ ⟨sub0, by rw [if_neg (fun h => hb h.2)]⟩ _ _ (by k_asm) (by k_asm)
  · rw [decide_eq_false ha]
    (try dsimp only)
    k_steps
    exact ret _ _ ⟨sub0, by rw [if_neg (fun h => ha h.1)]⟩ _ _ (by k_asm) (by k_asm)
example : True := by
  k_with_none
  trivial
end
noncomputable def rotL (b : Bool) (ns : List Int) : List Int := if b then ns.drop 1 ++ ns.take 1 else ns.drop (ns.length - 1) ++ ns.take (ns.length - 1)
theorem rotL_len (b : Bool) (ns : List Int) : (rotL b ns).length = ns.length := by
  cases b <;> simp only [rotL, Bool.false_eq_true, if_true, if_false, List.length_append, List.length_drop, List.length_take] <;> first | exact mn1 _ | exact mn2 _
section
variable {prog : Program} {w : World} {A : Around} {E : Value → Shared → Prop} {h₀ h : Heap} {L l : Addr} {m : Str → Option Value} {news : List (Addr × Obj)} {value slice : PySem.Expr} {xs zs : List Value} {vl vu : Value} {lo hi : Option Int} {Q : Value → Shared → Prop} {n : Nat}
theorem slice_led {gn dr tk os} (F : Fr h₀ L h m) (N : News h₀ L h news) (hm : (l, listOf xs.toArray n) ∈ news) (pl : IsPart vl lo) (pu : IsPart vu hi) (e : (slicePick xs.toArray lo hi none).toList = zs)
    (hq : ∀ D h', Fr h₀ L h' m → News h₀ L h' ((D, listOf zs.toArray 0) :: news) → (∀ p ∈ news, p.1 < D) → Q (.ref D) ⟨h', gn, dr, tk, os⟩)
    (hs : subscripted slice false (.ref l) (.ref h.objs.size) = operate [.ref h.objs.size, .ref l] (getItem (.ref l) (.ref h.objs.size))) (ht : ∀ r, letTemporaryGo value (.ref l) r = pure ()) (hz : xs.length ≤ sizeLine) :
    Halt (wpAny (model prog w) A (subscriptTail value slice (.ref l) (.ref h.objs.size)) Q E ⟨h.push { cls := .type "slice", data := .fields #[vl, vu, .none] }, gn, dr, tk, os⟩) :=
  kmk_slice_lit (s := ⟨h, gn, dr, tk, os⟩) F N ⟨_, (N _ hm).1, rfl, _, rfl⟩ pl pu e hq hs ht (by simpa using hz)
end
theorem mx0 (a b : Nat) : max 0 (min (a : Int) b) = ((min a b : Nat) : Int) := by
  rcases Nat.le_total a b with h | h
  · rw [Nat.min_eq_left h, Int.min_eq_left (Int.ofNat_le.mpr h)]
    exact Int.max_eq_right (Int.natCast_nonneg _)
  · rw [Nat.min_eq_right h, Int.min_eq_right (Int.ofNat_le.mpr h)]
    exact Int.max_eq_right (Int.natCast_nonneg _)
theorem pick_dropk (k : Nat) (xs : List Value) : (slicePick xs.toArray (some (k : Int)) none none).toList = xs.drop k := by
  have e : sliceBounds (some (k : Int)) none none xs.toArray.size = (((min k xs.length : Nat) : Int), ((xs.length : Nat) : Int), 1) := by
    simp only [sliceBounds, Option.getD_none, List.size_toArray, show (1 : Int) > 0 by decide, if_true, if_neg (Int.not_lt.mpr (Int.natCast_nonneg k))]
    exact Prod.ext (mx0 _ _) rfl
  rw [kmk_pick_nat _ e]
  show (xs.drop (min k xs.length)).take (xs.length - min k xs.length) = _
  rw [kmk_drop_min, List.take_of_length_le]
  rw [List.length_drop]
  exact Nat.sub_le_sub_left (Nat.min_le_left _ _) _
theorem pick_take (k : Nat) (xs : List Value) : (slicePick xs.toArray none (some (k : Int)) none).toList = xs.take k := by
  have e : sliceBounds none (some (k : Int)) none xs.toArray.size = (((0 : Nat) : Int), ((min k xs.length : Nat) : Int), 1) := by
    simp only [sliceBounds, Option.getD_none, List.size_toArray, show (1 : Int) > 0 by decide, if_true, if_neg (Int.not_lt.mpr (Int.natCast_nonneg k))]
    exact Prod.ext rfl (Prod.ext (mx0 _ _) rfl)
  rw [kmk_pick_nat _ e]
  show (xs.drop 0).take (min k xs.length - 0) = _
  rw [List.drop_zero, Nat.sub_zero, kmk_take_min]
theorem pick_from (xs : List Value) : (slicePick xs.toArray (some 1) none none).toList = xs.drop 1 := pick_dropk 1 xs
theorem pick_upto (xs : List Value) : (slicePick xs.toArray none (some 1) none).toList = xs.take 1 := pick_take 1 xs
theorem mx1 (n : Nat) : max 0 (min (-1 + (n : Int)) n) = ((n - 1 : Nat) : Int) := by
  cases n with
  | zero => rfl
  | succ n =>
    rw [show (-1 : Int) + ((n + 1 : Nat) : Int) = (n : Int) from by rw [Int.natCast_succ, Int.add_comm, Int.add_neg_cancel_right]]
    exact mx0 n (n + 1) |>.trans (congrArg _ (Nat.min_eq_left (Nat.le_succ n)))
theorem pick_last (xs : List Value) : (slicePick xs.toArray (some (-1)) none none).toList = xs.drop (xs.length - 1) := by
  have e : sliceBounds (some (-1)) none none xs.toArray.size = (((xs.length - 1 : Nat) : Int), ((xs.length : Nat) : Int), 1) := by
    simp only [sliceBounds, Option.getD_none, List.size_toArray, show (1 : Int) > 0 by decide, if_true, show (-1 : Int) < 0 by decide]
    exact Prod.ext (mx1 _) rfl
  rw [kmk_pick_nat _ e]
  show (xs.drop (xs.length - 1)).take (xs.length - (xs.length - 1)) = _
  rw [List.take_of_length_le]
  rw [List.length_drop]
  exact Nat.le_refl _
theorem pick_init (xs : List Value) : (slicePick xs.toArray none (some (-1)) none).toList = xs.take (xs.length - 1) := by
  have e : sliceBounds none (some (-1)) none xs.toArray.size = (((0 : Nat) : Int), ((xs.length - 1 : Nat) : Int), 1) := by
    simp only [sliceBounds, Option.getD_none, List.size_toArray, show (1 : Int) > 0 by decide, if_true, show (-1 : Int) < 0 by decide]
    exact Prod.ext rfl (Prod.ext (mx1 _) rfl)
  rw [kmk_pick_nat _ e]
  show (xs.drop 0).take (xs.length - 1 - 0) = _
  rw [List.drop_zero, Nat.sub_zero]
section
example : True := by
  k_with "subscriptTail Name Slice ref ref" => (refine halt ?_)
  k_with "subscriptTail" => (refine halt ?_)
  trivial
theorem rotate_panes2 (w : World) (n : Nat) (t : T) (N₀ : Led) (b : Bool) (hn : t.sz ≤ n) (tin : t.In w N₀) :
    Tell w 174 [.ref t.adr, .bool b] (5 * n + 80) N₀ (RenK w N₀ (fill t.areas (rotL b t.panes)) n) := by
  unfold Tell
  intro cx A₀ base h₀ L m mean mg mb s Q E B hf hk F X N TT hd hu ret
  (refine wpAny_call ?_; k_dflt (refine' code_def ?k1 ?k2 ?k3 ?k4 ?k5 ?kA ?kF ?kK ?k6 ?k7 ?k8 ?k9 ?kB ?_ ?c2 ?c3 ?c4 ?c5; (case kA => exact rfl); (case kF => assumption); (case kK => assumption); (case k1 => k_asm); (case k2 => k_asm); (case k3 => k_asm); (case k4 => k_asm); (case k5 => k_asm); (case k6 => k_is); (case k7 => k_is); (case k8 => k_room); (case k9 => exact binds_K (by k_in) rfl (by k_is) rfl rfl rfl); (case c5 => decide); (case kB => exact locs rfl); (case c2 => exact rfl); (case c3 => exact rfl); (case c4 => exact rfl); k_whole; intro _ _ _ _ _ _ _ _ _; (try dsimp only); (try (refine foldL ?_; intro kQ kE))))
  k_steps
  rename Fr _ _ _ _ => F2
  rename News _ _ _ _ => N2
  rename Below _ _ (_ :: _) _ => B2
  rename Frag.In _ _ => X2
  rename Top _ _ _ _ _ _ => T2
  have lim : n ≤ 200 := by simp only [recursionLimit] at hd; (first | (law_clear; lia) | lia | omega)
  refine Tell.use (layout_panes w n t _ hn tin) B2 F2 X2 N2 T2 rfl rfl (by (first | exact rm1 hd (Nat.le_of_ble_eq_true rfl) | exact rm2 hd (Nat.le_of_ble_eq_true rfl) | (dsimp only; (first | (law_clear; lia) | lia | omega)))) (by (first | exact ru1 hu (Nat.le_of_ble_eq_true rfl) | exact ru2 hu (Nat.le_of_ble_eq_true rfl) | (dsimp only; (first | (law_clear; lia) | lia | omega)))) ?_
  intro kQ kM
  intro N3 il its ie hil hints inew sub3 h3 tk3 F3 N3'
  clear F2 N2
  have pl : its.length ≤ 200 := by
    have h1 := T.leaves_len t
    rw [hints.length, T.panes, List.length_map]
    (first | (law_clear; lia) | lia | omega)
  k_steps
  · rename _ = _ => hbb
    subst hbb
    rename Fr _ _ _ _ => F4
    rename News _ _ _ _ => N4
    (try dsimp only)
    refine slice_led F4 N4 hil (.int _ _) .none (pick_from its) ?_ (by with_unfolding_all rfl) (by kmk_pure) (by rw [sizeLine_eq]; (first | (law_clear; lia) | lia | omega))
    intro D1 h5 F5 N5 l5
    clear F4 N4
    k_steps
    rename Fr _ _ _ _ => F4
    rename News _ _ _ _ => N4
    (try dsimp only)
    refine slice_led F4 N4 (.tail _ hil) .none (.int _ _) (pick_upto its) ?_ (by with_unfolding_all rfl) (by kmk_pure) (by rw [sizeLine_eq]; (first | (law_clear; lia) | lia | omega))
    intro D2 h6 F6 N6 l6
    clear F4 N4
    k_steps
    rename Fr _ _ _ _ => F4
    rename News _ _ _ _ => N4
    refine add_led F4 N4 (.tail _ (.head _)) (.head _) (by simp only [List.length_drop, List.length_take, mn1, mn2]; rw [sizeLine_eq]; (first | (law_clear; lia) | lia | omega)) ?_
    intro D3 h7 F7 N7 l7
    clear F4 N4
    k_steps
    rename Fr _ _ _ _ => F8
    rename News _ _ _ _ => N8
    have sub8 : ∀ q ∈ N₀, ∀ x y z, q ∈ x :: y :: z :: N3 := fun q hq x y z => .tail _ (.tail _ (.tail _ (sub3 _ hq)))
    refine Tell.use (layout_renumbered w n t _ D3 _ (rotL true t.panes) _ hn (tin.all fun q hq => sub8 q hq _ _ _) (.head _) ?_ (by rw [rotL_len, T.panes, List.length_map])) B2 F8 X2 N8 T2 rfl rfl (by (first | exact rm1 hd (Nat.le_of_ble_eq_true rfl) | exact rm2 hd (Nat.le_of_ble_eq_true rfl) | (dsimp only; (first | (law_clear; lia) | lia | omega)))) (by (first | exact ru1 hu (Nat.le_of_ble_eq_true rfl) | exact ru2 hu (Nat.le_of_ble_eq_true rfl) | (dsimp only; (first | (law_clear; lia) | lia | omega)))) ?_
    · rw [rotL]
      simp only [Bool.false_eq_true, if_true, if_false]
      first | exact (hints.drop _).append (hints.take _) | (rw [← hints.length]; exact (hints.drop _).append (hints.take _))
    intro kQ kM
    rintro N16 t' ⟨in16, new16, nd16, sub16⟩ ar16 sz16 h16 tk16 F16 N16'
    clear F8 N8
    k_steps
    exact ret _ t' ⟨in16, fun a ha => (new16 a ha).sub fun q hq => sub8 q hq _ _ _, nd16, fun q hq => sub16 _ (sub8 q hq _ _ _)⟩ ar16 sz16 _ _ (by k_asm) (by k_asm)
  · rename _ = _ => hbb
    subst hbb
    rename Fr _ _ _ _ => F4
    rename News _ _ _ _ => N4
    (try dsimp only)
    refine slice_led F4 N4 hil (.int _ _) .none (pick_last its) ?_ (by with_unfolding_all rfl) (by kmk_pure) (by rw [sizeLine_eq]; (first | (law_clear; lia) | lia | omega))
    intro D1 h5 F5 N5 l5
    clear F4 N4
    k_steps
    rename Fr _ _ _ _ => F4
    rename News _ _ _ _ => N4
    (try dsimp only)
    refine slice_led F4 N4 (.tail _ hil) .none (.int _ _) (pick_init its) ?_ (by with_unfolding_all rfl) (by kmk_pure) (by rw [sizeLine_eq]; (first | (law_clear; lia) | lia | omega))
    intro D2 h6 F6 N6 l6
    clear F4 N4
    k_steps
    rename Fr _ _ _ _ => F4
    rename News _ _ _ _ => N4
    refine add_led F4 N4 (.tail _ (.head _)) (.head _) (by simp only [List.length_drop, List.length_take, mn1, mn2]; rw [sizeLine_eq]; (first | (law_clear; lia) | lia | omega)) ?_
    intro D3 h7 F7 N7 l7
    clear F4 N4
    k_steps
    rename Fr _ _ _ _ => F8
    rename News _ _ _ _ => N8
    have sub8 : ∀ q ∈ N₀, ∀ x y z, q ∈ x :: y :: z :: N3 := fun q hq x y z => .tail _ (.tail _ (.tail _ (sub3 _ hq)))
    refine Tell.use (layout_renumbered w n t _ D3 _ (rotL false t.panes) _ hn (tin.all fun q hq => sub8 q hq _ _ _) (.head _) ?_ (by rw [rotL_len, T.panes, List.length_map])) B2 F8 X2 N8 T2 rfl rfl (by (first | exact rm1 hd (Nat.le_of_ble_eq_true rfl) | exact rm2 hd (Nat.le_of_ble_eq_true rfl) | (dsimp only; (first | (law_clear; lia) | lia | omega)))) (by (first | exact ru1 hu (Nat.le_of_ble_eq_true rfl) | exact ru2 hu (Nat.le_of_ble_eq_true rfl) | (dsimp only; (first | (law_clear; lia) | lia | omega)))) ?_
    · rw [rotL]
      simp only [Bool.false_eq_true, if_true, if_false]
      first | exact (hints.drop _).append (hints.take _) | (rw [← hints.length]; exact (hints.drop _).append (hints.take _))
    intro kQ kM
    rintro N16 t' ⟨in16, new16, nd16, sub16⟩ ar16 sz16 h16 tk16 F16 N16'
    clear F8 N8
    k_steps
    exact ret _ t' ⟨in16, fun a ha => (new16 a ha).sub fun q hq => sub8 q hq _ _ _, nd16, fun q hq => sub16 _ (sub8 q hq _ _ _)⟩ ar16 sz16 _ _ (by k_asm) (by k_asm)
theorem rotate_panes1 (w : World) (n : Nat) (t : T) (N₀ : Led) (hn : t.sz ≤ n) (tin : t.In w N₀) :
    Tell w 174 [.ref t.adr] (5 * n + 80) N₀ (RenK w N₀ (fill t.areas (rotL false t.panes)) n) := by
  unfold Tell
  intro cx A₀ base h₀ L m mean mg mb s Q E B hf hk F X N TT hd hu ret
  (refine wpAny_call ?_; k_dflt (refine' code_def ?k1 ?k2 ?k3 ?k4 ?k5 ?kA ?kF ?kK ?k6 ?k7 ?k8 ?k9 ?kB ?_ ?c2 ?c3 ?c4 ?c5; (case kA => exact rfl); (case kF => assumption); (case kK => assumption); (case k1 => k_asm); (case k2 => k_asm); (case k3 => k_asm); (case k4 => k_asm); (case k5 => k_asm); (case k6 => k_is); (case k7 => k_is); (case k8 => k_room); (case k9 => exact binds_K (by k_in) rfl (by k_is) rfl rfl rfl); (case c5 => decide); (case kB => exact locs rfl); (case c2 => exact rfl); (case c3 => exact rfl); (case c4 => exact rfl); k_whole; intro _ _ _ _ _ _ _ _ _; (try dsimp only); (try (refine foldL ?_; intro kQ kE))))
  k_steps
  rename Fr _ _ _ _ => F2
  rename News _ _ _ _ => N2
  rename Below _ _ (_ :: _) _ => B2
  rename Frag.In _ _ => X2
  rename Top _ _ _ _ _ _ => T2
  have lim : n ≤ 200 := by simp only [recursionLimit] at hd; (first | (law_clear; lia) | lia | omega)
  refine Tell.use (layout_panes w n t _ hn tin) B2 F2 X2 N2 T2 rfl rfl (by (first | exact rm1 hd (Nat.le_of_ble_eq_true rfl) | exact rm2 hd (Nat.le_of_ble_eq_true rfl) | (dsimp only; (first | (law_clear; lia) | lia | omega)))) (by (first | exact ru1 hu (Nat.le_of_ble_eq_true rfl) | exact ru2 hu (Nat.le_of_ble_eq_true rfl) | (dsimp only; (first | (law_clear; lia) | lia | omega)))) ?_
  intro kQ kM
  intro N3 il its ie hil hints inew sub3 h3 tk3 F3 N3'
  clear F2 N2
  have pl : its.length ≤ 200 := by
    have h1 := T.leaves_len t
    rw [hints.length, T.panes, List.length_map]
    (first | (law_clear; lia) | lia | omega)
  k_steps
  · rename Fr _ _ _ _ => F4
    rename News _ _ _ _ => N4
    (try dsimp only)
    refine slice_led F4 N4 hil (.int _ _) .none (pick_last its) ?_ (by with_unfolding_all rfl) (by kmk_pure) (by rw [sizeLine_eq]; (first | (law_clear; lia) | lia | omega))
    intro D1 h5 F5 N5 l5
    clear F4 N4
    k_steps
    rename Fr _ _ _ _ => F4
    rename News _ _ _ _ => N4
    (try dsimp only)
    refine slice_led F4 N4 (.tail _ hil) .none (.int _ _) (pick_init its) ?_ (by with_unfolding_all rfl) (by kmk_pure) (by rw [sizeLine_eq]; (first | (law_clear; lia) | lia | omega))
    intro D2 h6 F6 N6 l6
    clear F4 N4
    k_steps
    rename Fr _ _ _ _ => F4
    rename News _ _ _ _ => N4
    refine add_led F4 N4 (.tail _ (.head _)) (.head _) (by simp only [List.length_drop, List.length_take, mn1, mn2]; rw [sizeLine_eq]; (first | (law_clear; lia) | lia | omega)) ?_
    intro D3 h7 F7 N7 l7
    clear F4 N4
    k_steps
    rename Fr _ _ _ _ => F8
    rename News _ _ _ _ => N8
    have sub8 : ∀ q ∈ N₀, ∀ x y z, q ∈ x :: y :: z :: N3 := fun q hq x y z => .tail _ (.tail _ (.tail _ (sub3 _ hq)))
    refine Tell.use (layout_renumbered w n t _ D3 _ (rotL false t.panes) _ hn (tin.all fun q hq => sub8 q hq _ _ _) (.head _) ?_ (by rw [rotL_len, T.panes, List.length_map])) B2 F8 X2 N8 T2 rfl rfl (by (first | exact rm1 hd (Nat.le_of_ble_eq_true rfl) | exact rm2 hd (Nat.le_of_ble_eq_true rfl) | (dsimp only; (first | (law_clear; lia) | lia | omega)))) (by (first | exact ru1 hu (Nat.le_of_ble_eq_true rfl) | exact ru2 hu (Nat.le_of_ble_eq_true rfl) | (dsimp only; (first | (law_clear; lia) | lia | omega)))) ?_
    · rw [rotL]
      simp only [Bool.false_eq_true, if_true, if_false]
      first | exact (hints.drop _).append (hints.take _) | (rw [← hints.length]; exact (hints.drop _).append (hints.take _))
    intro kQ kM
    rintro N16 t' ⟨in16, new16, nd16, sub16⟩ ar16 sz16 h16 tk16 F16 N16'
    clear F8 N8
    k_steps
    exact ret _ t' ⟨in16, fun a ha => (new16 a ha).sub fun q hq => sub8 q hq _ _ _, nd16, fun q hq => sub16 _ (sub8 q hq _ _ _)⟩ ar16 sz16 _ _ (by k_asm) (by k_asm)
example : True := by
  k_with_none
  trivial
end
inductive W4 where
  | left
  | right
  | up
  | down
noncomputable abbrev W4.str : W4 → Str
  | .left => Str.ofString "left"
  | .right => Str.ofString "right"
  | .up => Str.ofString "up"
  | .down => Str.ofString "down"
noncomputable def W4.beside : W4 → Area → Area → Bool
  | .left, h, l => l.x + l.w + 1 == h.x
  | .right, h, l => h.x + h.w + 1 == l.x
  | .up, h, l => l.y + l.h + 1 == h.y
  | .down, h, l => h.y + h.h + 1 == l.y
noncomputable def W4.meets : W4 → Area → Area → Bool
  | .left, h, l => decide (l.y < h.y + h.h) && decide (h.y < l.y + l.h)
  | .right, h, l => decide (l.y < h.y + h.h) && decide (h.y < l.y + l.h)
  | .up, h, l => decide (l.x < h.x + h.w) && decide (h.x < l.x + l.w)
  | .down, h, l => decide (l.x < h.x + h.w) && decide (h.x < l.x + l.w)
noncomputable def neigh (wd : W4) (h : Area) (as : List Area) : List Int := (as.filter fun l => wd.beside h l && wd.meets h l).map Area.pane
namespace T
mutual
theorem path_find : ∀ (t : T) (p : Int) (l : List T), t.path p = some l → ∃ as c, l = as ++ [c] ∧ t.leaves.find? (fun q => decide (q.num = p)) = some c
  | mk a d l0 k w h x y ps, p, l, hl => by
    cases k with
    | pane q =>
      simp only [path] at hl
      split at hl
      · rename_i e
        obtain rfl := Option.some.inj hl
        exact ⟨[], _, rfl, by simp [leaves, num, kin, e]⟩
      · cases hl
    | row =>
      simp only [path] at hl
      refine letG ?_
      intro kG
      obtain ⟨l', h1, rfl⟩ := Option.map_eq_some_iff.mp hl
      k_unfold
      clear kG
      refine letG ?_
      intro kG
      obtain ⟨as, c, rfl, hc⟩ := pathL_find ps p l' h1
      k_unfold
      clear kG
      exact ⟨_ :: as, c, rfl, by simpa only [leaves] using hc⟩
    | col =>
      simp only [path] at hl
      refine letG ?_
      intro kG
      obtain ⟨l', h1, rfl⟩ := Option.map_eq_some_iff.mp hl
      k_unfold
      clear kG
      refine letG ?_
      intro kG
      obtain ⟨as, c, rfl, hc⟩ := pathL_find ps p l' h1
      k_unfold
      clear kG
      exact ⟨_ :: as, c, rfl, by simpa only [leaves] using hc⟩
theorem pathL_find : ∀ (ps : List T) (p : Int) (l : List T), pathL ps p = some l → ∃ as c, l = as ++ [c] ∧ (leavesL ps).find? (fun q => decide (q.num = p)) = some c
  | [], p, l, hl => by simp [pathL] at hl
  | q :: r, p, l, hl => by
    rw [pathL] at hl
    cases hq : q.path p with
    | some l' =>
      rw [hq] at hl
      obtain rfl := Option.some.inj hl
      refine letG ?_
      intro kG
      obtain ⟨as, c, rfl, hc⟩ := path_find q p l' hq
      k_unfold
      clear kG
      exact ⟨as, c, rfl, by rw [leavesL, List.find?_append, hc]; rfl⟩
    | none =>
      rw [hq] at hl
      refine letG ?_
      intro kG
      obtain ⟨as, c, rfl, hc⟩ := pathL_find r p l hl
      k_unfold
      clear kG
      refine ⟨as, c, rfl, ?_⟩
      rw [leavesL, List.find?_append, hc]
      have h1 := (path_none q p).mp hq
      rw [panes_er, panes] at h1
      have : q.leaves.find? (fun q => decide (q.num = p)) = none := by
        rw [List.find?_eq_none]
        intro x hx
        simp only [decide_eq_true_eq]
        exact fun e => h1 (List.mem_map.mpr ⟨x, hx, e⟩)
      rw [this]
      rfl
end
end T
theorem name_lt {a : Addr} {N : Led} (h : ∀ p ∈ N, p.1 < a) : ∃ b, b = a ∧ ∀ p ∈ N, p.1 < b := ⟨a, rfl, h⟩
theorem open_led2 {h₀ h : Heap} {L : Addr} {a c : Addr × Obj} {N : Led} (n : News h₀ L h (a :: c :: N)) : ∃ NB, News h₀ L h NB ∧ c ∈ NB ∧ ∀ q ∈ N, q ∈ NB :=
  ⟨_, n, .tail _ (.head _), fun q hq => .tail _ (.tail _ hq)⟩
section
variable {prog : Program} {w : World} {A : Around} {E : Value → Shared → Prop} {s : Shared} {h₀ : Heap} {L : Addr} {m : Str → Option Value}
theorem append_led {D : Addr} {xs : List Value} {n : Nat} {N : Led} {x : Value} {Q : Value → Shared → Prop} (F : Fr h₀ L s.heap m) (n0 : News h₀ L s.heap N) (hm : (D, listOf xs.toArray n) ∈ N) (hz : xs.length < sizeLine)
    (h : ∀ h' n', Fr h₀ L h' m → News h₀ L h' ((D, listOf (xs ++ [x]).toArray n') :: wipe D N) → Q .none { s with heap := h' }) : wpAny (model prog w) A (call (.builtin "list.append") [.ref D, x]) Q E s := by
  refine append_K F (News.focus n0 hm) (.head wipe_ne) (fun h' F' N' => h h' (n + 1) F' ?_) (by simp; (first | (law_clear; lia) | lia | omega))
  rw [show (xs ++ [x]).toArray = xs.toArray.push x by simp]
  exact N'
end
noncomputable def NeighPost (w : World) (N₀ : Led) (t : T) (p : Int) (wd : W4) (r : Value) (N' : Led) : Prop := (∀ q ∈ N₀, q ∈ N') ∧
  if p ∈ t.panes then ∃ l its e c, r = .ref l ∧ (l, listOf its.toArray e) ∈ N' ∧ t.leaves.find? (fun q => decide (q.num = p)) = some c ∧ IntsAre its (neigh wd c.area t.areas) ∧ New N₀ l else r = .none
section
example : True := by
  k_with "call builtin:list.append" => (refine halt ?_)
  k_with "subscriptTail" => (refine halt ?_)
  k_with "KdnMade" => (refine halt ?_)
  k_with "eval Dict" => (refine halt ?_)
  k_with "subscriptTail Name UnaryOp ref int" => (refine halt ?_)
  trivial
theorem neighbours (w : World) (n : Nat) (t : T) (N₀ : Led) (p : Int) (tp : Tok) (wd : W4) (tw : Tok) (hn : t.sz ≤ n) (tin : t.In w N₀) :
    Tell w 181 [.ref t.adr, .int p tp, .str wd.str tw] (5 * n + 60) N₀ (PostK (NeighPost w N₀ t p wd)) := by
  unfold Tell
  intro cx A₀ base h₀ L m mean mg mb s Q E B hf hk F X N TT hd hu ret
  (refine wpAny_call ?_; k_dflt (refine' code_def ?k1 ?k2 ?k3 ?k4 ?k5 ?kA ?kF ?kK ?k6 ?k7 ?k8 ?k9 ?kB ?_ ?c2 ?c3 ?c4 ?c5; (case kA => exact rfl); (case kF => assumption); (case kK => assumption); (case k1 => k_asm); (case k2 => k_asm); (case k3 => k_asm); (case k4 => k_asm); (case k5 => k_asm); (case k6 => k_is); (case k7 => k_is); (case k8 => k_room); (case k9 => exact bnd3 "root" "pane" "word" rfl); (case c5 => decide); (case kB => exact locs rfl); (case c2 => exact rfl); (case c3 => exact rfl); (case c4 => exact rfl); k_whole; intro _ _ _ _ _ _ _ _ _; (try dsimp only); (try (refine foldL ?_; intro kQ kE))))
  k_steps
  rename Fr _ _ _ _ => F2
  rename News _ _ _ _ => N2
  rename Below _ _ (_ :: _) _ => B2
  rename Frag.In _ _ => X2
  rename Top _ _ _ _ _ _ => T2
  have lim : n ≤ 200 := by simp only [recursionLimit] at hd; (first | (law_clear; lia) | lia | omega)
  refine Tell.use (layout_path w p tp n t N₀ hn tin) B2 F2 X2 N2 T2 rfl rfl (by (first | exact rm1 hd (Nat.le_of_ble_eq_true rfl) | exact rm2 hd (Nat.le_of_ble_eq_true rfl) | (dsimp only; (first | (law_clear; lia) | lia | omega)))) (by (first | exact ru1 hu (Nat.le_of_ble_eq_true rfl) | exact ru2 hu (Nat.le_of_ble_eq_true rfl) | (dsimp only; (first | (law_clear; lia) | lia | omega)))) ?_
  intro kQ kM
  rintro r2 N2' ⟨hr, sub2⟩
  intro h2 tk2 F4 N4
  clear F2 N2
  cases hp : t.path p with
  | none =>
    rw [hp] at hr
    subst hr
    k_steps
    refine ret _ _ ⟨sub2, ?_⟩ _ _ (by k_asm) (by k_asm)
    rw [if_neg, ]
    rw [← T.panes_er]
    exact (T.path_none t p).mp hp
  | some pl =>
    rw [hp] at hr
    refine letG ?_
    intro kG
    obtain ⟨pa, pe, rfl, hpl, pnew⟩ := hr
    k_unfold
    clear kG
    refine letG ?_
    intro kG
    obtain ⟨as, c, rfl, hfind⟩ := T.path_find t p pl hp
    k_unfold
    clear kG
    have hpin : p ∈ t.panes := by
      by_cases h : p ∈ t.panes
      · exact h
      · rw [(T.path_none t p).mpr (by rw [T.panes_er]; exact h)] at hp; cases hp
    have plen := T.path_len t p _ hp
    rw [List.length_append, List.length_singleton] at plen
    have hcl : c ∈ t.leaves := List.mem_of_find?_eq_some hfind
    have hci : c.In w N2' := (T.leaves_in tin c hcl).all sub2
    have hcp := T.leaves_pane t c hcl
    unfold T.isPane at hcp
    k_steps
    rename News _ _ _ _ => N5
    refine letG ?_
    intro kG
    obtain ⟨t1', t2', t3', t4', t5', t6', t7', tk', tw', th', tx', ty', tp', e', hca, hcd, hcl2⟩ := hci.cell
    k_unfold
    clear kG
    refine halt (item_led (j := as.length) (v := .ref c.adr) N5 hpl (seqIndex_at (.inr ⟨by decide, by simp; (first | (law_clear; lia) | lia | omega)⟩) (by first | exact mem_mid _ _ _ | exact .head _ | exact .tail _ (.head _) | exact .tail _ (.tail _ (.head _)) | simp)) (by first | exact mem_mid _ _ _ | exact .head _ | exact .tail _ (.head _) | exact .tail _ (.tail _ (.head _)) | simp) (by decide) (by decide) ?_)
    (try dsimp only)
    k_steps
    rename Fr _ _ _ _ => F6
    rename News _ _ _ (_ :: _ :: _) => N6
    rename ∀ p ∈ N2', p.1 < _ => fl1
    refine letG ?_
    intro kG
    obtain ⟨fl, rfl, fl2⟩ := name_lt fl1
    k_unfold
    clear kG
    refine letG ?_
    intro kG
    obtain ⟨NB, N7, hfl, subB⟩ := open_led2 N6
    k_unfold
    clear kG
    clear N6 fl1
    refine Tell.use (layout_leaves w n t NB hn (tin.all fun q hq => subB _ (sub2 _ hq))) B2 F6 X2 N7 T2 rfl rfl (by (first | exact rm1 hd (Nat.le_of_ble_eq_true rfl) | exact rm2 hd (Nat.le_of_ble_eq_true rfl) | (dsimp only; (first | (law_clear; lia) | lia | omega)))) (by (first | exact ru1 hu (Nat.le_of_ble_eq_true rfl) | exact ru2 hu (Nat.le_of_ble_eq_true rfl) | (dsimp only; (first | (law_clear; lia) | lia | omega)))) ?_
    intro kQ kM
    intro N8 l2 e2 hl2 lt2 sub8 h8 tk8 F8 N8'
    clear F6 N7
    have llen := T.leaves_len t
    have subC : ∀ q ∈ N2', q ∈ N8 := fun q hq => sub8 _ (subB _ hq)
    have hfl8 := sub8 _ hfl
    have ffl : fl ≠ l2 := Nat.ne_of_lt (lt2 _ hfl)
    k_steps
    rename Fr _ _ _ _ => F9
    rename News _ _ _ _ => N9
    refine iter_ledS F9 N9 hl2 (by rfl) (by rfl) (by rfl) (by rfl) ["is_beside", "meets"] (fun av rest N => Ex6 fun (u v : Option Value) (dn rp : List T) (its : List Value) (e3 : Nat) => And6 (av = [u, v]) (t.leaves = dn ++ rp) (rest = (rp.map T.adr).map Value.ref) ((fl, listOf its.toArray e3) ∈ N) (IntsAre its (neigh wd c.area (dn.map T.area))) (∀ q ∈ N8, q.1 ≠ fl → q ∈ N))
      ⟨_, _, [], t.leaves, [], 0, rfl, rfl, rfl, hfl8, .nil, fun p hp _ => hp⟩ (fun av rest N h => by obtain ⟨u, v, dn, rp, its, e3, h0, h1, h2, h3, h4, h5⟩ := h; exact h5 _ hl2 (Ne.symm ffl)) ?_ ?_
    · intro av v rest N I it h tk HI hne hc F10 N10
      (try (refine foldL ?_; intro kQ kE))
      refine letG ?_
      intro kG
      obtain ⟨uu, vv, dn, rp, its, e3, rfl, hps, hv, hflN, hits, hN⟩ := HI
      k_unfold
      clear kG
      cases rp with
      | nil => simp at hv
      | cons q rp =>
      simp only [List.map_cons, List.cons.injEq] at hv
      obtain ⟨rfl, rfl⟩ := hv
      clear F9 N9
      have hql : q ∈ t.leaves := by rw [hps]; simp
      have hqi : q.In w N2' := (T.leaves_in tin q hql).all sub2
      have hqp := T.leaves_pane t q hql
      unfold T.isPane at hqp
      refine letG ?_
      intro kG
      obtain ⟨s1, s2, s3, s4, s5, s6, s7, sk, sw, sh, sx, sy, sp, se, hqa, hqd, hqll⟩ := hqi.cell
      k_unfold
      clear kG
      rw [hqp] at hqd
      dsimp only [kindV, paneV] at hqd
      have up1 : ∀ q ∈ N2', q ∈ N := fun q hq => hN _ (subC _ hq) (Nat.ne_of_lt (fl2 _ hq))
      have hqaN := up1 _ hqa
      have hqdN := up1 _ hqd
      have hcaN := up1 _ hca
      have hcdN := up1 _ hcd
      k_steps
      refine (?_ : wpAny _ _ _ _ _ _)
      with_reducible refine' kdn_eval (knd := PySem.strKind _ _) F10 N10 ?b1 ?b2 ?b3 (List.cons_ne_nil _ _) ?b4 ?_
      case b1 => exact Top.nolimit (by k_asm)
      case b2 => rfl
      case b3 => rfl
      case b4 => decide
      intro td h11 to F11 N11 l11 lo11 hd11
      clear F10 N10
      k_steps
      change KdnMade _ _ _ _ _ _ _
      refine kdn_made_str F11 N11 (UpdF.head (fun p hp => Nat.ne_of_lt (l11 p hp))) hd11 (by rfl) (of_decide_eq_true (by first | rfl | kernel_rfl!)) ?_
      intro h12 o12 F12 N12 hd12
      clear F11 N11
      (try dsimp only)
      k_steps
      refine halt (kdt_tail (knd := PySem.strKind _ _) N12 (.head _) hd12 (kdt_getItem (knd := PySem.strKind _ _) N12 (.head _) hd12 (strKind_is _ _ _ _) (v := .bool (wd.beside c.area q.area)) (by cases wd <;> rfl) ?_))
      have N13 := News.sub N12 (N' := (I, it) :: N) (fun p hp => .tail _ hp)
      clear N12 hd12
      obtain ⟨bb, hbb⟩ : ∃ bb, bb = wd.beside c.area q.area := ⟨_, rfl⟩
      rw [← hbb]
      (try dsimp only)
      have hfN : fl ≠ I := hne _ hflN
      have keepI : ∀ p ∈ N, p ∈ wipe I ((I, it) :: N) := fun p hp => mem_wipe (.tail _ hp) (hne _ hp)
      have itsl : its.length ≤ 200 := by
        have h1 := hits.length
        have h2 : (neigh wd c.area (dn.map T.area)).length ≤ dn.length := by
          unfold neigh
          rw [List.length_map]
          exact Nat.le_trans (List.length_filter_le _ _) (by first | exact mem_mid _ _ _ | exact .head _ | exact .tail _ (.head _) | exact .tail _ (.tail _ (.head _)) | simp)
        have h3 := congrArg List.length hps
        rw [List.length_append] at h3
        (first | (law_clear; lia) | lia | omega)
      have neighS : ∀ wd : W4, neigh wd c.area ((dn ++ [q]).map T.area) = neigh wd c.area (dn.map T.area) ++ if wd.beside c.area q.area && wd.meets c.area q.area then [q.num] else [] := by
        intro wd
        unfold neigh
        rw [List.map_append, List.filter_append, List.map_append, List.map_singleton]
        congr 1
        by_cases hh : (wd.beside c.area q.area && wd.meets c.area q.area) = true
        · rw [if_pos hh]; simp [hh]; rfl
        · rw [if_neg hh]; simp [eq_false_of_ne_true hh]
      cases wd
      all_goals k_steps
      all_goals first
        | (rename bb = true => hb1
           rename Fr _ _ _ _ => F14
           rename News _ _ _ (_ :: _ :: _) => N14
           refine halt (append_led F14 N14 (.tail _ (.tail _ hflN)) (by rw [sizeLine_eq]; (first | (law_clear; lia) | lia | omega)) ?_)
           intro h15 n15 F15 N15
           clear F14 N14
           (try dsimp only)
           k_steps
           refine LPostS.intro F15 N15 (.tail _ (mem_wipe (.tail _ (.head _)) (Ne.symm hfN))) ?_ ⟨_, _, dn ++ [q], rp, _, n15, rfl, by simp [hps], rfl, mem_wipe (.head _) hfN, ?_, fun p hp hpf => mem_wipe (.tail _ (mem_wipe (.tail _ (.tail _ (hN p hp hpf))) hpf)) (hne p (hN p hp hpf))⟩
           · intro z hz1 hz2
             simp only [List.mem_cons, List.not_mem_nil, or_false, not_or] at hz2
             simp +zetaDelta [up, ovl, hz1, hz2]
           · rw [neighS, if_pos]
             · exact hits.append (.cons _ _ .nil)
             · rw [← hbb]
               simp only [W4.meets, T.area, Bool.and_eq_true]
               exact ⟨hb1, decide_eq_true (by assumption), decide_eq_true (by assumption)⟩)
        | (rename Fr _ _ _ _ => F14
           rename News _ _ _ (_ :: _ :: _) => N14
           refine LPostS.intro F14 N14 (.tail _ (.head _)) ?_ ⟨_, _, dn ++ [q], rp, its, e3, rfl, by simp [hps], rfl, mem_wipe (.tail _ (.tail _ hflN)) hfN, ?_, fun p hp hpf => mem_wipe (.tail _ (.tail _ (hN p hp hpf))) (hne p (hN p hp hpf))⟩
           · intro z hz1 hz2
             simp only [List.mem_cons, List.not_mem_nil, or_false, not_or] at hz2
             simp +zetaDelta [up, ovl, hz1, hz2]
           · rw [neighS, if_neg, List.append_nil]
             · exact hits
             · rw [← hbb]
               simp only [W4.meets, T.area, Bool.and_eq_true]
               rintro ⟨a1, a2, a3⟩
               first
                 | exact absurd (of_decide_eq_true a3) (by assumption)
                 | exact absurd (of_decide_eq_true a2) (by assumption)
                 | (rename bb = false => hf0; exact Bool.noConfusion (hf0.symm.trans a1)))
    · intro av u N h tk HI F10 N10
      (try (refine foldL ?_; intro kQ kE))
      refine letG ?_
      intro kG
      obtain ⟨uu, vv, dn, rp, its, e3, rfl, hps, hv, hflN, hits, hN⟩ := HI
      k_unfold
      clear kG
      have : rp = [] := by cases rp with | nil => rfl | cons => simp at hv
      subst this
      rw [List.append_nil] at hps
      clear F9 N9
      k_steps
      refine ret _ _ ⟨fun q hq => hN _ (subC _ (sub2 _ hq)) (Nat.ne_of_lt (fl2 _ (sub2 _ hq))), ?_⟩ _ _ (by k_asm) (by k_asm)
      rw [if_pos hpin]
      refine ⟨fl, its, e3, c, rfl, hflN, hfind, ?_, fun q hq => Nat.ne_of_lt (fl2 _ (sub2 _ hq))⟩
      rw [T.areas_eq, hps]
      exact hits
example : True := by
  k_with_none
  trivial
end
namespace P
noncomputable def G (p : P) : Prop := p.Ok ∧ p.Sized
noncomputable def Fit (k : K) (w h : Int) (x : P) : Prop := x.G ∧ x.kin ≠ k ∧ x.side (!k.isRow) = if k.isRow then h else w
theorem OkL_of : ∀ {ps : List P}, (∀ p ∈ ps, p.Ok) → OkL ps
  | [], _ => by rw [OkL]; trivial
  | q :: r, h => by rw [OkL]; exact ⟨h q (by first | exact mem_mid _ _ _ | exact .head _ | exact .tail _ (.head _) | exact .tail _ (.tail _ (.head _)) | simp), OkL_of fun p hp => h p (by simp [hp])⟩
theorem node_fit {k : K} {w h : Int} {ps : List P} (hk : k.isPane = false) :
    (mk k w h ps).G ↔ 2 ≤ ps.length ∧ 1 ≤ w ∧ 1 ≤ h ∧ (∀ x ∈ ps, Fit k w h x) ∧ sums k.isRow ps + ps.length = (if k.isRow then w else h) + 1 := by
  unfold G
  rw [Ok, Sized, hk]
  simp only [Bool.false_eq_true, if_false, forall_const]
  constructor
  · rintro ⟨⟨⟨h1, h2⟩, h3⟩, h4, h5, ⟨h6, h7⟩, h8⟩
    exact ⟨h1, h4, h5, fun x hx => ⟨⟨OkL_mem h3 x hx, SizedL_mem h8 x hx⟩, h2 x hx, h6 x hx⟩, h7⟩
  · rintro ⟨h1, h4, h5, h6, h7⟩
    exact ⟨⟨⟨h1, fun x hx => (h6 x hx).2.1⟩, OkL_of fun x hx => (h6 x hx).1.1⟩, h4, h5, ⟨fun x hx => (h6 x hx).2.2, h7⟩, SizedL_of fun x hx => (h6 x hx).1.2⟩
theorem leaf_good {p w h : Int} (h1 : 1 ≤ w) (h2 : 1 ≤ h) : (leaf p w h).G := by
  unfold G
  rw [Ok, Sized, OkL, SizedL]
  simp [K.isPane, h1, h2]
theorem pane_of {e : P} {p : Int} (g : e.G) (hk : e.kin = .pane p) : e = leaf p e.wid e.hei ∧ 1 ≤ e.wid ∧ 1 ≤ e.hei := by
  cases e with | mk k w h ps =>
  simp only [kin] at hk
  subst hk
  unfold G at g
  rw [Ok, Sized] at g
  simp only [K.isPane, if_true] at g
  refine letG ?_
  intro kG
  obtain ⟨⟨rfl, _⟩, h1, h2, _⟩ := g
  k_unfold
  clear kG
  exact ⟨rfl, h1, h2⟩
theorem G.pos {e : P} (g : e.G) : 1 ≤ e.wid ∧ 1 ≤ e.hei := by
  cases e with | mk k w h ps =>
  have := g.2
  rw [Sized] at this
  exact ⟨this.1, this.2.1⟩
theorem G.side_pos {e : P} (g : e.G) (r : Bool) : 1 ≤ e.side r := by
  have := g.pos
  unfold side
  split <;> (first | (law_clear; lia) | lia | omega)
theorem sums_ge (r : Bool) : ∀ ps : List P, (∀ q ∈ ps, 1 ≤ q.side r) → (ps.length : Int) ≤ sums r ps
  | [], _ => by simp [sums]
  | q :: ps, h => by
    have h1 := h q (by first | exact mem_mid _ _ _ | exact .head _ | exact .tail _ (.head _) | exact .tail _ (.tail _ (.head _)) | simp)
    have h2 := sums_ge r ps fun x hx => h x (by simp [hx])
    rw [sums, List.length_cons]
    (first | (law_clear; lia) | lia | omega)
theorem fit_le {k : K} {w h : Int} {ps : List P} (hk : k.isPane = false) (g : (mk k w h ps).G) : ∀ q ∈ ps, q.wid ≤ w ∧ q.hei ≤ h := by
  intro q hq
  refine letG ?_
  intro kG
  obtain ⟨h1, h2, h3, h4, h5⟩ := (node_fit hk).mp g
  k_unfold
  clear kG
  refine letG ?_
  intro kG
  obtain ⟨a, b, rfl⟩ := List.append_of_mem hq
  k_unfold
  clear kG
  have ha := sums_ge k.isRow a fun x hx => (h4 x (by simp [hx])).1.side_pos _
  have hb := sums_ge k.isRow b fun x hx => (h4 x (by simp [hx])).1.side_pos _
  have hc := (h4 q hq).2.2
  rw [sums_append, sums, List.length_append, List.length_cons] at h5
  generalize hr : k.isRow = r at *
  cases r
  · simp only [side, Bool.not_false, Bool.false_eq_true, if_true, if_false] at *
    (first | (law_clear; lia) | lia | omega)
  · simp only [side, Bool.not_true, Bool.false_eq_true, if_true, if_false] at *
    (first | (law_clear; lia) | lia | omega)
theorem node_swap {k : K} {w h : Int} {dn qs ms rp : List P} (hk : k.isPane = false) (g : (mk k w h (dn ++ qs ++ rp)).G) (hl : 2 ≤ (dn ++ ms ++ rp).length)
    (hm : ∀ x ∈ ms, Fit k w h x) (hs : sums k.isRow ms + ms.length = sums k.isRow qs + qs.length) : (mk k w h (dn ++ ms ++ rp)).G := by
  refine letG ?_
  intro kG
  obtain ⟨h1, h2, h3, h4, h5⟩ := (node_fit hk).mp g
  k_unfold
  clear kG
  refine (node_fit hk).mpr ⟨hl, h2, h3, fun x hx => ?_, ?_⟩
  · simp only [List.mem_append] at hx
    rcases hx with (hx | hx) | hx
    · exact h4 x (by simp [hx])
    · exact hm x hx
    · exact h4 x (by simp [hx])
  · rw [sums_append, sums_append] at h5 ⊢
    rw [List.length_append, List.length_append] at h5 ⊢
    (first | (law_clear; lia) | lia | omega)
theorem AtP_good {p : Int} {B B' e e' : P} (a : AtP p B B' e e') (hw : B'.wid = B.wid) (hh : B'.hei = B.hei) (hk : B'.kin = B.kin) (f : B.G → B'.G) : e.G → e'.G ∧ e'.wid = e.wid ∧ e'.hei = e.hei ∧ e'.kin = e.kin := by
  induction a with
  | here => exact fun g => ⟨f g, hw, hh, hk⟩
  | down h1 h2 h3 h4 ih =>
    rename_i k w h dn rp q q'
    intro g
    have g0 := (node_fit h1).mp g
    have gq := g0.2.2.2.1 q (by first | exact mem_mid _ _ _ | exact .head _ | exact .tail _ (.head _) | exact .tail _ (.tail _ (.head _)) | simp)
    refine letG ?_
    intro kG
    obtain ⟨i1, i2, i3, i4⟩ := ih gq.1
    k_unfold
    clear kG
    have e0 : dn ++ q :: rp = dn ++ [q] ++ rp := by simp
    have e1 : dn ++ q' :: rp = dn ++ [q'] ++ rp := by simp
    refine ⟨?_, rfl, rfl, rfl⟩
    rw [e1]
    rw [e0] at g
    have hl := g0.1
    refine node_swap h1 g (by simp at hl ⊢; (first | (law_clear; lia) | lia | omega)) (fun x hx => ?_) ?_
    · simp only [List.mem_singleton] at hx
      subst hx
      refine ⟨i1, by rw [i4]; exact gq.2.1, ?_⟩
      rw [← gq.2.2]
      unfold side
      rw [i2, i3]
    · simp only [sums, List.length_singleton]
      unfold side
      rw [i2, i3]
theorem AtP_sub {p : Int} {B B' e e' : P} (a : AtP p B B' e e') : e.G → B.G ∧ B.wid ≤ e.wid ∧ B.hei ≤ e.hei := by
  induction a with
  | here => exact fun g => ⟨g, Int.le_refl _, Int.le_refl _⟩
  | down h1 h2 h3 h4 ih =>
    rename_i k w h dn rp q q'
    intro g
    have g0 := (node_fit h1).mp g
    have gq := g0.2.2.2.1 q (by first | exact mem_mid _ _ _ | exact .head _ | exact .tail _ (.head _) | exact .tail _ (.tail _ (.head _)) | simp)
    refine letG ?_
    intro kG
    obtain ⟨i1, i2, i3⟩ := ih gq.1
    k_unfold
    clear kG
    have := fit_le h1 g q (by first | exact mem_mid _ _ _ | exact .head _ | exact .tail _ (.head _) | exact .tail _ (.tail _ (.head _)) | simp)
    simp only [wid, hei] at this ⊢
    exact ⟨i1, by have := this.1; simp only [wid] at i2 ⊢; (first | (law_clear; lia) | lia | omega), by have := this.2; simp only [hei] at i3 ⊢; (first | (law_clear; lia) | lia | omega)⟩
theorem AtP_panes {p : Int} {B B' e e' : P} (a : AtP p B B' e e') (e0 : List Int) (hb : B'.panes.Perm (e0 ++ B.panes)) (hB : B.kin.isPane = false ∨ True) : e'.panes.Perm (e0 ++ e.panes) := by
  induction a with
  | here => exact hb
  | down h1 h2 h3 h4 ih =>
    rename_i k w h dn rp q q'
    rw [panes_node h1, panes_node h1, panesL_append, panesL_append, panesL, panesL]
    rw [List.perm_iff_count] at ih ⊢
    intro z
    have := ih z
    simp only [List.count_append] at this ⊢
    (first | (law_clear; lia) | lia | omega)
theorem sideK_pane (r : Bool) : (sideK r).isPane = false := by cases r <;> rfl
theorem sideK_row (r : Bool) : (sideK r).isRow = r := by cases r <;> rfl
theorem row_kind {k : K} {r : Bool} (hk : k.isPane = false) : k = sideK r ↔ k.isRow = r := by
  cases k <;> cases r <;> simp_all [K.isPane, K.isRow, sameK, kno]
theorem two_panes (r b : Bool) (p f wd ht m : Int) : (panesL (two r b p f wd ht m)).Perm ([f] ++ [p]) := by
  cases b
  · simp only [two, panesL, panes, Bool.false_eq_true, if_false, List.append_nil]
    exact List.Perm.swap _ _ _
  · simp only [two, panesL, panes, if_true, List.append_nil]
    exact List.Perm.refl _
theorem two_fit {r b : Bool} {p f wd ht m : Int} (h1 : 1 ≤ m) (h2 : m ≤ (if r then wd else ht) - 2) (hw : 1 ≤ wd) (hh : 1 ≤ ht) :
    (∀ x ∈ two r b p f wd ht m, x.G ∧ x.kin.isPane = true ∧ x.side (!r) = if r then ht else wd) ∧ sums r (two r b p f wd ht m) = (if r then wd else ht) - 1 ∧ (two r b p f wd ht m).length = 2 := by
  have g1 : (new r f wd ht m).G := leaf_good (by split <;> (first | (law_clear; lia) | lia | omega)) (by split <;> (first | (law_clear; lia) | lia | omega))
  have g2 : (old r p wd ht m).G := leaf_good (by cases r <;> simp at * <;> (first | (law_clear; lia) | lia | omega)) (by cases r <;> simp at * <;> (first | (law_clear; lia) | lia | omega))
  refine ⟨fun x hx => ?_, ?_, by cases b <;> rfl⟩
  · have : x = new r f wd ht m ∨ x = old r p wd ht m := by
      cases b <;> simp [two] at hx <;> rcases hx with rfl | rfl <;> simp
    rcases this with rfl | rfl
    · exact ⟨g1, rfl, by cases r <;> rfl⟩
    · exact ⟨g2, rfl, by cases r <;> rfl⟩
  · cases b <;> cases r <;> simp [two, sums, side, wid, hei] <;> (first | (law_clear; lia) | lia | omega)
theorem pane_ne {k : K} {x : K} (hk : k.isPane = false) (hx : x.isPane = true) : x ≠ k := by
  rintro rfl
  rw [hk] at hx
  cases hx
theorem Split_good {p f : Int} {r b : Bool} {wd ht m : Int} {e e' : P} (s : Split p f r b wd ht m e e') (g : e.G) (h1 : 1 ≤ m) (h2 : m ≤ (if r then wd else ht) - 2) :
    e'.G ∧ e'.wid = e.wid ∧ e'.hei = e.hei ∧ e'.panes.Perm (f :: e.panes) := by
  cases s with
  | root =>
    have hp := g.pos
    simp only [wid, hei] at hp
    refine letG ?_
    intro kG
    obtain ⟨t1, t2, t3⟩ := two_fit (r := r) (b := b) (p := p) (f := f) h1 h2 hp.1 hp.2
    k_unfold
    clear kG
    refine ⟨(node_fit (sideK_pane r)).mpr ⟨by rw [t3]; (first | (law_clear; lia) | lia | omega), hp.1, hp.2, fun x hx => ⟨(t1 x hx).1, pane_ne (sideK_pane r) (t1 x hx).2.1, ?_⟩, ?_⟩, rfl, rfl, ?_⟩
    · rw [sideK_row]; exact (t1 x hx).2.2
    · rw [sideK_row, t2, t3]; (first | (law_clear; lia) | lia | omega)
    · rw [panes_node (sideK_pane r)]
      exact two_panes r b p f wd ht m
  | same a =>
    rename_i w h dn rp
    have hb := AtP_sub a g
    have gl : (leaf p wd ht).G := ((node_fit (sideK_pane r)).mp hb.1).2.2.2.1 _ (by first | exact mem_mid _ _ _ | exact .head _ | exact .tail _ (.head _) | exact .tail _ (.tail _ (.head _)) | simp) |>.1
    have gc := (((node_fit (sideK_pane r)).mp hb.1).2.2.2.1 (leaf p wd ht) (by first | exact mem_mid _ _ _ | exact .head _ | exact .tail _ (.head _) | exact .tail _ (.tail _ (.head _)) | simp)).2.2
    have hp := gl.pos
    simp only [wid, hei] at hp
    refine letG ?_
    intro kG
    obtain ⟨t1, t2, t3⟩ := two_fit (r := r) (b := b) (p := p) (f := f) h1 h2 hp.1 hp.2
    k_unfold
    clear kG
    have e0 : dn ++ leaf p wd ht :: rp = dn ++ [leaf p wd ht] ++ rp := by simp
    obtain ⟨a1, a2, a3, a4⟩ := AtP_good a rfl rfl rfl (fun gb => by
      rw [e0] at gb
      refine node_swap (sideK_pane r) gb (by simp only [List.length_append, t3]; (first | (law_clear; lia) | lia | omega)) (fun x hx => ⟨(t1 x hx).1, pane_ne (sideK_pane r) (t1 x hx).2.1, ?_⟩) ?_
      · rw [← gc, sideK_row, (t1 x hx).2.2]
        cases r <;> rfl
      · rw [sideK_row, t2, t3]
        simp only [sums, List.length_singleton, side, wid, hei]
        (first | (law_clear; lia) | lia | omega)) g
    refine ⟨a1, a2, a3, AtP_panes a [f] ?_ (.inr trivial)⟩
    rw [panes_node (sideK_pane r), panes_node (sideK_pane r), panesL_append, panesL_append, panesL_append, panesL]
    have tp := two_panes r b p f wd ht m
    rw [List.perm_iff_count] at tp ⊢
    intro z
    have := tp z
    simp only [List.count_append, panes] at this ⊢
    (first | (law_clear; lia) | lia | omega)
  | deep hk hne a =>
    rename_i k w h dn rp
    have hb := AtP_sub a g
    have gl : (leaf p wd ht).G := ((node_fit hk).mp hb.1).2.2.2.1 _ (by first | exact mem_mid _ _ _ | exact .head _ | exact .tail _ (.head _) | exact .tail _ (.tail _ (.head _)) | simp) |>.1
    have gc := (((node_fit hk).mp hb.1).2.2.2.1 (leaf p wd ht) (by first | exact mem_mid _ _ _ | exact .head _ | exact .tail _ (.head _) | exact .tail _ (.tail _ (.head _)) | simp)).2.2
    have hp := gl.pos
    simp only [wid, hei] at hp
    refine letG ?_
    intro kG
    obtain ⟨t1, t2, t3⟩ := two_fit (r := r) (b := b) (p := p) (f := f) h1 h2 hp.1 hp.2
    k_unfold
    clear kG
    have gn : (mk (sideK r) wd ht (two r b p f wd ht m)).G := by
      refine (node_fit (sideK_pane r)).mpr ⟨by rw [t3]; (first | (law_clear; lia) | lia | omega), hp.1, hp.2, fun x hx => ⟨(t1 x hx).1, pane_ne (sideK_pane r) (t1 x hx).2.1, ?_⟩, ?_⟩
      · rw [sideK_row]; exact (t1 x hx).2.2
      · rw [sideK_row, t2, t3]; (first | (law_clear; lia) | lia | omega)
    have e0 : dn ++ leaf p wd ht :: rp = dn ++ [leaf p wd ht] ++ rp := by simp
    have e1 : dn ++ mk (sideK r) wd ht (two r b p f wd ht m) :: rp = dn ++ [mk (sideK r) wd ht (two r b p f wd ht m)] ++ rp := by simp
    obtain ⟨a1, a2, a3, a4⟩ := AtP_good a rfl rfl rfl (fun gb => by
      have hl := ((node_fit hk).mp gb).1
      rw [e0] at gb
      rw [e1]
      refine node_swap hk gb (by simp at hl ⊢; (first | (law_clear; lia) | lia | omega)) (fun x hx => ?_) ?_
      · simp only [List.mem_singleton] at hx
        subst hx
        exact ⟨gn, fun e => hne (by simpa only [kin] using e.symm), gc⟩
      · simp only [sums, List.length_singleton, side, wid, hei]) g
    refine ⟨a1, a2, a3, AtP_panes a [f] ?_ (.inr trivial)⟩
    rw [panes_node hk, panes_node hk, panesL_append, panesL_append, panesL, panesL, panes_node (sideK_pane r)]
    have tp := two_panes r b p f wd ht m
    rw [List.perm_iff_count] at tp ⊢
    intro z
    have := tp z
    simp only [List.count_append, panes] at this ⊢
    (first | (law_clear; lia) | lia | omega)
end P
namespace P
theorem growA_map (r : Bool) (m : Nat) : ∀ ps : List P, growA r m ps = ps.map (grow r m)
  | [] => rfl
  | p :: q => by rw [growA, growA_map r m q, List.map_cons]
theorem growFA_map (r : Bool) (m : Nat) : ∀ ps : List P, growFA r m ps = ps.map (growF r m)
  | [] => rfl
  | p :: q => by rw [growFA, growFA_map r m q, List.map_cons]
theorem deal_mem {r : Bool} {m len : Nat} {x : P} : ∀ {ps : List P} {i : Nat}, x ∈ deal r m len i ps → ∃ q ∈ ps, ∃ c, x = growF r c q
  | [], i, h => by simp [deal] at h
  | p :: ps, i, h => by
    rw [deal] at h
    rcases List.mem_cons.mp h with rfl | h
    · exact ⟨p, by simp, _, rfl⟩
    · refine letG ?_
      intro kG
      obtain ⟨q, hq, c, e⟩ := deal_mem h
      k_unfold
      clear kG
      exact ⟨q, by simp [hq], c, e⟩
theorem sums_map (r : Bool) (f : P → P) (d : Int) : ∀ ps : List P, (∀ q ∈ ps, (f q).side r = q.side r + d) → sums r (ps.map f) = sums r ps + ps.length * d
  | [], _ => by simp [sums]
  | q :: ps, h => by
    rw [List.map_cons, sums, sums, sums_map r f d ps fun x hx => h x (by simp [hx]), h q (by first | exact mem_mid _ _ _ | exact .head _ | exact .tail _ (.head _) | exact .tail _ (.tail _ (.head _)) | simp), List.length_cons]
    rw [Int.natCast_succ, Int.add_mul]
    (first | (law_clear; lia) | lia | omega)
theorem cnt_step (i n b : Nat) (h : i + 1 ≤ n) : min n b - min i b = (if i < b then 1 else 0) + (min n b - min (i + 1) b) := by
  by_cases hi : i < b
  · rw [if_pos hi, Nat.min_eq_left (Nat.le_of_lt hi), Nat.min_eq_left (show i + 1 ≤ b from hi)]
    have := Nat.le_min.mpr ⟨h, (show i + 1 ≤ b from hi)⟩
    generalize min n b = k at this
    (first | (law_clear; lia) | lia | omega)
  · rw [if_neg hi, Nat.min_eq_right (Nat.le_of_not_lt hi), Nat.min_eq_right (Nat.le_succ_of_le (Nat.le_of_not_lt hi)), Nat.zero_add]
theorem cnt_sum (m len : Nat) : ∀ (ps : List P) (i : Nat), ∀ r : Bool, (∀ q ∈ ps, ∀ c, (growF r c q).side r = q.side r + c) → sums r (deal r m len i ps) = sums r ps + (ps.length * (m / len) : Nat) + (min (i + ps.length) (m % len) - min i (m % len) : Nat)
  | [], i, r, _ => by simp [deal, sums]
  | q :: ps, i, r, h => by
    rw [deal, sums, sums, cnt_sum m len ps (i + 1) r fun x hx => h x (by simp [hx]), h q (by first | exact mem_mid _ _ _ | exact .head _ | exact .tail _ (.head _) | exact .tail _ (.tail _ (.head _)) | simp), List.length_cons]
    rw [show (ps.length + 1) * (m / len) = ps.length * (m / len) + m / len from Nat.succ_mul _ _, show i + (ps.length + 1) = i + 1 + ps.length from by rw [Nat.add_assoc, Nat.add_comm 1], cnt_step _ _ _ (Nat.le_add_right _ _)]
    unfold cnt
    generalize sums r ps = a, q.side r = b, ps.length * (m / len) = d, m / len = c, (if i < m % len then 1 else 0) = e, (min (i + 1 + ps.length) (m % len) - min (i + 1) (m % len)) = f
    simp only [Int.natCast_add]
    ac_rfl
noncomputable abbrev Longer (r : Bool) (m : Nat) (p p' : P) : Prop := p'.G ∧ p'.kin = p.kin ∧ p'.side r = p.side r + m ∧ p'.side (!r) = p.side (!r)
theorem side_mk (r : Bool) (k : K) (w h : Int) (ps : List P) : (mk k w h ps).side r = if r then w else h := rfl
theorem pane_longer (r : Bool) (m : Nat) {q w h : Int} {ps : List P} (g : (mk (.pane q) w h ps).G) : Longer r m (mk (.pane q) w h ps) (mk (.pane q) (if r then w + m else w) (if r then h else h + m) []) := by
  have := g.pos
  simp only [wid, hei] at this
  exact ⟨leaf_good (by split <;> (first | (law_clear; lia) | lia | omega)) (by split <;> (first | (law_clear; lia) | lia | omega)), rfl, by cases r <;> rfl, by cases r <;> rfl⟩
theorem along_longer {r : Bool} {m : Nat} {k : K} {w h : Int} {ps ps' : List P} (hk : k.isPane = false) (hr : k.isRow = r) (g : (mk k w h ps).G) (hl : ps'.length = ps.length)
    (hf : ∀ x ∈ ps', ∃ q ∈ ps, ∃ c, Longer r c q x) (hs : sums r ps' = sums r ps + m) : Longer r m (mk k w h ps) (mk k (if r then w + m else w) (if r then h else h + m) ps') := by
  refine letG ?_
  intro kG
  obtain ⟨h1, h2, h3, h4, h5⟩ := (node_fit hk).mp g
  k_unfold
  clear kG
  refine ⟨(node_fit hk).mpr ⟨by (first | (law_clear; lia) | lia | omega), by split <;> (first | (law_clear; lia) | lia | omega), by split <;> (first | (law_clear; lia) | lia | omega), fun x hx => ?_, ?_⟩, rfl, by cases r <;> rfl, by cases r <;> rfl⟩
  · refine letG ?_
    intro kG
    obtain ⟨q, hq, c, l1, l2, l3, l4⟩ := hf x hx
    k_unfold
    clear kG
    have f := h4 q hq
    refine ⟨l1, by rw [l2]; exact f.2.1, ?_⟩
    have := f.2.2
    rw [hr] at this ⊢
    rw [l4, this]
    cases r <;> rfl
  · rw [hr] at h5 ⊢
    rw [hs, hl]
    cases r
    · simp only [Bool.false_eq_true, if_false] at h5 ⊢; (first | (law_clear; lia) | lia | omega)
    · simp only [if_true] at h5 ⊢; (first | (law_clear; lia) | lia | omega)
theorem across_longer {r : Bool} {m : Nat} {k : K} {w h : Int} {ps : List P} {f : P → P} (hk : k.isPane = false) (hr : k.isRow = !r) (g : (mk k w h ps).G)
    (hf : ∀ q ∈ ps, Longer r m q (f q)) : Longer r m (mk k w h ps) (mk k (if r then w + m else w) (if r then h else h + m) (ps.map f)) := by
  refine letG ?_
  intro kG
  obtain ⟨h1, h2, h3, h4, h5⟩ := (node_fit hk).mp g
  k_unfold
  clear kG
  refine ⟨(node_fit hk).mpr ⟨by simpa using h1, by split <;> (first | (law_clear; lia) | lia | omega), by split <;> (first | (law_clear; lia) | lia | omega), fun x hx => ?_, ?_⟩, rfl, by cases r <;> rfl, by cases r <;> rfl⟩
  · refine letG ?_
    intro kG
    obtain ⟨q, hq, rfl⟩ := List.mem_map.mp hx
    k_unfold
    clear kG
    refine letG ?_
    intro kG
    obtain ⟨l1, l2, l3, l4⟩ := hf q hq
    k_unfold
    clear kG
    have ft := h4 q hq
    refine ⟨l1, by rw [l2]; exact ft.2.1, ?_⟩
    have := ft.2.2
    rw [hr, Bool.not_not] at this ⊢
    rw [l3, this]
    cases r <;> rfl
  · rw [hr] at h5 ⊢
    rw [sums_map (!r) f 0 ps fun q hq => by rw [(hf q hq).2.2.2]; (first | (law_clear; lia) | lia | omega), List.length_map]
    cases r
    · simp only [Bool.not_false, Bool.false_eq_true, if_true, if_false] at h5 ⊢; (first | (law_clear; lia) | lia | omega)
    · simp only [Bool.not_true, Bool.false_eq_true, if_true, if_false] at h5 ⊢; (first | (law_clear; lia) | lia | omega)
theorem growF_good (r : Bool) (m : Nat) : ∀ (n : Nat) (p : P), p.sz ≤ n → p.G → Longer r m p (growF r m p) := by
  intro n
  induction n with
  | zero => intro p h; cases p; simp [sz] at h
  | succ n ih =>
    intro p hn g
    cases p with | mk k w h ps =>
    rw [growF]
    rw [sz] at hn
    have hsz : ∀ q ∈ ps, q.sz ≤ n := fun q hq => by
      refine letG ?_
      intro kG
      obtain ⟨a, b, rfl⟩ := List.append_of_mem hq
      k_unfold
      clear kG
      rw [szL_append, szL] at hn
      (first | (law_clear; lia) | lia | omega)
    cases hk : k.isPane with
    | true =>
      cases k with
      | pane q =>
        have : ps = [] := by have := g.1; rw [Ok] at this; simpa [K.isPane] using this.1
        subst this
        have e : (if K.pane q = sideK r then growFH r m [] else growFA r m []) = [] := by split <;> rfl
        rw [e]
        exact pane_longer r m g
      | row => cases hk
      | col => cases hk
    | false =>
      have h4 := ((node_fit hk).mp g)
      by_cases hs : k = sideK r
      · rw [if_pos hs]
        cases ps with
        | nil => have := h4.1; simp at this
        | cons q ps =>
        rw [growFH]
        have lq := ih q (hsz q (by first | exact mem_mid _ _ _ | exact .head _ | exact .tail _ (.head _) | exact .tail _ (.tail _ (.head _)) | simp)) (h4.2.2.2.1 q (by first | exact mem_mid _ _ _ | exact .head _ | exact .tail _ (.head _) | exact .tail _ (.tail _ (.head _)) | simp)).1
        refine along_longer hk ((row_kind hk).mp hs) g (by first | exact mem_mid _ _ _ | exact .head _ | exact .tail _ (.head _) | exact .tail _ (.tail _ (.head _)) | simp) (fun x hx => ?_) ?_
        · rcases List.mem_cons.mp hx with rfl | hx
          · exact ⟨q, by simp, m, lq⟩
          · exact ⟨x, by simp [hx], 0, (h4.2.2.2.1 x (by simp [hx])).1, rfl, by simp, rfl⟩
        · rw [sums, sums, lq.2.2.1]
          (first | (law_clear; lia) | lia | omega)
      · rw [if_neg hs, growFA_map]
        refine across_longer hk ?_ g fun q hq => ih q (hsz q hq) (h4.2.2.2.1 q hq).1
        have := mt (row_kind (r := r) hk).mpr hs
        cases r <;> simp_all
theorem grow_good (r : Bool) (m : Nat) : ∀ (n : Nat) (p : P), p.sz ≤ n → p.G → Longer r m p (grow r m p) := by
  intro n
  induction n with
  | zero => intro p h; cases p; simp [sz] at h
  | succ n ih =>
    intro p hn g
    cases p with | mk k w h ps =>
    rw [grow]
    rw [sz] at hn
    have hsz : ∀ q ∈ ps, q.sz ≤ n := fun q hq => by
      refine letG ?_
      intro kG
      obtain ⟨a, b, rfl⟩ := List.append_of_mem hq
      k_unfold
      clear kG
      rw [szL_append, szL] at hn
      (first | (law_clear; lia) | lia | omega)
    cases hk : k.isPane with
    | true =>
      cases k with
      | pane q =>
        have : ps = [] := by have := g.1; rw [Ok] at this; simpa [K.isPane] using this.1
        subst this
        have e : (if K.pane q = sideK r then deal r m ([] : List P).length 0 [] else growA r m []) = [] := by split <;> rfl
        rw [e]
        exact pane_longer r m g
      | row => cases hk
      | col => cases hk
    | false =>
      have h4 := ((node_fit hk).mp g)
      by_cases hs : k = sideK r
      · rw [if_pos hs]
        refine along_longer hk ((row_kind hk).mp hs) g (deal_length _ _ _ _ _) (fun x hx => ?_) ?_
        · refine letG ?_
          intro kG
          obtain ⟨q, hq, c, rfl⟩ := deal_mem hx
          k_unfold
          clear kG
          exact ⟨q, hq, c, growF_good r c n q (hsz q hq) (h4.2.2.2.1 q hq).1⟩
        · rw [cnt_sum _ _ _ _ _ fun q hq c => (growF_good r c n q (hsz q hq) (h4.2.2.2.1 q hq).1).2.2.1]
          have hpos : 0 < ps.length := by have := h4.1; (first | (law_clear; lia) | lia | omega)
          have h1 := Nat.div_add_mod m ps.length
          have h2 := Nat.mod_lt m hpos
          have h3 : min (0 + ps.length) (m % ps.length) - min 0 (m % ps.length) = m % ps.length := by (first | (law_clear; lia) | lia | omega)
          rw [h3]
          (first | (law_clear; lia) | lia | omega)
      · rw [if_neg hs, growA_map]
        refine across_longer hk ?_ g fun q hq => ih q (hsz q hq) (h4.2.2.2.1 q hq).1
        have := mt (row_kind (r := r) hk).mpr hs
        cases r <;> simp_all
theorem bump_is {k : K} {lw lh : Int} {dn rp : List P} (h : dn ++ rp ≠ []) : ∃ a y b, bump k lw lh dn rp = a ++ grow (sameK k .row) ((if sameK k .row then lw else lh) + 1).toNat y :: b ∧ dn ++ rp = a ++ y :: b ∧
    ((∃ p : Int, dn ++ leaf p lw lh :: rp = a ++ [y, leaf p lw lh] ++ b) ∨ True) ∧ ∀ l : P, dn ++ l :: rp = a ++ [y, l] ++ b ∨ dn ++ l :: rp = a ++ [l, y] ++ b := by
  unfold bump
  cases hd : dn.reverse with
  | nil =>
    have : dn = [] := by simpa using hd
    subst this
    cases rp with
    | nil => exact absurd rfl h
    | cons y rp => exact ⟨[], y, rp, rfl, rfl, .inr trivial, fun l => .inr rfl⟩
  | cons y d =>
    have e : dn = d.reverse ++ [y] := by rw [← List.reverse_reverse dn, hd, List.reverse_cons]
    subst e
    refine ⟨d.reverse, y, rp, ?_, by simp, .inr trivial, fun l => .inl (by first | exact mem_mid _ _ _ | exact .head _ | exact .tail _ (.head _) | exact .tail _ (.tail _ (.head _)) | simp)⟩
    rw [List.append_assoc, List.singleton_append]
    exact modAt_at _ _ _ _ _ (by first | exact mem_mid _ _ _ | exact .head _ | exact .tail _ (.head _) | exact .tail _ (.tail _ (.head _)) | simp)
theorem sameK_eq {a k : K} (hk : k.isPane = false) : sameK a k = decide (a = k) := by
  cases a <;> cases k <;> simp_all [sameK, kno, K.isPane]
theorem melt_same {k : K} (hk : k.isPane = false) : ∀ {ps : List P}, (∀ x ∈ ps, x.kin ≠ k) → melt k ps = ps
  | [], _ => rfl
  | q :: ps, h => by
    rw [melt, melt_same hk fun x hx => h x (by simp [hx]), sameK_eq hk, decide_eq_false (h q (by first | exact mem_mid _ _ _ | exact .head _ | exact .tail _ (.head _) | exact .tail _ (.tail _ (.head _)) | simp))]
    rfl
theorem side_nn {p : P} (g : p.G) (r : Bool) : ((p.side r + 1).toNat : Int) = p.side r + 1 := by
  have := g.side_pos r
  (first | (law_clear; lia) | lia | omega)
theorem bump_fit {k : K} {w h lw lh p : Int} {dn rp : List P} (hk : k.isPane = false) (g : (mk k w h (dn ++ leaf p lw lh :: rp)).G) :
    (∀ x ∈ bump k lw lh dn rp, Fit k w h x) ∧ sums k.isRow (bump k lw lh dn rp) + (bump k lw lh dn rp).length = (if k.isRow then w else h) + 1 := by
  refine letG ?_
  intro kG
  obtain ⟨h1, h2, h3, h4, h5⟩ := (node_fit hk).mp g
  k_unfold
  clear kG
  have ne : dn ++ rp ≠ [] := by
    intro e
    have := congrArg List.length e
    rw [List.length_append, List.length_cons] at h1
    rw [List.length_append, List.length_nil] at this
    (first | (law_clear; lia) | lia | omega)
  refine letG ?_
  intro kG
  obtain ⟨a, y, b, e1, e2, _, e3⟩ := bump_is (lw := lw) (lh := lh) (k := k) ne
  k_unfold
  clear kG
  have gl := h4 (leaf p lw lh) (by first | exact mem_mid _ _ _ | exact .head _ | exact .tail _ (.head _) | exact .tail _ (.tail _ (.head _)) | simp)
  have hy : y ∈ dn ++ rp := by rw [e2]; simp
  have fy := h4 y (by simp at hy ⊢; rcases hy with h | h <;> simp [h])
  have hr : sameK k .row = k.isRow := rfl
  rw [hr] at e1
  have es : (if k.isRow then lw else lh) = (leaf p lw lh).side k.isRow := rfl
  rw [es] at e1
  refine letG ?_
  intro kG
  obtain ⟨l1, l2, l3, l4⟩ := grow_good k.isRow ((leaf p lw lh).side k.isRow + 1).toNat y.sz y (Nat.le_refl _) fy.1
  k_unfold
  clear kG
  rw [side_nn gl.1] at l3
  have fz : Fit k w h (grow k.isRow ((leaf p lw lh).side k.isRow + 1).toNat y) := ⟨l1, by rw [l2]; exact fy.2.1, by rw [l4]; exact fy.2.2⟩
  have hab : ∀ x, x ∈ a ∨ x ∈ b → Fit k w h x := fun x hx => by
    have : x ∈ dn ++ rp := by rw [e2]; rcases hx with h | h <;> simp [h]
    exact h4 x (by simp at this ⊢; rcases this with h | h <;> simp [h])
  rw [e1]
  refine ⟨fun x hx => ?_, ?_⟩
  · simp only [List.mem_append, List.mem_cons] at hx
    rcases hx with hx | rfl | hx
    · exact hab x (.inl hx)
    · exact fz
    · exact hab x (.inr hx)
  · have e4 : sums k.isRow (dn ++ leaf p lw lh :: rp) = sums k.isRow (dn ++ rp) + (leaf p lw lh).side k.isRow := by
      rw [sums_append, sums_append, sums]; (first | (law_clear; lia) | lia | omega)
    have e5 : (dn ++ leaf p lw lh :: rp).length = (dn ++ rp).length + 1 := by simp; (first | (law_clear; lia) | lia | omega)
    rw [e4, e5, e2] at h5
    rw [sums_append, sums] at h5 ⊢
    rw [l3]
    rw [List.length_append, List.length_cons] at h5 ⊢
    (first | (law_clear; lia) | lia | omega)
theorem bump_one {k : K} {w h lw lh p : Int} {dn rp : List P} {z : P} (hk : k.isPane = false) (g : (mk k w h (dn ++ leaf p lw lh :: rp)).G) (hz : bump k lw lh dn rp = [z]) : z.G ∧ z.wid = w ∧ z.hei = h ∧ z.kin ≠ k := by
  have f := bump_fit hk g
  rw [hz] at f
  have fz := f.1 z (by first | exact mem_mid _ _ _ | exact .head _ | exact .tail _ (.head _) | exact .tail _ (.tail _ (.head _)) | simp)
  have hs := f.2
  have hc := fz.2.2
  simp only [sums, List.length_singleton] at hs
  unfold side at hs hc
  refine ⟨fz.1, ?_, ?_, fz.2.1⟩
  · cases hr : k.isRow <;> rw [hr] at hs hc <;> simp at hs hc <;> (first | (law_clear; lia) | lia | omega)
  · cases hr : k.isRow <;> rw [hr] at hs hc <;> simp at hs hc <;> (first | (law_clear; lia) | lia | omega)
theorem Shut_good {p : Int} {e e' : P} (s : Shut p e e') (g : e.G) : e'.G ∧ e'.wid = e.wid ∧ e'.hei = e.hei := by
  cases s with
  | many hk hl a =>
    rename_i k w h lw lh dn rp
    obtain ⟨a1, a2, a3, a4⟩ := AtP_good a rfl rfl rfl (fun gb => by
      have f := bump_fit hk gb
      have h0 := (node_fit hk).mp gb
      refine (node_fit hk).mpr ⟨?_, h0.2.1, h0.2.2.1, f.1, f.2⟩
      unfold bump
      rw [modAt_len]
      exact hl) g
    exact ⟨a1, a2, a3⟩
  | root hk hz =>
    have := bump_one hk g hz
    exact ⟨this.1, this.2.1, this.2.2.1⟩
  | two hg hk hz o1 o2 a =>
    rename_i gk k gw gh w h lw lh gd gr dn rp z
    obtain ⟨a1, a2, a3, a4⟩ := AtP_good a rfl rfl rfl (fun gb => by
      refine letG ?_
      intro kG
      obtain ⟨h1, h2, h3, h4, h5⟩ := (node_fit hg).mp gb
      k_unfold
      clear kG
      have fn := h4 (mk k w h (dn ++ leaf p lw lh :: rp)) (by first | exact mem_mid _ _ _ | exact .head _ | exact .tail _ (.head _) | exact .tail _ (.tail _ (.head _)) | simp)
      refine letG ?_
      intro kG
      obtain ⟨z1, z2, z3, z4⟩ := bump_one hk fn.1 hz
      k_unfold
      clear kG
      have md : melt gk gd = gd := melt_same hg fun x hx => (h4 x (by simp [hx])).2.1
      have mr : melt gk gr = gr := melt_same hg fun x hx => (h4 x (by simp [hx])).2.1
      have zs : ∀ r : Bool, z.side r = (mk k w h (dn ++ leaf p lw lh :: rp)).side r := fun r => by
        unfold side; rw [z2, z3]; rfl
      rw [melt_append, melt, md, mr, ← List.append_assoc]
      have e0 : gd ++ mk k w h (dn ++ leaf p lw lh :: rp) :: gr = gd ++ [mk k w h (dn ++ leaf p lw lh :: rp)] ++ gr := by simp
      rw [e0] at gb h1
      rw [sameK_eq hg]
      by_cases hzk : z.kin = gk
      · rw [decide_eq_true hzk, if_pos rfl]
        cases z with | mk zk zw zh zp =>
        simp only [kin] at hzk
        subst hzk
        refine letG ?_
        intro kG
        obtain ⟨y1, y2, y3, y4, y5⟩ := (node_fit hg).mp z1
        k_unfold
        clear kG
        simp only [par, wid, hei] at z2 z3 ⊢
        refine node_swap hg gb (by simp; (first | (law_clear; lia) | lia | omega)) (fun x hx => ?_) ?_
        · have f := y4 x hx
          refine ⟨f.1, f.2.1, ?_⟩
          rw [f.2.2, ← fn.2.2, z2, z3, side_mk]
          cases zk.isRow <;> rfl
        · rw [y5]
          simp only [sums, List.length_singleton, side_mk]
          rw [z2, z3]
          (first | (law_clear; lia) | lia | omega)
      · rw [decide_eq_false hzk]
        simp only [Bool.false_eq_true, if_false]
        refine node_swap hg gb (by simp at h1 ⊢; (first | (law_clear; lia) | lia | omega)) (fun x hx => ?_) ?_
        · simp only [List.mem_singleton] at hx
          subst hx
          exact ⟨z1, hzk, by rw [zs]; exact fn.2.2⟩
        · simp only [sums, List.length_singleton, zs]) g
    exact ⟨a1, a2, a3⟩
noncomputable def spot (p : Int) : Nat → List P → List Nat
  | _, [] => []
  | i, q :: r => (if q.kin = .pane p then [i] else []) ++ spot p (i + 1) r
noncomputable def pick (k : K) (w h : Int) : List P → P
  | [z] => z
  | l => mk k w h l
noncomputable def sideAt (r : Bool) (i : Nat) (ps : List P) : Int := (ps[i]?.map (side r)).getD 0
mutual
noncomputable def closeF (p : Int) : P → P
  | mk k w h ps => match spot p 0 ps with
    | [] => mk k w h (melt k (closeFL p ps))
    | i :: _ => pick k w h (modAt (grow (sameK k .row) (sideAt (sameK k .row) i ps + 1).toNat) (i - 1) (ps.eraseIdx i))
noncomputable def closeFL (p : Int) : List P → List P
  | [] => []
  | q :: r => (if q.kin.isPane then q else closeF p q) :: closeFL p r
end
theorem closeFL_map (p : Int) : ∀ ps : List P, closeFL p ps = ps.map fun q => if q.kin.isPane then q else closeF p q
  | [] => by rw [closeFL]; rfl
  | q :: r => by rw [closeFL, closeFL_map p r, List.map_cons]
theorem spot_none {p : Int} : ∀ {ps : List P} {i : Nat}, (∀ x ∈ ps, x.kin ≠ .pane p) → spot p i ps = []
  | [], _, _ => rfl
  | q :: r, i, h => by rw [spot, if_neg (h q (by first | exact mem_mid _ _ _ | exact .head _ | exact .tail _ (.head _) | exact .tail _ (.tail _ (.head _)) | simp)), spot_none fun x hx => h x (by simp [hx])]; rfl
theorem spot_at {p wd ht : Int} {rp : List P} : ∀ {dn : List P} {i : Nat}, (∀ x ∈ dn, x.kin ≠ .pane p) → ∃ r, spot p i (dn ++ leaf p wd ht :: rp) = (i + dn.length) :: r
  | [], i, _ => ⟨spot p (i + 1) rp, by rw [List.nil_append, spot, show (leaf p wd ht).kin = K.pane p from rfl, if_pos rfl]; rfl⟩
  | q :: dn, i, h => by
    obtain ⟨r, e⟩ := spot_at (i := i + 1) (dn := dn) (rp := rp) (wd := wd) (ht := ht) (p := p) fun x hx => h x (by simp [hx])
    refine ⟨r, ?_⟩
    rw [List.cons_append, spot, if_neg (h q (by first | exact mem_mid _ _ _ | exact .head _ | exact .tail _ (.head _) | exact .tail _ (.tail _ (.head _)) | simp)), e, List.nil_append, List.length_cons]
    congr 1
    (first | (law_clear; lia) | lia | omega)
theorem off_kin {p : Int} {x : P} (h : p ∉ x.panes) : x.kin ≠ .pane p := by
  intro e
  cases x with | mk k w h' ps =>
  simp only [kin] at e
  subst e
  exact h (by simp [panes])
theorem closeF_off {p : Int} : ∀ (n : Nat) (e : P), e.sz ≤ n → e.G → e.kin.isPane = false → p ∉ e.panes → closeF p e = e := by
  intro n
  induction n with
  | zero => intro e h; cases e; simp [sz] at h
  | succ n ih =>
    intro e hn g hk off
    cases e with | mk k w h ps =>
    simp only [kin] at hk
    rw [panes_node hk] at off
    rw [sz] at hn
    have hoff : ∀ q ∈ ps, p ∉ q.panes := fun q hq hp => off (mem_panesL.mpr ⟨q, hq, hp⟩)
    have h4 := ((node_fit hk).mp g).2.2.2.1
    rw [closeF, spot_none fun x hx => off_kin (hoff x hx), closeFL_map]
    have : (ps.map fun q => if q.kin.isPane then q else closeF p q) = ps := by
      conv => rhs; rw [← List.map_id ps]
      refine List.map_congr_left fun q hq => ?_
      cases hq2 : q.kin.isPane with
      | true => rfl
      | false =>
        refine ih q ?_ (h4 q hq).1 hq2 (hoff q hq)
        refine letG ?_
        intro kG
        obtain ⟨a, b, rfl⟩ := List.append_of_mem hq
        k_unfold
        clear kG
        rw [szL_append, szL] at hn
        (first | (law_clear; lia) | lia | omega)
    rw [this]
    (try dsimp only)
    rw [melt_same hk fun x hx => (h4 x hx).2.1]
theorem closeF_at {p : Int} {B B' e e' : P} (a : AtP p B B' e e') (hB : closeF p B = B') (hb : B.kin.isPane = false) (hk : B'.kin = B.kin) : e.G → closeF p e = e' ∧ e.kin.isPane = false ∧ e'.kin = e.kin := by
  induction a with
  | here => exact fun _ => ⟨hB, hb, hk⟩
  | down h1 h2 h3 h4 ih =>
    rename_i k w h dn rp q q'
    intro g
    have g0 := (node_fit h1).mp g
    have gq := g0.2.2.2.1 q (by first | exact mem_mid _ _ _ | exact .head _ | exact .tail _ (.head _) | exact .tail _ (.tail _ (.head _)) | simp)
    refine letG ?_
    intro kG
    obtain ⟨i1, i2, i3⟩ := ih gq.1
    k_unfold
    clear kG
    refine ⟨?_, h1, rfl⟩
    have hq : q.kin ≠ .pane p := by intro e; rw [e] at i2; cases i2
    rw [closeF, spot_none (fun x hx => ?_), closeFL_map]
    · have same : ∀ ps : List P, (∀ x ∈ ps, x ∈ dn ∨ x ∈ rp) → (ps.map fun q => if q.kin.isPane then q else closeF p q) = ps := fun ps hp => by
        conv => rhs; rw [← List.map_id ps]
        refine List.map_congr_left fun x hx => ?_
        have hx' := hp x hx
        have hg := g0.2.2.2.1 x (by rcases hx' with h | h <;> simp [h])
        cases hx2 : x.kin.isPane with
        | true => rfl
        | false => exact closeF_off x.sz x (Nat.le_refl _) hg.1 hx2 (hx'.elim (h2 x) (h3 x))
      (try dsimp only)
      rw [List.map_append, List.map_cons, same dn fun x hx => .inl hx, same rp fun x hx => .inr hx, i2, i1]
      simp only [Bool.false_eq_true, if_false]
      rw [melt_same h1 fun x hx => ?_]
      simp only [List.mem_append, List.mem_cons] at hx
      rcases hx with hx | rfl | hx
      · exact (g0.2.2.2.1 x (by simp [hx])).2.1
      · rw [i3]; exact gq.2.1
      · exact (g0.2.2.2.1 x (by simp [hx])).2.1
    · simp only [List.mem_append, List.mem_cons] at hx
      rcases hx with hx | rfl | hx
      · exact off_kin (h2 x hx)
      · exact hq
      · exact off_kin (h3 x hx)
theorem eraseIdx_at : ∀ (a : List P) (x : P) (b : List P), (a ++ x :: b).eraseIdx a.length = a ++ b
  | [], x, b => rfl
  | y :: a, x, b => by rw [List.cons_append, List.length_cons, List.eraseIdx_cons_succ, eraseIdx_at a x b]; rfl
theorem closeF_leaf {p w h lw lh : Int} {k : K} {dn rp : List P} (hd : ∀ x ∈ dn, x.kin ≠ .pane p) : closeF p (mk k w h (dn ++ leaf p lw lh :: rp)) = pick k w h (bump k lw lh dn rp) := by
  obtain ⟨r, e⟩ := spot_at (dn := dn) (i := 0) (wd := lw) (ht := lh) (rp := rp) hd
  rw [closeF, e]
  (try dsimp only)
  rw [Nat.zero_add, eraseIdx_at]
  have : sideAt (sameK k .row) dn.length (dn ++ leaf p lw lh :: rp) = if sameK k .row then lw else lh := by
    unfold sideAt
    simp [side, wid, hei]
  rw [this]
  rfl
theorem AtP_nd {p : Int} {B B' e e' : P} (a : AtP p B B' e e') : e.panes.Nodup → B.panes.Nodup := by
  induction a with
  | here => exact id
  | down h1 h2 h3 h4 ih =>
    intro n
    rw [panes_node h1, panesL_append, panesL] at n
    exact ih (List.nodup_append.mp (List.nodup_append.mp n).2.1).1
theorem nd_left {p w h lw lh : Int} {k : K} {dn rp : List P} (hk : k.isPane = false) (n : (mk k w h (dn ++ leaf p lw lh :: rp)).panes.Nodup) : ∀ x ∈ dn, x.kin ≠ .pane p := by
  intro x hx e
  rw [panes_node hk, panesL_append, panesL] at n
  refine (List.nodup_append.mp n).2.2 p (mem_panesL.mpr ⟨x, hx, ?_⟩) p (by simp [panes]) rfl
  cases x with | mk k w h' ps =>
  simp only [kin] at e
  subst e
  simp [panes]
theorem Shut_law {p : Int} {e e' : P} (s : Shut p e e') (g : e.G) (nd : e.panes.Nodup) : closeF p e = e' := by
  cases s with
  | many hk hl a =>
    rename_i k w h lw lh dn rp
    refine (closeF_at a ?_ hk rfl g).1
    rw [closeF_leaf (nd_left hk (AtP_nd a nd))]
    have : (bump k lw lh dn rp).length = (dn ++ rp).length := by unfold bump; rw [modAt_len]
    generalize bump k lw lh dn rp = l at this
    match l, this with
    | [], h => rfl
    | [z], h => rw [← h] at hl; simp at hl
    | z :: z' :: l, h => rfl
  | root hk hz =>
    rw [closeF_leaf (nd_left hk nd), hz]
    rfl
  | two hg hk hz o1 o2 a =>
    rename_i gk k gw gh w h lw lh gd gr dn rp z
    have gb := (AtP_sub a g).1
    have nb := AtP_nd a nd
    refine (closeF_at a ?_ hg rfl g).1
    have g0 := (node_fit hg).mp gb
    have same : ∀ ps : List P, (∀ x ∈ ps, x ∈ gd ∨ x ∈ gr) → (ps.map fun q => if q.kin.isPane then q else closeF p q) = ps := fun ps hp => by
      conv => rhs; rw [← List.map_id ps]
      refine List.map_congr_left fun x hx => ?_
      have hx' := hp x hx
      have hg := g0.2.2.2.1 x (by rcases hx' with h | h <;> simp [h])
      cases hx2 : x.kin.isPane with
      | true => rfl
      | false => exact closeF_off x.sz x (Nat.le_refl _) hg.1 hx2 (hx'.elim (o1 x) (o2 x))
    rw [closeF, spot_none (fun x hx => ?_), closeFL_map]
    · dsimp only
      rw [List.map_append, List.map_cons, same gd fun x hx => .inl hx, same gr fun x hx => .inr hx]
      simp only [kin, hk, Bool.false_eq_true, if_false]
      have nn : (mk k w h (dn ++ leaf p lw lh :: rp)).panes.Nodup := by
        rw [panes_node hg, panesL_append, panesL] at nb
        exact (List.nodup_append.mp (List.nodup_append.mp nb).2.1).1
      rw [closeF_leaf (nd_left hk nn), hz]
      rfl
    · simp only [List.mem_append, List.mem_cons] at hx
      rcases hx with hx | rfl | hx
      · exact off_kin (o1 x hx)
      · intro e; simp only [kin] at e; subst e; cases hk
      · exact off_kin (o2 x hx)
end P
noncomputable abbrev StrD (w : World) (o : Obj) (kvs : List (Str × Value)) : Prop := o.IsDictOf (PySem.strKind PR w) kvs
theorem StrD.cls {w : World} {o : Obj} {kvs : List (Str × Value)} (h : StrD w o kvs) : o.cls = .type "dict" := by
  refine letG ?_
  intro kG
  obtain ⟨es, ep, h1, _⟩ := h
  k_unfold
  clear kG
  exact h1.1
section
variable {w : World} {A : Around} {E : Value → Shared → Prop} {s : Shared} {h₀ : Heap} {L : Addr} {m : Str → Option Value}
theorem dict_item {value slice : PySem.Expr} {d : Addr} {o : Obj} {kvs : List (Str × Value)} {N : Led} {k : Str} {t : Tok} {v : Value} {Q : Value → Shared → Prop} (n0 : News h₀ L s.heap N) (hm : (d, o) ∈ N) (hd : StrD w o kvs)
    (hl : valueAt kvs k = some v) (h : Q v { s with toks := s.toks + 1 })
    (hs : subscripted slice false (.ref d) (.str k t) = operate [.ref d, .str k t] (getItem (.ref d) (.str k t)) := by with_unfolding_all rfl) :
    wpAny (model PR w) A (subscriptTail value slice (.ref d) (.str k t)) Q E s :=
  kdt_tail (knd := PySem.strKind _ _) n0 hm hd (kdt_getItem (knd := PySem.strKind _ _) n0 hm hd (strKind_is _ _ _ _) hl h) hs
theorem dict_set {d : Addr} {o : Obj} {kvs : List (Str × Value)} {N : Led} {k : Str} {t : Tok} {v : Value} {Q : Unit → Shared → Prop} (F : Fr h₀ L s.heap m) (n0 : News h₀ L s.heap N) (hm : (d, o) ∈ N) (hd : StrD w o kvs) (hz : kvs.length ≤ 100)
    (h : ∀ h' o', Fr h₀ L h' m → News h₀ L h' ((d, o') :: wipe d N) → StrD w o' (stored kvs k v) → Q () { s with heap := h', toks := s.toks + 1 }) :
    Halt (wpAny (model PR w) A (setItem (.ref d) (.str k t) v) Q E s) :=
  kda_set (knd := PySem.strKind _ _) (g := fun o' => (d, o') :: wipe d N) F (News.focus n0 hm) (UpdF.head wipe_ne) hd (strKind_is _ _ _ _) (by rw [sizeLine_eq]; (first | (law_clear; lia) | lia | omega)) h
theorem pop_led {D : Addr} {p : List Value} {y : Value} {n : Nat} {N : Led} {Q : Value → Shared → Prop} (F : Fr h₀ L s.heap m) (n0 : News h₀ L s.heap N) (hm : (D, listOf (p ++ [y]).toArray n) ∈ N)
    (hz : (p ++ [y]).length ≤ sizeLine)
    (h : ∀ h' n', Fr h₀ L h' m → News h₀ L h' ((D, listOf p.toArray n') :: wipe D N) → Q y { s with heap := h' }) :
    Halt (wpAny (model PR w) A (call (.builtin "list.pop") [.ref D]) Q E s) := by
  have N2 := News.focus n0 hm
  have e : kl_last (p ++ [y]).toArray.toList = some (p, y) := by
    rw [List.toList_toArray]
    exact kpa_last y p
  exact kl_pop F N2 e (.head wipe_ne) (by simpa using hz) fun h' F' N' => h h' (n + 1) F' N'
end
noncomputable abbrev tupA (t1 t2 t3 t4 t5 : Tok) (a : Area) : Obj := { cls := .type "tuple", data := .seq #[.int a.pane t1, .int a.x t2, .int a.y t3, .int a.w t4, .int a.h t5] }
inductive AreasAre (N : Led) : List Value → List Area → Prop
  | nil : AreasAre N [] []
  | cons {D : Addr} {t1 t2 t3 t4 t5 : Tok} {a : Area} {vs : List Value} {as : List Area} : (D, tupA t1 t2 t3 t4 t5 a) ∈ N → AreasAre N vs as → AreasAre N (.ref D :: vs) (a :: as)
theorem AreasAre.to {N N' : Led} {vs : List Value} {as : List Area} (h : AreasAre N vs as) (k : ∀ D o, o.cls = .type "tuple" → (D, o) ∈ N → (D, o) ∈ N') : AreasAre N' vs as := by
  induction h with
  | nil => exact .nil
  | cons hm _ ih => exact .cons (k _ _ rfl hm) ih
theorem AreasAre.all {N N' : Led} {vs : List Value} {as : List Area} (h : AreasAre N vs as) (k : ∀ p ∈ N, p ∈ N') : AreasAre N' vs as := h.to fun _ _ _ hm => k _ hm
theorem AreasAre.append {N : Led} {vs us : List Value} {as bs : List Area} (h : AreasAre N vs as) (g : AreasAre N us bs) : AreasAre N (vs ++ us) (as ++ bs) := by
  induction h with
  | nil => exact g
  | cons hm _ ih => exact .cons hm ih
theorem AreasAre.length {N : Led} {vs : List Value} {as : List Area} (h : AreasAre N vs as) : vs.length = as.length := by
  induction h with
  | nil => rfl
  | cons _ _ ih => simp [ih]
theorem AreasAre.split {N : Led} {as bs : List Area} : ∀ {vs : List Value}, AreasAre N vs (as ++ bs) → ∃ us ws, vs = us ++ ws ∧ AreasAre N us as ∧ AreasAre N ws bs := by
  induction as with
  | nil => exact fun {vs} h => ⟨[], vs, rfl, .nil, h⟩
  | cons a as ih =>
    intro vs h
    cases h with
    | cons hm h =>
      refine letG ?_
      intro kG
      obtain ⟨us, ws, rfl, h1, h2⟩ := ih h
      k_unfold
      clear kG
      exact ⟨_ :: us, ws, rfl, .cons hm h1, h2⟩
noncomputable def AreasK (N₀ : Led) (as : List Area) (φ : Value → Led → Prop) : Prop :=
  ∀ N' (l : Addr) (its : List Value) (e : Nat) (h : (l, listOf its.toArray e) ∈ N') (h2 : AreasAre N' its as) (nw : New N₀ l) (sub : ∀ p ∈ N₀, p ∈ N'), φ (.ref l) N'
theorem CPost.one {h₀ : Heap} {L : Addr} {m : Str → Option Value} {I C D a : Addr} {oI oC oD o : Obj} {J : Led → Prop} {s₁ : Shared} {h' : Heap} {tk : Nat} {N : Led} {X : Prop} (F : Fr h₀ L h' m) (N' : News h₀ L h' ((a, o) :: (I, oI) :: (C, oC) :: (D, oD) :: N)) (off : ∀ p ∈ N, p.1 ≠ I ∧ p.1 ≠ C ∧ p.1 ≠ D)
    (lt : I < a ∧ C < a ∧ D < a ∧ X) (j : J ((a, o) :: N)) :
    Halt (Ex3 fun h'' tk' N' => And5 (({ s₁ with heap := h', toks := tk } : Shared) = { s₁ with heap := h'', toks := tk' }) (Fr h₀ L h'' m) (News h₀ L h'' ((I, oI) :: (C, oC) :: (D, oD) :: N')) ((∀ p ∈ N', p.1 ≠ I ∧ p.1 ≠ C ∧ p.1 ≠ D)) (J N')) :=
  CPost.same F (News.sub N' fun p hp => by simp only [List.mem_cons] at hp ⊢; rcases hp with h | h | h | h | h <;> simp [h]) (fun p hp => by
    rcases List.mem_cons.mp hp with rfl | hp
    · exact ⟨Nat.ne_of_gt lt.1, Nat.ne_of_gt lt.2.1, Nat.ne_of_gt lt.2.2.1⟩
    · exact off p hp) j
section
theorem law_areas (w : World) (n : Nat) (t : T) (N₀ : Led) (hn : t.sz ≤ n) (tin : t.In w N₀) :
    Tell w 205 [.ref t.adr] (5 * n + 60) N₀ (AreasK N₀ t.areas) := by
  unfold Tell
  intro cx A₀ base h₀ L m mean mg mb s Q E B hf hk F X N TT hd hu ret
  (refine wpAny_call ?_; k_dflt (refine' code_def ?k1 ?k2 ?k3 ?k4 ?k5 ?kA ?kF ?kK ?k6 ?k7 ?k8 ?k9 ?kB ?_ ?c2 ?c3 ?c4 ?c5; (case kA => exact rfl); (case kF => assumption); (case kK => assumption); (case k1 => k_asm); (case k2 => k_asm); (case k3 => k_asm); (case k4 => k_asm); (case k5 => k_asm); (case k6 => k_is); (case k7 => k_is); (case k8 => k_room); (case k9 => exact bnd1 "root" rfl); (case c5 => decide); (case kB => exact locs rfl); (case c2 => exact rfl); (case c3 => exact rfl); (case c4 => exact rfl); k_whole; intro _ _ _ _ _ _ _ _ _; (try dsimp only); (try (refine foldL ?_; intro kQ kE))))
  k_steps
  rename Fr _ _ _ _ => F2
  rename News _ _ _ _ => N2
  rename Below _ _ (_ :: _) _ => B2
  rename Frag.In _ _ => X2
  rename Top _ _ _ _ _ _ => T2
  have lim : n ≤ 200 := by simp only [recursionLimit] at hd; (first | (law_clear; lia) | lia | omega)
  have lv := T.leaves_len t
  refine Tell.use (layout_leaves w n t N₀ hn tin) B2 F2 X2 N2 T2 rfl rfl (by (first | exact rm1 hd (Nat.le_of_ble_eq_true rfl) | exact rm2 hd (Nat.le_of_ble_eq_true rfl) | (dsimp only; (first | (law_clear; lia) | lia | omega)))) (by (first | exact ru1 hu (Nat.le_of_ble_eq_true rfl) | exact ru2 hu (Nat.le_of_ble_eq_true rfl) | (dsimp only; (first | (law_clear; lia) | lia | omega)))) ?_
  intro kQ kM
  intro news2 l2 e2 hl2 lt2 sub2 h2 tk2 F4 N4
  clear F2 N2
  k_steps
  refine comp_led rfl F4 N4 hl2 ?_ (fun r ys N => Ex2 fun (dn rp : List T) => And5 (t.leaves = dn ++ rp) (r = (rp.map T.adr).map Value.ref) (AreasAre N ys (dn.map T.area)) ((∀ p ∈ N₀, p ∈ N)) ((l2, listOf (refsA (t.leaves.map T.adr)) e2) ∈ N))
    ⟨[], t.leaves, rfl, rfl, .nil, sub2, hl2⟩ (fun r ys N h => by obtain ⟨dn, rp, h1, h2, h3, h4, h5⟩ := h; exact h5) ?_ ?_
  · simp only [List.length_map, sizeLine_eq]
    (first | (law_clear; lia) | lia | omega)
  · intro v r ys N I oI C oC D m₂ h tk E' HI hC hx F3 N3 off ne
    (try (refine foldL ?_; intro kQ kE))
    refine letG ?_
    intro kG
    obtain ⟨dn, rp, hps, hv, hys, hN, hl⟩ := HI
    k_unfold
    clear kG
    cases rp with
    | nil => simp at hv
    | cons q rp =>
    simp only [List.map_cons, List.cons.injEq] at hv
    obtain ⟨rfl, rfl⟩ := hv
    clear F4 N4
    have hq : q ∈ t.leaves := by rw [hps]; simp
    have hqi := (T.leaves_in tin q hq).all hN
    have hqp := T.leaves_pane t q hq
    refine letG ?_
    intro kG
    obtain ⟨t1, t2, t3, t4, t5, t6, t7, tk, tw, th, tx, ty, tp, e, ha, hdd, hl0⟩ := hqi.cell
    k_unfold
    clear kG
    rw [hqp] at hdd
    dsimp only [kindV, paneV] at hdd
    k_steps
    rename _ ∧ _ ∧ _ ∧ AllLt _ N => lt
    rename Fr _ _ _ _ => F5
    rename News _ _ _ (_ :: _ :: _) => N5
    refine CPost.one F5 N5 off lt ⟨dn ++ [q], rp, by simp [hps], rfl, ?_, fun p hp => .tail _ (hN p hp), .tail _ hl⟩
    rw [List.map_append]
    exact (hys.all fun p hp => .tail _ hp).append (.cons (t1 := tp) (t2 := tx) (t3 := ty) (t4 := tw) (t5 := th) (.head _) .nil)
  · rintro ys N g ⟨dn, rp, hps, hv, hys, hN, hl⟩
    have : rp = [] := by cases rp with | nil => rfl | cons => simp at hv
    subst this
    rw [List.append_nil] at hps
    unfold LCg.FinE
    intro D h tk F3 N3 o1
    clear F4 N4
    k_steps
    refine ret _ D ys ys.length (List.Mem.head _) ?_ (fun p hp => off1_mem o1 p (hN p hp)) (fun p hp => List.mem_cons_of_mem _ (hN p hp)) _ _ (by k_asm) (by k_asm)
    rw [T.areas_eq, hps]
    exact hys.all fun p hp => .tail _ hp
end
section
open PySem.SeqAt
variable {w : World} {A : Around} {E : Value → Shared → Prop} {s : Shared} {h₀ : Heap} {L : Addr} {N : Led}
theorem islist_led {a : Addr} {xs : List Value} {n : Nat} (n0 : News h₀ L s.heap N) (hm : (a, listOf xs.toArray n) ∈ N) : s.heap.IsList a xs.toArray := ⟨_, (n0 _ hm).1, rfl, _, rfl⟩
theorem istup_led {a : Addr} {its : Array Value} {n : Nat} (n0 : News h₀ L s.heap N) (hm : (a, ({ cls := .type "tuple", data := .seq its n } : Obj)) ∈ N) : s.heap.IsTuple a its := ⟨_, (n0 _ hm).1, rfl, _, rfl⟩
theorem int_at (x : Int) (t u : Tok) : EqAt A s (.int x t) (.int x u) true := by
  have := EqAt.int_int (A := A) (s := s) x t x u
  rwa [beq_self_eq_true] at this
theorem area_at {D D' : Addr} {t1 t2 t3 t4 t5 u1 u2 u3 u4 u5 : Tok} {a : Area} (n0 : News h₀ L s.heap N) (h1 : (D, tupA t1 t2 t3 t4 t5 a) ∈ N) (h2 : (D', tupA u1 u2 u3 u4 u5 a) ∈ N) (hu : A.units < cLine) : EqAt A s (.ref D) (.ref D') true := by
  by_cases e : D = D'
  · subst e; exact EqAt.same _
  · refine EqAt.of_refs e ?_
    have := RcAt.tuples (A := A) (e := fun _ => true) (istup_led n0 h1) (istup_led n0 h2) hu (fun j h1 h2 => by
      rcases j with _ | _ | _ | _ | _ | j
      · exact int_at _ _ _
      · exact int_at _ _ _
      · exact int_at _ _ _
      · exact int_at _ _ _
      · exact int_at _ _ _
      · simp at h1; (first | (law_clear; lia) | lia | omega))
    exact this
theorem areas_all {xs ys : List Value} {as : List Area} (n0 : News h₀ L s.heap N) (hx : AreasAre N xs as) (hu : A.units < cLine) : AreasAre N ys as → ∀ j (h1 : j < xs.length) (h2 : j < ys.length), EqAt A s xs[j] ys[j] true := by
  induction hx generalizing ys with
  | nil => intro _ j h1; cases h1
  | cons hm _ ih =>
    intro hy j h1 h2
    cases hy with
    | cons hm' hy =>
      cases j with
      | zero => exact area_at n0 hm hm' hu
      | succ j => exact ih hy j (Nat.lt_of_succ_lt_succ h1) (Nat.lt_of_succ_lt_succ h2)
theorem all_true (n : Nat) : ((List.range n).all fun _ => true) = true := by simp
theorem eq_areas {a b : Addr} {xs ys : List Value} {n n2 : Nat} {as : List Area} {Q : Value → Shared → Prop} (n0 : News h₀ L s.heap N) (ha : (a, listOf xs.toArray n) ∈ N) (hb : (b, listOf ys.toArray n2) ∈ N) (hx : AreasAre N xs as) (hy : AreasAre N ys as)
    (hu : A.units + 64 < cLine) (h : Q (.bool true) s) : Halt (wpAny (model PR w) A (compareOp .Eq (.ref a) (.ref b)) Q E s) := by
  have e := RcAt.lists (A := A) (e := fun _ => true) (islist_led n0 ha) (islist_led n0 hb) (by simp [hx.length, hy.length]) (by (first | (law_clear; lia) | lia | omega)) (fun j h1 h2 => by
    simp only [List.getElem_toArray]
    exact areas_all n0 hx (by show A.units + 1 < cLine; (first | (law_clear; lia) | lia | omega)) hy j (by simpa using h1) (by simpa using h2))
  rw [all_true] at e
  exact e _ _ _ _ h
theorem ne_areas {a b : Addr} {xs ys : List Value} {n n2 : Nat} {as : List Area} {Q : Value → Shared → Prop} (n0 : News h₀ L s.heap N) (ha : (a, listOf xs.toArray n) ∈ N) (hb : (b, listOf ys.toArray n2) ∈ N) (hx : AreasAre N xs as) (hy : AreasAre N ys as)
    (hu : A.units + 64 < cLine) (h : Q (.bool false) s) : Halt (wpAny (model PR w) A (compareOp .NotEq (.ref a) (.ref b)) Q E s) := by
  have e := RcNeAt.lists (A := A) (e := fun _ => true) (islist_led n0 ha) (islist_led n0 hb) (by simp [hx.length, hy.length]) (by (first | (law_clear; lia) | lia | omega)) (fun j h1 h2 => by
    simp only [List.getElem_toArray]
    exact areas_all n0 hx (by show A.units + 1 < cLine; (first | (law_clear; lia) | lia | omega)) hy j (by simpa using h1) (by simpa using h2))
  rw [all_true] at e
  exact e _ _ _ _ h
theorem eq_nil_led {a b : Addr} {xs : List Value} {n n2 : Nat} {Q : Value → Shared → Prop} (n0 : News h₀ L s.heap N) (ha : (a, listOf xs.toArray n) ∈ N) (hb : (b, listOf #[] n2) ∈ N)
    (hu : A.units + 64 < cLine) (h : Q (.bool xs.isEmpty) s) : Halt (wpAny (model PR w) A (compareOp .Eq (.ref a) (.ref b)) Q E s) := by
  cases xs with
  | nil => exact RcAt.lists (A := A) (e := fun _ => true) (islist_led n0 ha) (islist_led (xs := []) n0 hb) rfl (by (first | (law_clear; lia) | lia | omega)) (fun j h1 h2 => by simp at h1) _ _ _ _ h
  | cons x xs => exact RcAt.lists_lengths (A := A) (islist_led n0 ha) (islist_led (xs := []) n0 hb) (by first | exact mem_mid _ _ _ | exact .head _ | exact .tail _ (.head _) | exact .tail _ (.tail _ (.head _)) | simp) (by (first | (law_clear; lia) | lia | omega)) _ _ _ _ h
theorem ne_nil_led {a b : Addr} {xs : List Value} {n n2 : Nat} {Q : Value → Shared → Prop} (n0 : News h₀ L s.heap N) (ha : (a, listOf xs.toArray n) ∈ N) (hb : (b, listOf #[] n2) ∈ N)
    (hu : A.units + 64 < cLine) (h : Q (.bool (!xs.isEmpty)) s) : Halt (wpAny (model PR w) A (compareOp .NotEq (.ref a) (.ref b)) Q E s) := by
  cases xs with
  | nil => exact RcNeAt.lists (A := A) (e := fun _ => true) (islist_led n0 ha) (islist_led (xs := []) n0 hb) rfl (by (first | (law_clear; lia) | lia | omega)) (fun j h1 h2 => by simp at h1) _ _ _ _ h
  | cons x xs => exact RcNeAt.lists_lengths (A := A) (islist_led n0 ha) (islist_led (xs := []) n0 hb) (by first | exact mem_mid _ _ _ | exact .head _ | exact .tail _ (.head _) | exact .tail _ (.tail _ (.head _)) | simp) (by (first | (law_clear; lia) | lia | omega)) _ _ _ _ h
theorem ne_ints {a b : Addr} {xs ys : List Value} {n n2 : Nat} {ns ms : List Int} {Q : Value → Shared → Prop} (n0 : News h₀ L s.heap N) (ha : (a, listOf xs.toArray n) ∈ N) (hb : (b, listOf ys.toArray n2) ∈ N) (hx : IntsAre xs ns) (hy : IntsAre ys ms)
    (hu : A.units + 64 < cLine) (h : Q (.bool (!decide (ns = ms))) s) : Halt (wpAny (model PR w) A (compareOp .NotEq (.ref a) (.ref b)) Q E s) :=
  ne_intsK (islist_led n0 ha) hx (islist_led n0 hb) hy hu h
end
noncomputable abbrev deckL (cl : Addr) (mx tu : Int) (tm tt : Tok) : List (Str × Value) := [(Str.ofString "cells", .ref cl), (Str.ofString "mixed", .int mx tm), (Str.ofString "turn", .int tu tt)]
inductive DeckIn (w : World) (N : Led) (dk cl : Addr) (j : Nat) : Prop
  | intro (o : Obj) (tm tt : Tok) (mx tu : Int) (its : List Value) (e : Nat) (h1 : (dk, o) ∈ N) (h2 : StrD w o (deckL cl mx tu tm tt)) (h3 : (cl, listOf its.toArray e) ∈ N) (rest : (∀ v ∈ its, ∃ i t, v = .int i t) ∧ its.length ≤ 16 ∧ 0 ≤ mx ∧ mx < 2147483587 ∧ 0 ≤ tu ∧ tu ≤ j)
noncomputable def DrawK (w : World) (N : Led) (dk cl : Addr) (j : Nat) (below : Int) (φ : Value → Led → Prop) : Prop :=
  ∀ N' (v : Int) (tv : Tok) (h1 : 0 ≤ v) (h2 : v < below) (h3 : DeckIn w N' dk cl (j + 1)) (keep : ∀ p ∈ N, p.1 ≠ dk → p.1 ≠ cl → p ∈ N'), φ (.int v tv) N'
section
example : True := by
  k_with "subscriptTail" => (k_dflt (refine dict_item (by k_asm) (by k_mem) (by assumption) (by rfl) ?_); (try dsimp only))
  k_with "setItem ref str" => (refine halt ?_)
  k_with "compareOp NotEq ref ref" => (refine halt ?_)
  k_with "call builtin:list.append" => (refine halt ?_)
  trivial
theorem law_draw (w : World) (N₀ : Led) (dk cl : Addr) (below : Int) (tb : Tok) (hb : 0 < below) (hb2 : below < 1000) (j : Nat) (hj : j ≤ 1000) (hdk : DeckIn w N₀ dk cl j) :
    Tell w 193 [.ref dk, .int below tb] 20 N₀ (DrawK w N₀ dk cl j below) := by
  unfold Tell
  intro cx A₀ base h₀ L m mean mg mb s Q E B hf hk F X N TT hd hu ret
  refine letG ?_
  intro kG
  obtain ⟨o, tm, tt, mx, tu, its, e, hdm, hdd, hcm, hints, hlen, hm0, hm1, ht0, ht1⟩ := hdk
  k_unfold
  clear kG
  have dc : cl ≠ dk := News.ne_of N hcm hdm (by rw [StrD.cls hdd]; simp)
  rcases List.eq_nil_or_concat its with rfl | ⟨ys, y, hcat⟩
  · (refine wpAny_call ?_; k_dflt (refine' code_def ?k1 ?k2 ?k3 ?k4 ?k5 ?kA ?kF ?kK ?k6 ?k7 ?k8 ?k9 ?kB ?_ ?c2 ?c3 ?c4 ?c5; (case kA => exact rfl); (case kF => assumption); (case kK => assumption); (case k1 => k_asm); (case k2 => k_asm); (case k3 => k_asm); (case k4 => k_asm); (case k5 => k_asm); (case k6 => k_is); (case k7 => k_is); (case k8 => k_room); (case k9 => exact bnd2 "deck" "below" rfl); (case c5 => decide); (case kB => exact locs rfl); (case c2 => exact rfl); (case c3 => exact rfl); (case c4 => exact rfl); k_whole; intro _ _ _ _ _ _ _ _ _; (try dsimp only); (try (refine foldL ?_; intro kQ kE))))
    k_steps
    rename Fr _ _ _ _ => F2
    rename News _ _ _ _ => N2
    refine dict_set F2 N2 hdm hdd (by first | exact mem_mid _ _ _ | exact .head _ | exact .tail _ (.head _) | exact .tail _ (.tail _ (.head _)) | simp) ?_
    intro h3 o3 F3 N3 hd3
    change StrD w o3 (deckL cl mx _ tm _) at hd3
    (try dsimp only)
    have hc' := mem_wipe hcm dc
    have keep : ∀ p ∈ N₀, p.1 ≠ dk → p ∈ wipe dk N₀ := fun p h n => mem_wipe h n
    clear F2 N2 hdm hdd
    k_steps
    rename Fr _ _ _ _ => F4
    rename News _ _ _ (_ :: _) => N4
    refine ne_nil_led (xs := []) N4 (.tail _ (.tail _ hc')) (.head _) (by ((try simp only [units_in1, units_deeper]); (try dsimp only); (first | (law_clear; lia) | lia | omega))) ?_
    (try dsimp only [List.isEmpty, Bool.not_true])
    k_steps
    refine ret _ _ _ (Int.fmod_nonneg_of_pos _ hb) (Int.fmod_lt_of_pos _ hb) ⟨o3, _, _, _, _, [], _, .tail _ (.head _), hd3, .tail _ (.tail _ hc'), hints, hlen, hm0, hm1, by (first | (law_clear; lia) | lia | omega), by (first | (law_clear; lia) | lia | omega)⟩ (fun p hp h1 h2 => .tail _ (.tail _ (keep p hp h1))) _ _ (by k_asm) (by k_asm)
  · rw [List.concat_eq_append] at hcat
    subst hcat
    (refine wpAny_call ?_; k_dflt (refine' code_def ?k1 ?k2 ?k3 ?k4 ?k5 ?kA ?kF ?kK ?k6 ?k7 ?k8 ?k9 ?kB ?_ ?c2 ?c3 ?c4 ?c5; (case kA => exact rfl); (case kF => assumption); (case kK => assumption); (case k1 => k_asm); (case k2 => k_asm); (case k3 => k_asm); (case k4 => k_asm); (case k5 => k_asm); (case k6 => k_is); (case k7 => k_is); (case k8 => k_room); (case k9 => exact bnd2 "deck" "below" rfl); (case c5 => decide); (case kB => exact locs rfl); (case c2 => exact rfl); (case c3 => exact rfl); (case c4 => exact rfl); k_whole; intro _ _ _ _ _ _ _ _ _; (try dsimp only); (try (refine foldL ?_; intro kQ kE))))
    k_steps
    rename Fr _ _ _ _ => F2
    rename News _ _ _ _ => N2
    refine dict_set F2 N2 hdm hdd (by first | exact mem_mid _ _ _ | exact .head _ | exact .tail _ (.head _) | exact .tail _ (.tail _ (.head _)) | simp) ?_
    intro h3 o3 F3 N3 hd3
    change StrD w o3 (deckL cl mx _ tm _) at hd3
    (try dsimp only)
    have hc' := mem_wipe hcm dc
    have keep : ∀ p ∈ N₀, p.1 ≠ dk → p ∈ wipe dk N₀ := fun p h n => mem_wipe h n
    clear F2 N2 hdm hdd
    k_steps
    rename Fr _ _ _ _ => F4
    rename News _ _ _ (_ :: _) => N4
    refine ne_nil_led (xs := ys ++ [y]) N4 (.tail _ (.tail _ hc')) (.head _) (by ((try simp only [units_in1, units_deeper]); (try dsimp only); (first | (law_clear; lia) | lia | omega))) ?_
    rw [show (ys ++ [y]).isEmpty = false by simp]
    (try dsimp only [Bool.not_false])
    refine letG ?_
    intro kG
    obtain ⟨yi, yt, rfl⟩ := hints y (by first | exact mem_mid _ _ _ | exact .head _ | exact .tail _ (.head _) | exact .tail _ (.tail _ (.head _)) | simp)
    k_unfold
    clear kG
    k_steps
    rename Fr _ _ _ _ => F5
    rename News _ _ _ (_ :: _) => N5
    refine letG ?_
    intro kG
    obtain ⟨NA, N5', hdA, subA⟩ := open_led2 N5
    k_unfold
    clear kG
    clear N5
    refine pop_led (p := ys) F5 N5' (subA _ hc') (by rw [sizeLine_eq]; (first | (law_clear; lia) | lia | omega)) ?_
    intro h6 n6 F6 N6
    clear F5 N5'
    have hd6 := mem_wipe (d := cl) hdA (Ne.symm dc)
    have keep6 : ∀ p ∈ N₀, p.1 ≠ dk → p.1 ≠ cl → p ∈ wipe cl NA := fun p hp h1 h2 => mem_wipe (subA _ (keep p hp h1)) h2
    have hys : ∀ v ∈ ys, ∃ i t, v = Value.int i t := fun v hv => hints v (by simp [hv])
    rw [List.length_append, List.length_singleton] at hlen
    (try dsimp only)
    k_steps
    · rename Fr _ _ _ _ => F7
      rename News _ _ _ _ => N7
      refine append_led F7 N7 (.head _) (by rw [sizeLine_eq]; (first | (law_clear; lia) | lia | omega)) ?_
      intro h8 n8 F8 N8
      clear F7 N7
      (try dsimp only)
      k_steps
      refine ret _ _ _ (Int.fmod_nonneg_of_pos _ hb) (Int.fmod_lt_of_pos _ hb) ⟨o3, _, _, _, _, _, _, .tail _ (mem_wipe (.tail _ hd6) (Ne.symm dc)), hd3, .head _, ?_, ?_, hm0, hm1, by (first | (law_clear; lia) | lia | omega), by (first | (law_clear; lia) | lia | omega)⟩ (fun p hp h1 h2 => .tail _ (mem_wipe (.tail _ (keep6 p hp h1 h2)) h2)) _ _ (by k_asm) (by k_asm)
      · intro v hv
        rcases List.mem_append.mp hv with hv | hv
        · exact hys v hv
        · simp only [List.mem_singleton] at hv
          exact ⟨_, _, hv⟩
      · simp; (first | (law_clear; lia) | lia | omega)
    · refine ret _ _ _ (Int.fmod_nonneg_of_pos _ hb) (Int.fmod_lt_of_pos _ hb) ⟨o3, _, _, _, _, ys, _, .tail _ hd6, hd3, .head _, hys, by (first | (law_clear; lia) | lia | omega), hm0, hm1, by (first | (law_clear; lia) | lia | omega), by (first | (law_clear; lia) | lia | omega)⟩ (fun p hp h1 h2 => .tail _ (keep6 p hp h1 h2)) _ _ (by k_asm) (by k_asm)
example : True := by
  k_with_none
  trivial
end
section
variable {prog : Program} {w : World} {A : Around} {E : Value → Shared → Prop} {h₀ h : Heap} {L l : Addr} {m : Str → Option Value} {news : List (Addr × Obj)} {value slice : PySem.Expr} {xs zs : List Value} {vl vu : Value} {lo hi : Option Int} {Q : Value → Shared → Prop} {n : Nat}
theorem slice_any {gn dr tk os} (F : Fr h₀ L h m) (N : News h₀ L h news) (hm : h.IsList l xs.toArray) (pl : IsPart vl lo) (pu : IsPart vu hi) (e : (slicePick xs.toArray lo hi none).toList = zs)
    (hq : ∀ D h', Fr h₀ L h' m → News h₀ L h' ((D, listOf zs.toArray 0) :: news) → (∀ p ∈ news, p.1 < D) → Q (.ref D) ⟨h', gn, dr, tk, os⟩)
    (hs : subscripted slice false (.ref l) (.ref h.objs.size) = operate [.ref h.objs.size, .ref l] (getItem (.ref l) (.ref h.objs.size))) (ht : ∀ r, letTemporaryGo value (.ref l) r = pure ()) (hz : xs.length ≤ sizeLine) :
    Halt (wpAny (model prog w) A (subscriptTail value slice (.ref l) (.ref h.objs.size)) Q E ⟨h.push { cls := .type "slice", data := .fields #[vl, vu, .none] }, gn, dr, tk, os⟩) :=
  kmk_slice_lit (s := ⟨h, gn, dr, tk, os⟩) F N hm pl pu e hq hs ht (by simpa using hz)
theorem rev_led {gn dr tk os} {vk : Value} {ops : List Value} (F : Fr h₀ L h m) (N : News h₀ L h news) (hm : (l, listOf xs.toArray n) ∈ news) (pk : IsPart vk (some (-1)))
    (hq : ∀ D h', Fr h₀ L h' m → News h₀ L h' ((D, listOf xs.reverse.toArray 0) :: news) → (∀ p ∈ news, p.1 < D) → Q (.ref D) ⟨h', gn, dr, tk, os⟩)
    (hs : subscripted slice false (.ref l) (.ref h.objs.size) = operate ops (getItem (.ref l) (.ref h.objs.size))) (ht : ∀ r, letTemporaryGo value (.ref l) r = pure ()) (hz : xs.length ≤ sizeLine) :
    Halt (wpAny (model prog w) A (subscriptTail value slice (.ref l) (.ref h.objs.size)) Q E ⟨h.push { cls := .type "slice", data := .fields #[.none, .none, vk] }, gn, dr, tk, os⟩) :=
  krv_lit (s := ⟨h, gn, dr, tk, os⟩) F N ⟨_, (N _ hm).1, rfl, _, rfl⟩ pk (by first | exact mem_mid _ _ _ | exact .head _ | exact .tail _ (.head _) | exact .tail _ (.tail _ (.head _)) | simp) hq hs ht (by simpa using hz)
end
theorem intsAre_mem {vs : List Value} {ns : List Int} (h : IntsAre vs ns) : ∀ v ∈ vs, ∃ i t, v = Value.int i t := by
  induction h with
  | nil => intro v h; cases h
  | cons i t _ ih =>
    intro v hv
    rcases List.mem_cons.mp hv with rfl | hv
    · exact ⟨_, _, rfl⟩
    · exact ih v hv
section
example : True := by
  k_with "subscriptTail" => (refine halt ?_)
  k_with "subscriptTail Name Slice ref ref" => (refine halt ?_)
  k_with "KdnMade" => (refine halt ?_)
  k_with "eval Dict" => (refine halt ?_)
  trivial
theorem law_deck (w : World) (N₀ : Led) (b : Addr) (vs : List Value) (hI : ∀ v ∈ vs, ∃ i t, v = Value.int i t) (hlen : vs.length ≤ 100)
    (dp un : Nat) (gd : Option (List Code)) (env : Env) (outer : List Env) (A₀ : Around) (base h₀ : Heap) (L : Addr) (m : Str → Option Value) (mean : ExcName → Option Value) (mg mb : Str → Option Value) (s : Shared)
    (Q E : Value → Shared → Prop) (hL : h₀.IsList b vs.toArray) (B : Below A₀ base outer h₀) (hf : env.frame = some L) (hk : env.scope.kind = .function) (F : Fr h₀ L s.heap m) (X : (heapO w.params).In h₀) (N : News h₀ L s.heap N₀) (TT : TopM mean mg mb h₀)
    (hd : dp + 40 < recursionLimit) (hu : un + 8 * 40 < cLine)
    (ret : ∀ r news' h' tk', Fr h₀ L h' m → News h₀ L h' news' → ((∃ dk cl, r = .ref dk ∧ DeckIn w news' dk cl 0 ∧ New N₀ dk ∧ New N₀ cl) ∧ ∀ p ∈ N₀, p ∈ news') → Q r { s with heap := h', toks := tk' }) :
    wpAny (model PR w) (topA dp un gd env outer) (call (.ref 186) [.ref b]) Q E s := by
  (refine wpAny_call ?_; k_dflt (refine' code_def ?k1 ?k2 ?k3 ?k4 ?k5 ?kA ?kF ?kK ?k6 ?k7 ?k8 ?k9 ?kB ?_ ?c2 ?c3 ?c4 ?c5; (case kA => exact rfl); (case kF => assumption); (case kK => assumption); (case k1 => k_asm); (case k2 => k_asm); (case k3 => k_asm); (case k4 => k_asm); (case k5 => k_asm); (case k6 => k_is); (case k7 => k_is); (case k8 => k_room); (case k9 => exact bnd1 "script" rfl); (case c5 => decide); (case kB => exact locs rfl); (case c2 => exact rfl); (case c3 => exact rfl); (case c4 => exact rfl); k_whole; intro _ _ _ _ _ _ _ _ _; (try dsimp only); (try (refine foldL ?_; intro kQ kE))))
  k_steps
  rename Fr h₀ L _ m => FG
  rename Fr _ _ _ _ => F2
  rename News _ _ _ _ => N2
  have hL1 := hL.at fun o e => FG.keep b o e
  have hL2 := hL1.at fun o e => F2.keep b o e
  refine slice_any F2 N2 hL2 .none (.int _ _) (pick_take 16 vs) ?_ (by with_unfolding_all rfl) (by kmk_pure) (by rw [sizeLine_eq]; (first | (law_clear; lia) | lia | omega))
  intro D1 h5 F5 N5 l5
  clear F2 N2
  (try dsimp only)
  k_steps
  have ht16 : (vs.take 16).length ≤ 16 := by rw [List.length_take]; exact Nat.min_le_left _ _
  refine comp_led rfl F5 N5 (.head _) (by rw [sizeLine_eq]; (first | (law_clear; lia) | lia | omega)) (fun r ys N => (∃ dn, vs.take 16 = dn ++ r ∧ dn.length = ys.length) ∧ (∀ v ∈ ys, ∃ i t, v = Value.int i t) ∧ (∀ p ∈ N₀, p ∈ N) ∧ (D1, listOf (vs.take 16).toArray 0) ∈ N)
    ⟨⟨[], rfl, rfl⟩, by simp, fun p hp => .tail _ hp, .head _⟩ (fun r ys N h => h.2.2.2) ?_ ?_
  · intro v r ys N I oI C oC D m₂ h tk E' HI hC hx F3 N3 off ne
    (try (refine foldL ?_; intro kQ kE))
    refine letG ?_
    intro kG
    obtain ⟨⟨dn, hdn, hdl⟩, hys, hN, hl⟩ := HI
    k_unfold
    clear kG
    refine letG ?_
    intro kG
    obtain ⟨i, t, rfl⟩ := hI v (List.mem_of_mem_take (by rw [hdn]; simp))
    k_unfold
    clear kG
    clear F5 N5
    k_steps
    refine CPost.same F3 N3 off ⟨⟨dn ++ [.int i t], by rw [hdn, List.append_assoc]; rfl, by simp [hdl]⟩, ?_, hN, hl⟩
    intro z hz
    rcases List.mem_append.mp hz with hz | hz
    · exact hys z hz
    · simp only [List.mem_singleton] at hz
      exact ⟨_, _, hz⟩
  · rintro ys N g ⟨⟨dn, hdn, hdl⟩, hys, hN, hl⟩
    rw [List.append_nil] at hdn
    have hyl : ys.length ≤ 16 := by rw [← hdl, ← hdn]; exact ht16
    unfold LCg.FinE
    intro D h tk F3 N3 o1
    have newD := off1_mem o1
    clear F5 N5
    k_steps
    rename Fr _ _ _ _ => F6
    rename News _ _ _ _ => N6
    refine letG ?_
    intro kG
    obtain ⟨NB, N6', hDB, subB⟩ := open_led2 N6
    k_unfold
    clear kG
    clear N6
    refine iter_ledS F6 N6' hDB (by rfl) (by rfl) (by rfl) (by rfl) ["mixed"] (fun av rest N' => Ex3 fun (mx : Int) (tm : Tok) (dn : List Value) => And6 (av = [some (.int mx tm)]) (ys = dn ++ rest) (0 ≤ mx) (mx < 2147483587) ((D, listOf ys.toArray ys.length) ∈ N') (∀ p ∈ N, p ∈ N'))
      ⟨_, _, [], rfl, rfl, by (first | (law_clear; lia) | lia | omega), by (first | (law_clear; lia) | lia | omega), hDB, subB⟩ (fun av rest N h => by obtain ⟨mx, tm, dn, h0, h1, h2, h3, h4, h5⟩ := h; exact h4) ?_ ?_
    · intro av v rest N' I it h tk HI hne hc F7 N7
      (try (refine foldL ?_; intro kQ kE))
      refine letG ?_
      intro kG
      obtain ⟨mx, tm, dn, rfl, hps, hm0, hm1, hDl, hN'⟩ := HI
      k_unfold
      clear kG
      refine letG ?_
      intro kG
      obtain ⟨i, t, rfl⟩ := hys v (by rw [hps]; simp)
      k_unfold
      clear kG
      clear F6 N6'
      k_steps
      refine LPostS.same (by k_asm) (by k_asm) hne ?_ ⟨_, _, dn ++ [.int i t], rfl, by rw [hps, List.append_assoc]; rfl, Int.fmod_nonneg_of_pos _ (by decide), Int.fmod_lt_of_pos _ (by decide), hDl, hN'⟩
      intro z hz1 hz2
      simp only [List.mem_cons, List.not_mem_nil, or_false, not_or] at hz2
      simp +zetaDelta [up, ovl, hz1, hz2]
    · intro av u N' h tk HI F7 N7
      (try (refine foldL ?_; intro kQ kE))
      refine letG ?_
      intro kG
      obtain ⟨mx, tm, dn, rfl, hps, hm0, hm1, hDl, hN'⟩ := HI
      k_unfold
      clear kG
      clear F6 N6'
      k_steps
      refine (?_ : wpAny _ _ _ _ _ _)
      with_reducible refine' kdn_eval (knd := PySem.strKind _ _) F7 N7 ?b1 ?b2 ?b3 (List.cons_ne_nil _ _) ?b4 ?_
      case b1 => exact Top.nolimit (by k_asm)
      case b2 => rfl
      case b3 => rfl
      case b4 => decide
      intro td h11 to F11 N11 l11 lo11 hd11
      clear F7 N7
      k_steps
      rename Fr _ _ _ _ => F12
      rename News _ _ _ _ => N12
      (try dsimp only)
      refine rev_led F12 N12 (.tail _ hDl) (.int _ _) ?_ (by with_unfolding_all rfl) (by kmk_pure) (by rw [sizeLine_eq]; (first | (law_clear; lia) | lia | omega))
      intro D2 h13 F13 N13 l13
      clear F12 N12
      (try dsimp only)
      k_steps
      (try dsimp only)
      change KdnMade _ _ _ _ _ _ _
      refine kdn_made_str F13 N13 (.tail (Nat.ne_of_gt (l13 _ (.head _))) (.head fun p hp => Nat.ne_of_lt (l11 p hp))) hd11 (by rfl) (of_decide_eq_true (by first | rfl | kernel_rfl!)) ?_
      intro h14 o14 F14 N14 hd14
      clear F13 N13
      (try dsimp only)
      k_steps
      have subN : ∀ p ∈ N₀, p ∈ N' := fun p hp => hN' _ (hN p hp)
      refine ret _ _ _ _ (by k_asm) (by k_asm) ⟨⟨td, D2, rfl, ⟨o14, _, _, mx, 0, ys.reverse, _, .tail _ (.head _), hd14, .head _, ?_, ?_, hm0, hm1, by (first | (law_clear; lia) | lia | omega), by (first | (law_clear; lia) | lia | omega)⟩, fun q hq => Nat.ne_of_lt (l11 _ (subN q hq)), fun q hq => Nat.ne_of_lt (l13 _ (.tail _ (subN q hq)))⟩, fun p hp => .tail _ (.tail _ (subN p hp))⟩
      · intro v hv
        exact hys v (List.mem_reverse.mp hv)
      · rw [List.length_reverse]; exact hyl
example : True := by
  k_with_none
  trivial
end
noncomputable def PickK (w : World) (N : Led) (dk cl : Addr) (j : Nat) (its : List Value) (φ : Value → Led → Prop) : Prop :=
  ∀ N' r (h : r ∈ its) (h2 : DeckIn w N' dk cl (j + 1)) (h3 : ∀ p ∈ N, p.1 ≠ dk → p.1 ≠ cl → p ∈ N'), φ r N'
section
example : True := by
  k_with "subscriptTail" => (refine halt ?_)
  k_with "call builtin:len" => (refine halt ?_)
  trivial
theorem law_pick (w : World) (N₀ : Led) (dk cl l : Addr) (its : List Value) (e : Nat) (j : Nat) (hj : j ≤ 1000) (hdk : DeckIn w N₀ dk cl j) (hl : (l, listOf its.toArray e) ∈ N₀) (hld : l ≠ dk) (hlc : l ≠ cl) (h0 : its ≠ []) (h1 : its.length < 1000) :
    Tell w 200 [.ref dk, .ref l] 40 N₀ (PickK w N₀ dk cl j its) := by
  unfold Tell
  intro cx A₀ base h₀ L m mean mg mb s Q E B hf hk F X N TT hd hu ret
  (refine wpAny_call ?_; k_dflt (refine' code_def ?k1 ?k2 ?k3 ?k4 ?k5 ?kA ?kF ?kK ?k6 ?k7 ?k8 ?k9 ?kB ?_ ?c2 ?c3 ?c4 ?c5; (case kA => exact rfl); (case kF => assumption); (case kK => assumption); (case k1 => k_asm); (case k2 => k_asm); (case k3 => k_asm); (case k4 => k_asm); (case k5 => k_asm); (case k6 => k_is); (case k7 => k_is); (case k8 => k_room); (case k9 => exact bnd2 "deck" "some" rfl); (case c5 => decide); (case kB => exact locs rfl); (case c2 => exact rfl); (case c3 => exact rfl); (case c4 => exact rfl); k_whole; intro _ _ _ _ _ _ _ _ _; (try dsimp only); (try (refine foldL ?_; intro kQ kE))))
  k_steps
  rename News _ _ _ _ => N2
  refine halt (len_led N2 hl (by (first | (law_clear; lia) | lia | omega)) ?_)
  (try dsimp only)
  k_steps
  rename Fr _ _ _ _ => F2
  rename News _ _ _ _ => N2
  rename Below _ _ (_ :: _) _ => B2
  rename Frag.In _ _ => X2
  rename Top _ _ _ _ _ _ => T2
  have hp : 0 < its.length := by cases its with | nil => exact absurd rfl h0 | cons => simp
  refine Tell.use (law_draw w N₀ dk cl (its.length : Int) _ (by (first | (law_clear; lia) | lia | omega)) (by (first | (law_clear; lia) | lia | omega)) j hj hdk) B2 F2 X2 N2 T2 rfl rfl (by (first | exact rm1 hd (Nat.le_of_ble_eq_true rfl) | exact rm2 hd (Nat.le_of_ble_eq_true rfl) | (dsimp only; (first | (law_clear; lia) | lia | omega)))) (by (first | exact ru1 hu (Nat.le_of_ble_eq_true rfl) | exact ru2 hu (Nat.le_of_ble_eq_true rfl) | (dsimp only; (first | (law_clear; lia) | lia | omega)))) ?_
  intro kQ kM
  intro N3 v tv hv0 hv1 hdk3 sub3 h3 tk3 F3 N3'
  clear F2 N2
  k_steps
  obtain ⟨k, rfl⟩ := Int.eq_ofNat_of_zero_le hv0
  have hk1 : k < its.length := by (first | (law_clear; lia) | lia | omega)
  have hl3 := sub3 _ hl hld hlc
  refine halt (item_led (j := k) (v := its[k]) N3' hl3 (seqIndex_at (.inl ⟨hv0, rfl⟩) hk1) (by first | exact mem_mid _ _ _ | exact .head _ | exact .tail _ (.head _) | exact .tail _ (.tail _ (.head _)) | simp) (by (first | (law_clear; lia) | lia | omega)) (by (first | (law_clear; lia) | lia | omega)) ?_)
  (try dsimp only)
  k_steps
  refine ret _ _ (List.getElem_mem hk1) hdk3 sub3 _ _ (by k_asm) (by k_asm)
example : True := by
  k_with_none
  trivial
end
noncomputable abbrev treeL (k : K) (tk tp : Tok) (z l : Addr) : List (Str × Value) := [(Str.ofString "kind", kindV k tk), (Str.ofString "pane", paneV k tp), (Str.ofString "size", .ref z), (Str.ofString "parts", .ref l)]
inductive LawIn (w : World) (N : Led) (a z l : Addr) (k : K) (wd ht : Int) (items : List Addr) : Prop
  | intro (o : Obj) (tk tp t1 t2 : Tok) (e1 e2 : Nat) (h1 : (a, o) ∈ N) (h2 : StrD w o (treeL k tk tp z l)) (h3 : (z, listOf #[.int wd t1, .int ht t2] e1) ∈ N) (h4 : (l, listOf (refsA items) e2) ∈ N)
theorem LawIn.sub {w : World} {N N' : Led} {a z l : Addr} {k : K} {wd ht : Int} {items : List Addr} (c : LawIn w N a z l k wd ht items)
    (ha : ∀ o, (a, o) ∈ N → (a, o) ∈ N') (hz : ∀ o, (z, o) ∈ N → (z, o) ∈ N') (hl : ∀ o, (l, o) ∈ N → (l, o) ∈ N') : LawIn w N' a z l k wd ht items := by
  refine letG ?_
  intro kG
  obtain ⟨o, tk, tp, t1, t2, e1, e2, h1, h2, h3, h4⟩ := c
  k_unfold
  clear kG
  exact ⟨o, tk, tp, t1, t2, e1, e2, ha _ h1, h2, hz _ h3, hl _ h4⟩
namespace T
mutual
noncomputable def Law (w : World) (N : Led) : T → Prop | mk a z l k wd ht _ _ ps => LawIn w N a z l k wd ht (ps.map adr) ∧ LawL w N ps
noncomputable def LawL (w : World) (N : Led) : List T → Prop
  | [] => True
  | p :: r => p.Law w N ∧ LawL w N r
end
theorem LawL_mem {w : World} {N : Led} : ∀ {ps : List T}, LawL w N ps → ∀ p ∈ ps, p.Law w N
  | [], _, _, h => nomatch h
  | q :: r, h, p, hp => by
    rw [LawL] at h
    rcases List.mem_cons.mp hp with rfl | hp
    · exact h.1
    · exact LawL_mem h.2 p hp
theorem LawL_of {w : World} {N : Led} : ∀ {ps : List T}, (∀ p ∈ ps, p.Law w N) → LawL w N ps
  | [], _ => by rw [LawL]; trivial
  | q :: r, h => by rw [LawL]; exact ⟨h q (by first | exact mem_mid _ _ _ | exact .head _ | exact .tail _ (.head _) | exact .tail _ (.tail _ (.head _)) | simp), LawL_of fun p hp => h p (by simp [hp])⟩
mutual
theorem Law.to {w : World} {N N' : Led} : ∀ {t : T}, t.Law w N → (∀ a ∈ t.fp, ∀ o, (a, o) ∈ N → (a, o) ∈ N') → t.Law w N'
  | mk a d l k wd ht x y ps, h, hs => by
    rw [Law] at h ⊢
    rw [fp] at hs
    exact ⟨h.1.sub (hs a (by first | exact mem_mid _ _ _ | exact .head _ | exact .tail _ (.head _) | exact .tail _ (.tail _ (.head _)) | simp)) (hs d (by first | exact mem_mid _ _ _ | exact .head _ | exact .tail _ (.head _) | exact .tail _ (.tail _ (.head _)) | simp)) (hs l (by first | exact mem_mid _ _ _ | exact .head _ | exact .tail _ (.head _) | exact .tail _ (.tail _ (.head _)) | simp)), LawL.to h.2 fun b hb => hs b (by simp [hb])⟩
theorem LawL.to {w : World} {N N' : Led} : ∀ {ps : List T}, LawL w N ps → (∀ a ∈ fpL ps, ∀ o, (a, o) ∈ N → (a, o) ∈ N') → LawL w N' ps
  | [], _, _ => by rw [LawL]; trivial
  | p :: r, h, hs => by
    rw [LawL] at h ⊢
    rw [fpL] at hs
    exact ⟨Law.to h.1 fun b hb => hs b (by simp [hb]), LawL.to h.2 fun b hb => hs b (by simp [hb])⟩
end
theorem Law.all {w : World} {N N' : Led} {t : T} (h : t.Law w N) (hs : ∀ p ∈ N, p ∈ N') : t.Law w N' := h.to fun _ _ _ hm => hs _ hm
theorem LawL.all {w : World} {N N' : Led} {ps : List T} (h : LawL w N ps) (hs : ∀ p ∈ N, p ∈ N') : LawL w N' ps := h.to fun _ _ _ hm => hs _ hm
mutual
theorem Law.has {w : World} {N : Led} : ∀ {t : T}, t.Law w N → ∀ a ∈ t.fp, ∃ o, (a, o) ∈ N
  | mk a d l k wd ht x y ps, h, b, hb => by
    rw [Law] at h
    rw [fp] at hb
    refine letG ?_
    intro kG
    obtain ⟨⟨o, tk, tp, t1, t2, e1, e2, ha, hd, hdd, hl⟩, tl⟩ := h
    k_unfold
    clear kG
    rcases List.mem_cons.mp hb with rfl | hb
    · exact ⟨_, ha⟩
    rcases List.mem_cons.mp hb with rfl | hb
    · exact ⟨_, hdd⟩
    rcases List.mem_cons.mp hb with rfl | hb
    · exact ⟨_, hl⟩
    exact LawL.has tl b hb
theorem LawL.has {w : World} {N : Led} : ∀ {ps : List T}, LawL w N ps → ∀ a ∈ fpL ps, ∃ o, (a, o) ∈ N
  | [], _, b, hb => by simp [fpL] at hb
  | p :: r, h, b, hb => by
    rw [LawL] at h
    rw [fpL] at hb
    rcases List.mem_append.mp hb with hb | hb
    · exact Law.has h.1 b hb
    · exact LawL.has h.2 b hb
end
theorem LawL_append {w : World} {N : Led} {p q : List T} (h1 : LawL w N p) (h2 : LawL w N q) : LawL w N (p ++ q) := LawL_of fun x hx => (List.mem_append.mp hx).elim (LawL_mem h1 x) (LawL_mem h2 x)
theorem LawL_split {w : World} {N : Led} {a b : List T} (h : LawL w N (a ++ b)) : LawL w N a ∧ LawL w N b :=
  ⟨LawL_of fun p hp => LawL_mem h p (List.mem_append_left _ hp), LawL_of fun p hp => LawL_mem h p (List.mem_append_right _ hp)⟩
theorem LawL_replace {w : World} {N N' : Led} {dn rp : List T} {q q' : T} (h : LawL w N (dn ++ q :: rp)) (nd : (fpL (dn ++ q :: rp)).Nodup) (h' : q'.Law w N') (keep : ∀ p ∈ N, p.1 ∉ q.fp → p ∈ N') : LawL w N' (dn ++ q' :: rp) := by
  rw [fpL_append, fpL] at nd
  have n1 := List.nodup_append.mp nd
  have n2 := List.nodup_append.mp n1.2.1
  have h1 := LawL_split h
  have h2 := h1.2
  rw [LawL] at h2
  refine LawL_append (h1.1.to fun a ha o hm => keep _ hm fun hq => n1.2.2 a ha a (List.mem_append_left _ hq) rfl) ?_
  rw [LawL]
  exact ⟨h', h2.2.to fun a ha o hm => keep _ hm fun hq => n2.2.2 a hq a ha rfl⟩
theorem Law.node {w : World} {N : Led} : ∀ {t : T}, t.Law w N → LawIn w N t.adr t.dic t.lst t.kin t.wid t.hei (t.par.map T.adr)
  | .mk _ _ _ _ _ _ _ _ _, h => by rw [Law] at h; exact h.1
end T
section
example : True := by
  k_with "KdnMade" => (refine halt ?_)
  k_with "eval Dict" => (refine halt ?_)
  trivial
noncomputable def TreeK (w : World) (N : Led) (t : T) (φ : Value → Led → Prop) : Prop :=
  ∀ N' (u : T) (h1 : u.Law w N') (h2 : ∀ a ∈ u.fp, New N a) (h3 : u.fp.Nodup) (h4 : ∀ p ∈ N, p ∈ N') (h5 : u.er = t.er), φ (.ref u.adr) N'
theorem law_tree (w : World) : ∀ (n : Nat) (t : T) (N : Led), t.sz ≤ n → t.In w N → Tell w 215 [.ref t.adr] (5 * n + 40) N (TreeK w N t) := by
  intro n
  induction n with
  | zero => intro t N h; cases t; simp [T.sz] at h
  | succ n ih =>
  intro t N₀ hn tin
  unfold Tell
  intro cx A₀ base h₀ L m mean mg mb s Q E B hf hk F X N TT hd hu ret
  cases t with | mk a d l k wd ht x y ps =>
  rw [T.In] at tin
  refine letG ?_
  intro kG
  obtain ⟨⟨t1, t2, t3, t4, t5, t6, t7, tk, tw, th, tx, ty, tp, e, ha, hdd, hl⟩, tl⟩ := tin
  k_unfold
  clear kG
  simp only [T.adr]
  (refine wpAny_call ?_; k_dflt (refine' code_def ?k1 ?k2 ?k3 ?k4 ?k5 ?kA ?kF ?kK ?k6 ?k7 ?k8 ?k9 ?kB ?_ ?c2 ?c3 ?c4 ?c5; (case kA => exact rfl); (case kF => assumption); (case kK => assumption); (case k1 => k_asm); (case k2 => k_asm); (case k3 => k_asm); (case k4 => k_asm); (case k5 => k_asm); (case k6 => k_is); (case k7 => k_is); (case k8 => k_room); (case k9 => exact bnd1 "cell" rfl); (case c5 => decide); (case kB => exact locs rfl); (case c2 => exact rfl); (case c3 => exact rfl); (case c4 => exact rfl); k_whole; intro _ _ _ _ _ _ _ _ _; (try dsimp only); (try (refine foldL ?_; intro kQ kE))))
  k_steps
  rename Fr _ _ _ _ => F2
  rename News _ _ _ _ => N2
  rename Below _ _ (_ :: _) _ => B2
  rename Frag.In _ _ => X2
  rename Top _ _ _ _ _ _ => T2
  rw [T.sz] at hn
  have hsz : T.szL ps ≤ n := by (first | (law_clear; lia) | lia | omega)
  have lim : n ≤ 200 := by simp only [recursionLimit] at hd; (first | (law_clear; lia) | lia | omega)
  refine (?_ : wpAny _ _ _ _ _ _)
  with_reducible refine' kdn_eval (knd := PySem.strKind _ _) F2 N2 ?b1 ?b2 ?b3 (List.cons_ne_nil _ _) ?b4 ?_
  case b1 => exact Top.nolimit (by k_asm)
  case b2 => rfl
  case b3 => rfl
  case b4 => decide
  intro td h11 to F11 N11 l11 lo11 hd11
  clear F2 N2
  k_steps
  rename _ < _ ∧ AllLt _ N₀ => lz
  rename Fr _ _ _ _ => F12
  rename News _ _ _ _ => N12
  have lz2 := kst_ltOf lz.2
  have lz1 := lz.1
  clear lz
  refine letG ?_
  intro kG
  obtain ⟨zl, rfl, hzlt⟩ := name_lt lz2
  k_unfold
  clear kG
  clear lz2
  have hz0 : (zl, listOf #[.int wd tw, .int ht th] 0) ∈ (zl, listOf #[.int wd tw, .int ht th] 0) :: (td, to) :: N₀ := .head _
  have htd0 : (td, to) ∈ (zl, listOf #[.int wd tw, .int ht th] 0) :: (td, to) :: N₀ := .tail _ (.head _)
  have sub0 : ∀ p ∈ N₀, p ∈ (zl, listOf #[.int wd tw, .int ht th] 0) :: (td, to) :: N₀ := fun p hp => .tail _ (.tail _ hp)
  generalize hNB : (zl, listOf #[.int wd tw, .int ht th] 0) :: (td, to) :: N₀ = NB at N12 hz0 htd0 sub0
  (try dsimp only)
  refine comp_led rfl F12 N12 (sub0 _ hl) ?_ (fun r ys N => Ex3 fun (dn rp cs : List T) => And8 (ps = dn ++ rp) (r = (rp.map T.adr).map Value.ref) (ys = (cs.map T.adr).map Value.ref) (T.LawL w N cs) ((∀ a ∈ T.fpL cs, New NB a)) ((T.fpL cs).Nodup) (T.erL cs = T.erL dn) (∀ p ∈ NB, p ∈ N))
    ⟨[], ps, [], rfl, rfl, rfl, by rw [T.LawL]; trivial, by simp [T.fpL], by simp [T.fpL], rfl, fun p hp => hp⟩ (fun r ys N h => by obtain ⟨dn, rp, cs, h1, h2, h3, h4, h5, h6, h7, h9⟩ := h; exact h9 _ (sub0 _ hl)) ?_ ?_
  · have := T.lenL ps
    simp only [List.length_map, sizeLine_eq]
    (first | (law_clear; lia) | lia | omega)
  · intro v r ys N I oI C oC D m₂ h tk E' HI hC hx F3 N3 off ne
    (try (refine foldL ?_; intro kQ kE))
    refine letG ?_
    intro kG
    obtain ⟨dn, rp, cs, hps, hv, hys, hcs, hnew, hnd, her, hN⟩ := HI
    k_unfold
    clear kG
    cases rp with
    | nil => simp at hv
    | cons q rp =>
    simp only [List.map_cons, List.cons.injEq] at hv
    obtain ⟨rfl, rfl⟩ := hv
    clear F12 N12
    k_steps
    have hq : q.In w ((I, oI) :: (C, oC) :: (D, LCg.lst ys) :: N) := (T.InL_mem tl q (by first | exact hps ▸ mem_mid _ _ _ | simp [hps])).all fun p hp => .tail _ (.tail _ (.tail _ (hN p (sub0 _ hp))))
    have hqz : q.sz ≤ n := by rw [hps, T.szL_append, T.szL] at hsz; (first | (law_clear; lia) | lia | omega)
    refine Tell.use (ih q _ hqz hq) B2 F3 X2 N3 T2 rfl rfl (by (first | exact rm1 hd (Nat.le_of_ble_eq_true rfl) | exact rm2 hd (Nat.le_of_ble_eq_true rfl) | (dsimp only; (first | (law_clear; lia) | lia | omega)))) (by (first | exact ru1 hu (Nat.le_of_ble_eq_true rfl) | exact ru2 hu (Nat.le_of_ble_eq_true rfl) | (dsimp only; (first | (law_clear; lia) | lia | omega)))) ?_
    intro kQ kM
    intro news2 u hin hnw hnd' hsub her' h2 tk2 F4 N4
    clear F3 N3
    k_steps
    have offt : ∀ a ∈ u.fp, a ≠ I ∧ a ≠ C ∧ a ≠ D := fun a ha => ⟨(hnw a ha _ (.head _)).symm, (hnw a ha _ (.tail _ (.head _))).symm, (hnw a ha _ (.tail _ (.tail _ (.head _)))).symm⟩
    have hup : ∀ p ∈ N, p ∈ wipe3 I C D news2 := fun p hp => mem_wipe3 (hsub _ (.tail _ (.tail _ (.tail _ hp)))) (off p hp)
    refine CPost.intro F4 N4 (hsub _ (.head _)) (hsub _ (.tail _ (.head _))) (hsub _ (.tail _ (.tail _ (.head _)))) ⟨dn ++ [q], rp, cs ++ [u], by simp [hps], rfl, by simp [hys], ?_, ?_, ?_, ?_, fun p hp => hup _ (hN p hp)⟩
    · exact T.LawL_append (hcs.all hup) (by rw [T.LawL]; exact ⟨hin.to fun a ha o hm => mem_wipe3 hm (offt a ha), by rw [T.LawL]; trivial⟩)
    · intro a ha
      rw [T.fpL_append] at ha
      rcases List.mem_append.mp ha with ha | ha
      · exact hnew a ha
      · simp only [T.fpL, List.append_nil] at ha
        exact (hnw a ha).sub fun p hp => .tail _ (.tail _ (.tail _ (hN p hp)))
    · rw [T.fpL_append]
      simp only [T.fpL, List.append_nil]
      refine List.nodup_append.mpr ⟨hnd, hnd', fun a ha b hb e => ?_⟩
      subst e
      obtain ⟨o, ho⟩ := hcs.has a ha
      exact hnw a hb _ (.tail _ (.tail _ (.tail _ ho))) rfl
    · simp [T.erL_append, T.erL, her, her']
  · rintro ys N g ⟨dn, rp, cs, hps, hv, hys, hcs, hnew, hnd, her, hN⟩
    have : rp = [] := by cases rp with | nil => rfl | cons => simp at hv
    subst this
    rw [List.append_nil] at hps
    subst hps
    unfold LCg.FinE
    intro D h tk F3 N3 o1
    clear F12 N12
    have newD := off1_mem o1
    have htdN := hN _ htd0
    have hzN := hN _ hz0
    have tdD : td ≠ D := newD _ htdN
    have N4 := News.focus N3 (.tail _ htdN)
    clear N3
    k_steps
    (try dsimp only)
    change KdnMade _ _ _ _ _ _ _
    refine kdn_made_str F3 N4 (.head wipe_ne) hd11 (by rfl) (of_decide_eq_true (by first | rfl | kernel_rfl!)) ?_
    intro h14 o14 F14 N14 hd14
    clear F3 N4
    (try dsimp only)
    k_steps
    have tdz : zl ≠ td := Nat.ne_of_gt lz1
    have keepN : ∀ p ∈ N, p.1 ≠ td → p ∈ (td, o14) :: wipe td ((D, LCg.lst ys) :: N) := fun p hp hne => .tail _ (mem_wipe (.tail _ hp) hne)
    have hfpL : ∀ a ∈ T.fpL cs, a ≠ td ∧ a ≠ zl ∧ a ≠ D := fun a ha => ⟨(hnew a ha _ htd0).symm, (hnew a ha _ hz0).symm, by obtain ⟨o, ho⟩ := hcs.has a ha; exact newD _ ho⟩
    have newtd : New N₀ td := fun q hq => Nat.ne_of_lt (l11 _ hq)
    refine ret _ (T.mk td zl D k wd ht 0 0 cs) ?_ ?_ ?_ (fun p hp => keepN _ (hN _ (sub0 _ hp)) (newtd p hp)) ?_ _ _ (by k_asm) (by k_asm)
    · rw [T.Law]
      refine ⟨⟨o14, _, _, tw, th, 0, ys.length, .head _, hd14, keepN _ hzN tdz, .tail _ (mem_wipe ?_ tdD.symm)⟩, hcs.to fun a ha o hm => keepN _ hm (hfpL a ha).1⟩
      rw [refsA, ← hys]
      exact .head _
    · intro b hb
      rw [T.fp] at hb
      rcases List.mem_cons.mp hb with rfl | hb
      · exact newtd
      rcases List.mem_cons.mp hb with rfl | hb
      · exact fun q hq => Nat.ne_of_lt (hzlt _ hq)
      rcases List.mem_cons.mp hb with rfl | hb
      · exact fun p hp => newD p (hN p (sub0 _ hp))
      · exact (hnew b hb).sub sub0
    · rw [T.fp]
      have zD : zl ≠ D := newD _ hzN
      have h4 : td ∉ T.fpL cs := fun hb => (hfpL td hb).1 rfl
      have h5 : zl ∉ T.fpL cs := fun hb => (hfpL zl hb).2.1 rfl
      have h6 : D ∉ T.fpL cs := fun hb => (hfpL D hb).2.2 rfl
      simp [tdz.symm, tdD, zD, h4, h5, h6, hnd]
    · simp [T.er, her]
example : True := by
  k_with_none
  trivial
end
section
variable {prog : Program} {w : World} {A : Around} {E : Value → Shared → Prop} {s : Shared} {env : Env} {h₀ : Heap} {x : Str} {body : List Stmt} {Q : Flow → Shared → Prop}
theorem rangeRest_of {S : List Str} {I : Addr} {a : Int} {n : Nat} {m₀ : Str → Option Value} (Inv : List (Option Value) → Nat → Led → Prop)
    (turn : ∀ av i t N it h tk, i < n → Inv av i N → (∀ p ∈ N, p.1 ≠ I) → Fr h₀ env.locals h (up x (some (.int (a + (i : Int)) t)) (ovl (S.zip av) m₀)) → News h₀ env.locals h ((I, it) :: N) →
      wpAny (model prog w) A (execs body env) (LPostS h₀ env.locals { s with heap := h, toks := tk } x S m₀ I it (fun av N => Inv av (i + 1) N) Q) E { s with heap := h, toks := tk })
    (done : ∀ av u N h tk, Inv av n N → Fr h₀ env.locals h (up x u (ovl (S.zip av) m₀)) → News h₀ env.locals h N → Q .next { s with heap := h, toks := tk }) :
    ∀ (k i : Nat) (m : Str → Option Value) (N : Led), i + k = n → (∀ z, z ≠ x → z ∉ S → m z = m₀ z) → Inv (S.map m) i N → (∀ p ∈ N, p.1 ≠ I) → RangeRest prog w A E h₀ env x body Q s I a n k i m N := by
  have canon : ∀ m : Str → Option Value, (∀ z, z ≠ x → z ∉ S → m z = m₀ z) → m = up x (m x) (ovl (S.zip (S.map m)) m₀) := by
    intro m hm
    have e := ovl_map (x :: S) m m₀ fun z hz => hm z (fun h => hz (by simp [h])) fun h => hz (by simp [h])
    exact e.symm
  intro k
  induction k with
  | zero =>
    intro i m N hi hm hI hne
    refine RangeRest.zero fun h tk F' N' => ?_
    have : i = n := by (first | (law_clear; lia) | lia | omega)
    subst this
    exact done _ (m x) N h tk hI (canon m hm ▸ F') N'
  | succ k ih =>
    intro i m N hi hm hI hne
    refine RangeRest.succ fun t h tk F' N' => ?_
    have F2 : Fr h₀ env.locals h (up x (some (.int (a + (i : Int)) t)) (ovl (S.zip (S.map m)) m₀)) := by
      have F3 : Fr h₀ env.locals h (up x (some (.int (a + (i : Int)) t)) m) := F'
      rw [canon m hm, up_up] at F3
      exact F3
    refine wpAny_mono (turn _ i t N _ h tk (by (first | (law_clear; lia) | lia | omega)) hI hne F2 N') (fun f s₂ p => ?_) fun _ _ e => e
    cases f with
    | ret v => exact p
    | brk => exact p
    | next =>
      refine letG ?_
      intro kG
      obtain ⟨h', tk', m', N'', e, F'', N3, hne', hm', j⟩ := p
      k_unfold
      clear kG
      exact ⟨h', tk', m', N'', e, F'', N3, hne', ih (i + 1) m' N'' (by (first | (law_clear; lia) | lia | omega)) hm' j hne'⟩
    | cont =>
      refine letG ?_
      intro kG
      obtain ⟨h', tk', m', N'', e, F'', N3, hne', hm', j⟩ := p
      k_unfold
      clear kG
      exact ⟨h', tk', m', N'', e, F'', N3, hne', ih (i + 1) m' N'' (by (first | (law_clear; lia) | lia | omega)) hm' j hne'⟩
theorem iter_rngS {L : Addr} {r : Addr} {a b : Int} {t₀ u₀ v₀ : Tok} {n : Nat} {m₀ : Str → Option Value} {news : Led} (hr : IsRange s.heap r a b 1 t₀ u₀ v₀) (F : Fr h₀ L s.heap m₀) (N : News h₀ L s.heap news) (hsmall : Builtin.Range.small a b 1 = true) (hn : Builtin.Range.rangeSize a b 1 = (n : Int)) (hL : env.locals = L) (hh : A.handled = none)
    (S : List Str) (Inv : List (Option Value) → Nat → Led → Prop) (h0 : Inv (S.map m₀) 0 news)
    (turn : ∀ av i t N I it h tk, i < n → Inv av i N → (∀ p ∈ N, p.1 ≠ I) → Fr h₀ L h (up x (some (.int (a + (i : Int)) t)) (ovl (S.zip av) m₀)) → News h₀ L h ((I, it) :: N) →
      wpAny (model prog w) A (execs body env) (LPostS h₀ L { s with heap := h, toks := tk } x S m₀ I it (fun av N => Inv av (i + 1) N) Q) E { s with heap := h, toks := tk })
    (done : ∀ av u N h tk, Inv av n N → Fr h₀ L h (up x u (ovl (S.zip av) m₀)) → News h₀ L h N → Q .next { s with heap := h, toks := tk }) :
    Halt (wpAny (model prog w) A (pyIter (.ref r)) (fun it s₂ => LoopAtV prog w A h₀ env x body Q E it s₂) E s) := by
  subst hL
  exact iter_rangeUnr hh hr hsmall hn F N fun I l1 => rangeRest_of Inv (fun av i t N it h tk => turn av i t N I it h tk) done n 0 m₀ news (by (first | (law_clear; lia) | lia | omega)) (fun _ _ _ => rfl) h0 fun p hp => Nat.ne_of_lt (l1 p hp)
end
theorem range_size (a : Int) (n : Nat) : Builtin.Range.rangeSize a (a + (n : Int)) 1 = (n : Int) := by
  unfold Builtin.Range.rangeSize
  rw [if_pos (by decide)]
  split
  · rw [Int.ediv_one]; (first | (law_clear; lia) | lia | omega)
  · (first | (law_clear; lia) | lia | omega)
theorem range_small {a : Int} {n : Nat} (h0 : 0 ≤ a) (h1 : a < 100) (h : n < 2000) : Builtin.Range.small a (a + (n : Int)) 1 = true := by
  have fit : ∀ x : Int, 0 ≤ x → x < 5000 → Builtin.Range.rangeFitsLong x = true := fun x h0 h1 => by
    unfold Builtin.Range.rangeFitsLong
    simp
    (first | (law_clear; lia) | lia | omega)
  unfold Builtin.Range.small
  rw [range_size]
  simp only [fit a h0 (by (first | (law_clear; lia) | lia | omega)), fit (a + n) (by (first | (law_clear; lia) | lia | omega)) (by (first | (law_clear; lia) | lia | omega)), fit 1 (by (first | (law_clear; lia) | lia | omega)) (by (first | (law_clear; lia) | lia | omega)), fit n (by (first | (law_clear; lia) | lia | omega)) (by (first | (law_clear; lia) | lia | omega)), Bool.true_and, Bool.or_true, Bool.and_self]
  simp
  exact .inr (fit _ (by (first | (law_clear; lia) | lia | omega)) (by (first | (law_clear; lia) | lia | omega)))
noncomputable abbrev wayI (r : Bool) : Int := if r then 0 else 1
section
variable {prog : Program} {w : World} {A : Around} {E : Value → Shared → Prop} {s : Shared} {h₀ : Heap} {L : Addr} {m : Str → Option Value}
theorem kinds_item {value slice : Expr} {l : Addr} {e : Nat} {t t' u : Tok} {N : Led} {r : Bool} {Q : Value → Shared → Prop} (n0 : News h₀ L s.heap N) (hm : (l, listOf #[.str (Str.ofString "row") t, .str (Str.ofString "column") t'] e) ∈ N)
    (h : ∀ tq, Q (kindV (sideK r) tq) s) (hs : subscripted slice false (.ref l) (.int (wayI r) u) = operate [.ref l, .int (wayI r) u] (getItem (.ref l) (.int (wayI r) u)) := by with_unfolding_all rfl) : Halt (wpAny (model prog w) A (subscriptTail value slice (.ref l) (.int (wayI r) u)) Q E s) := by
  cases r
  · exact item_led (j := 1) (xs := [.str (Str.ofString "row") t, .str (Str.ofString "column") t']) n0 hm (seqIndex_at (.inl ⟨by decide, rfl⟩) (by first | exact mem_mid _ _ _ | exact .head _ | exact .tail _ (.head _) | exact .tail _ (.tail _ (.head _)) | simp)) rfl (by decide) (by decide) (h t') hs
  · exact item_led (j := 0) (xs := [.str (Str.ofString "row") t, .str (Str.ofString "column") t']) n0 hm (seqIndex_at (.inl ⟨by decide, rfl⟩) (by first | exact mem_mid _ _ _ | exact .head _ | exact .tail _ (.head _) | exact .tail _ (.tail _ (.head _)) | simp)) rfl (by decide) (by decide) (h t) hs
theorem size_item {value slice : Expr} {l : Addr} {e : Nat} {a b : Int} {t t' u : Tok} {N : Led} {r : Bool} {Q : Value → Shared → Prop} (n0 : News h₀ L s.heap N) (hm : (l, listOf #[.int a t, .int b t'] e) ∈ N)
    (h : ∀ tq, Q (.int (if r then a else b) tq) s) (hs : subscripted slice false (.ref l) (.int (wayI r) u) = operate [.ref l, .int (wayI r) u] (getItem (.ref l) (.int (wayI r) u)) := by with_unfolding_all rfl) : Halt (wpAny (model prog w) A (subscriptTail value slice (.ref l) (.int (wayI r) u)) Q E s) := by
  cases r
  · exact item_led (j := 1) (xs := [.int a t, .int b t']) n0 hm (seqIndex_at (.inl ⟨by decide, rfl⟩) (by first | exact mem_mid _ _ _ | exact .head _ | exact .tail _ (.head _) | exact .tail _ (.tail _ (.head _)) | simp)) rfl (by decide) (by decide) (h t') hs
  · exact item_led (j := 0) (xs := [.int a t, .int b t']) n0 hm (seqIndex_at (.inl ⟨by decide, rfl⟩) (by first | exact mem_mid _ _ _ | exact .head _ | exact .tail _ (.head _) | exact .tail _ (.tail _ (.head _)) | simp)) rfl (by decide) (by decide) (h t) hs
theorem size_set {l : Addr} {e : Nat} {a b v : Int} {t t' u tv : Tok} {N : Led} {r : Bool} {Q : Unit → Shared → Prop} (F : Fr h₀ L s.heap m) (n0 : News h₀ L s.heap N) (hm : (l, listOf #[.int a t, .int b t'] e) ∈ N)
    (h : ∀ h' n' u1 u2, Fr h₀ L h' m → News h₀ L h' ((l, listOf #[.int (if r then v else a) u1, .int (if r then b else v) u2] n') :: wipe l N) → Q () { s with heap := h' }) :
    Halt (wpAny (model prog w) A (setItem (.ref l) (.int (wayI r) u) (.int v tv)) Q E s) := by
  cases r
  · exact setat_led (xs := [.int a t, .int b t']) F n0 hm (by decide) (by simp [wayI]) (by decide) fun h' n' F' N' => h h' n' t tv F' N'
  · exact setat_led (xs := [.int a t, .int b t']) F n0 hm (by decide) (by simp [wayI]) (by decide) fun h' n' F' N' => h h' n' tv t' F' N'
end
theorem fmod_nat (i n : Nat) : (0 + (i : Int)).fmod (n : Int) = ((i % n : Nat) : Int) := by
  rw [Int.zero_add, Int.fmod_eq_emod_of_nonneg _ (by (first | (law_clear; lia) | lia | omega))]
  rfl
section
example : True := by
  k_with "subscriptTail" => (refine halt ?_)
  k_with "setItem ref int" => (refine halt ?_)
  k_with "call builtin:len" => (refine halt ?_)
  trivial
noncomputable def LongK (w : World) (N : Led) (t : T) (r : Bool) (m : Nat) (φ : Value → Led → Prop) : Prop :=
  ∀ N' (t' : T) (h1 : t'.Law w N') (h2 : t'.fp = t.fp) (h3 : t'.er = P.grow r m t.er) (h4 : ∀ p ∈ N, p.1 ∉ t.fp → p ∈ N'), φ .none N'
theorem law_longer (w : World) (r : Bool) : ∀ (n : Nat) (t : T) (N : Led) (m : Nat) (tw tm : Tok), t.sz ≤ n → t.Law w N → t.fp.Nodup → t.er.Ok → m < 1000 →
    Tell w 222 [.ref t.adr, .int (wayI r) tw, .int (m : Int) tm] (5 * n + 60) N (LongK w N t r m) := by
  intro n
  induction n with
  | zero => intro t N m tw tm h; cases t; simp [T.sz] at h
  | succ n ih =>
  intro t N₀ mm tw tm hn tin nd ok hmm
  unfold Tell
  intro cx A₀ base h₀ L m mean mg mb s Q E B hf hk F X N TT hd hu ret
  cases t with | mk a z l k wd ht x y ps =>
  rw [T.Law] at tin
  refine letG ?_
  intro kG
  obtain ⟨⟨o, kt, pt, t1, t2, e1, e2, ha, hdd, hz, hl⟩, tl⟩ := tin
  k_unfold
  clear kG
  simp only [T.adr]
  rw [T.sz] at hn
  have hsz : T.szL ps ≤ n := by (first | (law_clear; lia) | lia | omega)
  have lim : n ≤ 200 := by simp only [recursionLimit] at hd; (first | (law_clear; lia) | lia | omega)
  (refine wpAny_call ?_; k_dflt (refine' code_def ?k1 ?k2 ?k3 ?k4 ?k5 ?kA ?kF ?kK ?k6 ?k7 ?k8 ?k9 ?kB ?_ ?c2 ?c3 ?c4 ?c5; (case kA => exact rfl); (case kF => assumption); (case kK => assumption); (case k1 => k_asm); (case k2 => k_asm); (case k3 => k_asm); (case k4 => k_asm); (case k5 => k_asm); (case k6 => k_is); (case k7 => k_is); (case k8 => k_room); (case k9 => exact bnd3 "tree" "way" "many" rfl); (case c5 => decide); (case kB => exact locs rfl); (case c2 => exact rfl); (case c3 => exact rfl); (case c4 => exact rfl); k_whole; intro _ _ _ _ _ _ _ _ _; (try dsimp only); (try (refine foldL ?_; intro kQ kE))))
  k_steps
  ((rename News _ _ _ _ => NR); (try dsimp only); refine halt (dict_item (v := (.ref z)) NR ha hdd (by rfl) ?_); (try dsimp only); k_steps)
  rename News _ _ _ _ => N3
  refine size_item (r := r) N3 hz (fun tq => ?_)
  (try dsimp only)
  k_steps
  ((rename News _ _ _ _ => NR); (try dsimp only); refine halt (dict_item (v := (.ref z)) NR ha hdd (by rfl) ?_); (try dsimp only); k_steps)
  rename News _ _ _ _ => N4
  rename Fr _ _ _ _ => F4
  refine size_set (r := r) F4 N4 hz (fun h5 n5 u1 u2 F5 N5 => ?_)
  have az : a ≠ z := News.ne_of N ha hz (by rw [StrD.cls hdd]; simp)
  have lz : l ≠ z := fun e => by subst e; rw [T.fp] at nd; simp at nd
  rw [T.fp] at nd
  have hz1 : z ∉ T.fpL ps := fun h => by simp [h] at nd
  have hl1 : l ∉ T.fpL ps := fun h => by simp [h] at nd
  have ha1 : a ∉ T.fpL ps := fun h => by simp [h] at nd
  have nps : (T.fpL ps).Nodup := by simp at nd; exact nd.2.2.2
  obtain ⟨NB, hNB⟩ : ∃ NB, NB = (z, listOf #[.int (if r then (if r then wd else ht) + (mm : Int) else wd) u1, .int (if r then ht else (if r then wd else ht) + (mm : Int)) u2] n5) :: wipe z N₀ := ⟨_, rfl⟩
  have keep5 : ∀ p ∈ N₀, p.1 ≠ z → p ∈ NB := fun p hp h => by rw [hNB]; exact .tail _ (mem_wipe hp h)
  have hz5 : (z, listOf #[.int (if r then (if r then wd else ht) + (mm : Int) else wd) u1, .int (if r then ht else (if r then wd else ht) + (mm : Int)) u2] n5) ∈ NB := by rw [hNB]; exact .head _
  rw [← hNB] at N5
  clear hNB
  have ha5 := keep5 _ ha az
  have hl5 := keep5 _ hl lz
  have tl5 : T.LawL w NB ps := tl.to fun b hb o hm => keep5 _ hm fun e => hz1 (e ▸ hb)
  have node : ∀ N, (∀ p ∈ NB, p.1 ∉ T.fpL ps → p ∈ N) → LawIn w N a z l k (if r then wd + (mm : Int) else wd) (if r then ht else ht + (mm : Int)) (ps.map T.adr) := fun N hN => by
    refine ⟨o, kt, pt, u1, u2, n5, e2, hN _ ha5 ha1, hdd, ?_, hN _ hl5 hl1⟩
    have := hN _ hz5 hz1
    cases r
    · simpa using this
    · simpa using this
  clear F4 N4
  (try dsimp only)
  k_steps
  ((rename News _ _ _ _ => NR); (try dsimp only); refine halt (dict_item (v := (kindV k kt)) NR ha5 hdd (by rfl) ?_); (try dsimp only); k_steps)
  rename News _ _ _ (_ :: _) => N6
  refine kinds_item (r := r) N6 (.head _) (fun tq => ?_)
  (try dsimp only)
  k_steps
  have N7 := News.sub N6 (N' := NB) fun p hp => .tail _ hp
  clear N6
  have hsk := sameK_side k r
  rename Below _ _ (_ :: _) _ => B2
  rename Frag.In _ _ => X2
  rename Top _ _ _ _ _ _ => T2
  rw [T.er, P.Ok] at ok
  by_cases hk1 : k = sideK r
  · refine eq_kindB (k' := sideK r) (b := true) (by rw [hsk]; exact decide_eq_true hk1) ?_
    k_steps
    have hel : (T.erL ps).length = ps.length := T.erL_length ps
    have hlen : 2 ≤ ps.length := by
      have h1 := ok.1
      rw [hk1] at h1
      cases r <;> simp [K.isPane, T.erL_length] at h1 <;> exact h1.1
    rename IsRange _ _ _ _ _ _ _ _ => hr
    rename Fr _ _ _ _ => F8
    rename News _ _ _ _ => N8
    refine iter_rngS (n := mm) hr F8 N8 (by simpa using range_small (a := 0) (n := mm) (by (first | (law_clear; lia) | lia | omega)) (by (first | (law_clear; lia) | lia | omega)) (by (first | (law_clear; lia) | lia | omega))) (by simpa using range_size 0 mm) (by rfl) (by rfl) [] (fun av i N => ∃ (cs : List T), And5 (av = []) (cs.map T.fp = ps.map T.fp) (T.LawL w N cs) (T.erL cs = P.deal r i ps.length 0 (T.erL ps)) (∀ p ∈ NB, p.1 ∉ T.fpL ps → p ∈ N))
      ⟨ps, rfl, rfl, tl5, (P.deal_zero _ _ _ _).symm, fun p hp _ => hp⟩ ?_ ?_
    · intro av i t N I it h tk hi HI hne F9 N9
      (try (refine foldL ?_; intro kQ kE))
      refine letG ?_
      intro kG
      obtain ⟨cs, rfl, hfp, hcs, her, hN⟩ := HI
      k_unfold
      clear kG
      clear F8 N8 hr
      have hfl := T.map_fp hfp
      have ha9 := hN _ ha5 ha1
      have hl9 := hN _ hl5 hl1
      have hcl : cs.length = ps.length := by
        have := congrArg List.length hfp
        simpa using this
      have lps := T.lenL ps
      have hlen2 : (2 : Int) ≤ (((ps.map T.adr).map Value.ref).length : Int) := by simp; (first | (law_clear; lia) | lia | omega)
      k_steps
      ((rename News _ _ _ _ => NR); (try dsimp only); refine halt (dict_item (v := (.ref l)) NR (.tail _ ha9) hdd (by rfl) ?_); (try dsimp only); k_steps)
      ((rename News _ _ _ _ => NR); (try dsimp only); refine halt (dict_item (v := (.ref l)) NR (.tail _ ha9) hdd (by rfl) ?_); (try dsimp only); k_steps)
      rename News _ _ _ (_ :: _) => N10
      refine halt (len_led N10 (.tail _ hl9) (by simp; (first | (law_clear; lia) | lia | omega)) ?_)
      (try dsimp only)
      k_steps
      have hj : i % ps.length < cs.length := by rw [hcl]; exact Nat.mod_lt _ (by (first | (law_clear; lia) | lia | omega))
      have ecs : cs = cs.take (i % ps.length) ++ cs[i % ps.length] :: cs.drop (i % ps.length + 1) := by
        rw [← List.drop_eq_getElem_cons hj, List.take_append_drop]
      obtain ⟨q, hq⟩ : ∃ q, q = cs[i % ps.length] := ⟨_, rfl⟩
      rw [← hq] at ecs
      have hdl : (cs.take (i % ps.length)).length = i % ps.length := by rw [List.length_take]; exact Nat.min_eq_left (Nat.le_of_lt hj)
      obtain ⟨dn, hdn⟩ : ∃ dn, dn = cs.take (i % ps.length) := ⟨_, rfl⟩
      obtain ⟨rp, hrp⟩ : ∃ rp, rp = cs.drop (i % ps.length + 1) := ⟨_, rfl⟩
      rw [← hdn, ← hrp] at ecs
      rw [← hdn] at hdl
      clear hdn hrp
      subst ecs
      have hfl' := hfl
      rename News _ _ _ (_ :: _) => N10
      have hl9' := hl9
      rw [← hfl.2] at hl9'
      refine halt (item_led (j := i % ps.length) (v := .ref q.adr) N10 (.tail _ hl9) (seqIndex_at (.inl ⟨?_, ?_⟩) ?_) ?_ ?_ ?_ ?_)
      · simp only [List.length_map]; rw [fmod_nat]; (first | (law_clear; lia) | lia | omega)
      · simp only [List.length_map]; rw [fmod_nat]
      · simp only [List.length_map]; rw [hcl] at hj; exact hj
      · rw [← hfl.2, ← hdl]; simp
      · simp only [List.length_map]; rw [fmod_nat]; (first | (law_clear; lia) | lia | omega)
      · simp only [List.length_map]; rw [fmod_nat]; (first | (law_clear; lia) | lia | omega)
      have hqi : q.Law w N := T.LawL_mem hcs q (by first | exact mem_mid _ _ _ | exact .head _ | exact .tail _ (.head _) | exact .tail _ (.tail _ (.head _)) | simp)
      have hqI : q.Law w ((I, it) :: N) := hqi.all fun p hp => List.mem_cons_of_mem _ hp
      have hnd2 : (T.fpL (dn ++ q :: rp)).Nodup := by rw [hfl.1]; exact nps
      have hqk : ∀ b ∈ q.fp, b ≠ I := fun b hb => by
        obtain ⟨o, ho⟩ := hqi.has b hb
        exact hne _ ho
      have hqmem : ∃ p ∈ ps, p.fp = q.fp := by
        have : q.fp ∈ ps.map T.fp := by rw [← hfp]; simp
        refine letG ?_
        intro kG
        obtain ⟨p, hp, e⟩ := List.mem_map.mp this
        k_unfold
        clear kG
        exact ⟨p, hp, e⟩
      have hqz : q.sz ≤ n := by
        refine letG ?_
        intro kG
        obtain ⟨p, hp, e⟩ := hqmem
        k_unfold
        clear kG
        have h1 := T.sz_fp p
        have h2 := T.sz_fp q
        have h3 := T.szL_mem hp
        rw [e] at h1
        (first | (law_clear; lia) | lia | omega)
      have hqn : q.fp.Nodup := by
        rw [T.fpL_append, T.fpL] at hnd2
        exact (List.nodup_append.mp (List.nodup_append.mp hnd2).2.1).1
      have hqo : q.er.Ok := by
        have h1 : P.OkL (T.erL (dn ++ q :: rp)) := by rw [her]; exact P.deal_ok _ _ _ _ _ ok.2
        refine P.OkL_mem h1 _ ?_
        rw [T.erL_append, T.erL]
        simp
      have hqp : ∀ b, b ∈ q.fp → b ∈ T.fpL ps := fun b hb => by
        rw [← hfl.1, T.fpL_append, T.fpL]
        simp [hb]
      (try dsimp only)
      k_steps
      rename Fr _ _ _ _ => F11
      rename News _ _ _ _ => N11
      refine Tell.use (ih q _ 1 _ _ hqz hqI hqn hqo (by (first | (law_clear; lia) | lia | omega))) B2 F11 X2 N11 T2 rfl rfl (by (first | exact rm1 hd (Nat.le_of_ble_eq_true rfl) | exact rm2 hd (Nat.le_of_ble_eq_true rfl) | (dsimp only; (first | (law_clear; lia) | lia | omega)))) (by (first | exact ru1 hu (Nat.le_of_ble_eq_true rfl) | exact ru2 hu (Nat.le_of_ble_eq_true rfl) | (dsimp only; (first | (law_clear; lia) | lia | omega)))) ?_
      intro kQ kM
      intro N8 q' hq' hqf hqe keep8 h8 tk8 F8 N8'
      clear F11 N11
      k_steps
      refine LPostS.intro (by k_asm) (by k_asm) (keep8 _ (List.Mem.head _) fun h => hqk _ h rfl) ?_ ⟨dn ++ [q'] ++ rp, rfl, ?_, ?_, ?_, fun p hp hpf => mem_wipe (keep8 _ (List.mem_cons_of_mem _ (hN p hp hpf)) fun h => hpf (hqp _ h)) (hne p (hN p hp hpf))⟩
      · intro z hz1 hz2
        simp +zetaDelta [up, ovl, hz1, hz2]
      · rw [← hfp]; simp [hqf]
      · rw [List.append_assoc]
        refine T.LawL_replace hcs hnd2 (hq'.to fun b hb o hm => mem_wipe hm (hqk b (hqf ▸ hb))) fun p hp hpq => mem_wipe (keep8 _ (List.mem_cons_of_mem _ hp) hpq) (hne p hp)
      · rw [List.append_assoc, T.erL_append]
        rw [T.erL_append, T.erL] at her
        simp only [List.cons_append, List.nil_append, T.erL, hqe, P.grow_one]
        exact P.deal_step hel her (by rw [T.erL_length]; exact hdl)
    · intro av u N h tk HI F9 N9
      (try (refine foldL ?_; intro kQ kE))
      refine letG ?_
      intro kG
      obtain ⟨cs, rfl, hfp, hcs, her, hN⟩ := HI
      k_unfold
      clear kG
      clear F8 N8 hr
      k_steps
      have hfl := T.map_fp hfp
      refine ret _ (T.mk a z l k (if r then wd + (mm : Int) else wd) (if r then ht else ht + (mm : Int)) x y cs) ?_ (by rw [T.fp, T.fp, hfl.1]) ?_ (fun p hp hpf => ?_) _ _ (by k_asm) (by k_asm)
      · rw [T.Law]
        refine ⟨?_, hcs⟩
        rw [hfl.2]
        exact node N hN
      · rw [T.er, T.er, P.grow, her, if_pos hk1, hel]
      · rw [T.fp] at hpf
        simp only [List.mem_cons, not_or] at hpf
        exact hN _ (keep5 _ hp hpf.2.1) hpf.2.2.2
  · refine eq_kindB (k' := sideK r) (b := false) (by rw [hsk]; exact decide_eq_false hk1) ?_
    k_steps
    ((rename News _ _ _ _ => NR); (try dsimp only); refine halt (dict_item (v := (.ref l)) NR ha5 hdd (by rfl) ?_); (try dsimp only); k_steps)
    rename Fr _ _ _ _ => F8
    rename News _ _ _ _ => N8
    refine iter_led0 F8 N8 hl5 (by rfl) (by rfl) (by rfl) (by rfl) (fun rest N => Ex3 fun (dn dn' rp : List T) => And6 (ps = dn ++ rp) (rest = (rp.map T.adr).map Value.ref) (T.LawL w N (dn' ++ rp)) (dn'.map T.fp = dn.map T.fp) (T.erL dn' = P.growA r mm (T.erL dn)) (∀ p ∈ NB, p.1 ∉ T.fpL ps → p ∈ N))
      ⟨[], [], ps, rfl, rfl, tl5, rfl, rfl, fun p hp _ => hp⟩ (fun rest N h => by obtain ⟨dn, dn', rp, h0, h1, h2, h3, h4, h5⟩ := h; exact h5 _ hl5 hl1) ?_ ?_
    · intro v rest N I it h tk HI hne hc2 F9 N9
      (try (refine foldL ?_; intro kQ kE))
      refine letG ?_
      intro kG
      obtain ⟨dn, dn', rp, hps, hv, hcs, hfp, her, hN⟩ := HI
      k_unfold
      clear kG
      cases rp with
      | nil => simp at hv
      | cons q rp =>
      simp only [List.map_cons, List.cons.injEq] at hv
      obtain ⟨rfl, rfl⟩ := hv
      clear F8 N8
      k_steps
      have hqz : q.sz ≤ n := by rw [hps, T.szL_append, T.szL] at hsz; (first | (law_clear; lia) | lia | omega)
      have hfl := (T.map_fp hfp).1
      have hnd2 : (T.fpL (dn' ++ q :: rp)).Nodup := by rw [T.fpL_append, hfl, ← T.fpL_append, ← hps]; exact nps
      have hqn : q.fp.Nodup := by
        rw [T.fpL_append, T.fpL] at hnd2
        exact (List.nodup_append.mp (List.nodup_append.mp hnd2).2.1).1
      have hqi : q.Law w N := T.LawL_mem hcs q (by first | exact mem_mid _ _ _ | exact .head _ | exact .tail _ (.head _) | exact .tail _ (.tail _ (.head _)) | simp)
      have hqI : q.Law w ((I, it) :: N) := hqi.all fun p hp => List.mem_cons_of_mem _ hp
      have hqo : q.er.Ok := by
        refine P.OkL_mem ok.2 _ ?_
        rw [hps, T.erL_append, T.erL]
        simp
      have hqk : ∀ b ∈ q.fp, b ≠ I := fun b hb => by
        obtain ⟨o, ho⟩ := hqi.has b hb
        exact hne _ ho
      have hqp : ∀ b, b ∈ q.fp → b ∈ T.fpL ps := fun b hb => by
        rw [hps, T.fpL_append, T.fpL]
        simp [hb]
      refine Tell.use (ih q _ mm _ _ hqz hqI hqn hqo hmm) B2 F9 X2 N9 T2 rfl rfl (by (first | exact rm1 hd (Nat.le_of_ble_eq_true rfl) | exact rm2 hd (Nat.le_of_ble_eq_true rfl) | (dsimp only; (first | (law_clear; lia) | lia | omega)))) (by (first | exact ru1 hu (Nat.le_of_ble_eq_true rfl) | exact ru2 hu (Nat.le_of_ble_eq_true rfl) | (dsimp only; (first | (law_clear; lia) | lia | omega)))) ?_
      intro kQ kM
      intro N8 q' hq' hqf hqe keep8 h8 tk8 F8 N8'
      clear F9 N9
      k_steps
      refine LPost0.intro (by k_asm) (by k_asm) (keep8 _ (List.Mem.head _) fun h => hqk _ h rfl) ⟨dn ++ [q], dn' ++ [q'], rp, by simp [hps], rfl, ?_, by simp [hfp, hqf], ?_, fun p hp hpf => mem_wipe (keep8 _ (List.mem_cons_of_mem _ (hN p hp hpf)) fun h => hpf (hqp _ h)) (hne p (hN p hp hpf))⟩
      · rw [List.append_assoc]
        refine T.LawL_replace hcs hnd2 (hq'.to fun b hb o hm => mem_wipe hm (hqk b (hqf ▸ hb))) fun p hp hpq => mem_wipe (keep8 _ (List.mem_cons_of_mem _ hp) hpq) (hne p hp)
      · rw [T.erL_append, T.erL_append, T.erL, T.erL, T.erL, T.erL, P.growA_append, her, hqe]
        rfl
    · intro u N h tk HI F9 N9
      (try (refine foldL ?_; intro kQ kE))
      refine letG ?_
      intro kG
      obtain ⟨dn, dn', rp, hps, hv, hcs, hfp, her, hN⟩ := HI
      k_unfold
      clear kG
      have : rp = [] := by cases rp with | nil => rfl | cons => simp at hv
      subst this
      rw [List.append_nil] at hps hcs
      subst hps
      clear F8 N8
      k_steps
      have hfl := T.map_fp hfp
      refine ret _ (T.mk a z l k (if r then wd + (mm : Int) else wd) (if r then ht else ht + (mm : Int)) x y dn') ?_ (by rw [T.fp, T.fp, hfl.1]) ?_ (fun p hp hpf => ?_) _ _ (by k_asm) (by k_asm)
      · rw [T.Law]
        refine ⟨?_, hcs⟩
        rw [hfl.2]
        exact node N hN
      · rw [T.er, T.er, P.grow, her, if_neg hk1]
      · rw [T.fp] at hpf
        simp only [List.mem_cons, not_or] at hpf
        exact hN _ (keep5 _ hp hpf.2.1) hpf.2.2.2
example : True := by
  k_with_none
  trivial
end
namespace P
mutual
noncomputable def placed (x y : Int) : P → List Area | mk k w h ps => match k with
  | .pane p => [⟨p, x, y, w, h⟩]
  | _ => placedL k x y ps
noncomputable def placedL (k : K) (x y : Int) : List P → List Area
  | [] => []
  | p :: r => p.placed x y ++ placedL k (if k = .row then x + (p.wid + 1) else x) (if k = .row then y else y + (p.hei + 1)) r
end
mutual
theorem placed_len : ∀ (p : P) (x y : Int), (p.placed x y).length ≤ p.sz
  | mk k w h ps, x, y => by
    have := placedL_len ps k x y
    cases k with
    | pane q => simp [placed, sz]
    | row => simp only [placed, sz]; (first | (law_clear; lia) | lia | omega)
    | col => simp only [placed, sz]; (first | (law_clear; lia) | lia | omega)
theorem placedL_len : ∀ (ps : List P) (k : K) (x y : Int), (placedL k x y ps).length ≤ szL ps
  | [], k, x, y => by simp [placedL]
  | p :: r, k, x, y => by
    rw [placedL, List.length_append, szL]
    have h1 := placed_len p x y
    have h2 := placedL_len r k (if k = .row then x + (p.wid + 1) else x) (if k = .row then y else y + (p.hei + 1))
    (first | (law_clear; lia) | lia | omega)
end
end P
namespace T
mutual
theorem areas_placed : ∀ (t : T) (x y : Int), t.At x y → t.areas = t.er.placed x y
  | mk a d l k w h x' y' ps, x, y, hat => by
    rw [At] at hat
    refine letG ?_
    intro kG
    obtain ⟨rfl, rfl, hat⟩ := hat
    k_unfold
    clear kG
    have := areasL_placed ps k x' y' hat
    cases k with
    | pane p => simp [areas, er, P.placed]
    | row => simp only [areas, er, P.placed]; exact this
    | col => simp only [areas, er, P.placed]; exact this
theorem areasL_placed : ∀ (ps : List T) (k : K) (x y : Int), AtL k x y ps → areasL ps = P.placedL k x y (erL ps)
  | [], k, x, y, _ => by simp [areasL, erL, P.placedL]
  | p :: r, k, x, y, hat => by
    rw [AtL] at hat
    rw [areasL, erL, P.placedL, areas_placed p x y hat.1, areasL_placed r k _ _ hat.2]
    have h1 : p.er.wid = p.wid := by cases p; rfl
    have h2 : p.er.hei = p.hei := by cases p; rfl
    rw [h1, h2]
    rfl
end
end T
section
example : True := by
  k_with "subscriptTail" => (refine halt ?_)
  trivial
theorem law_placed (w : World) : ∀ (n : Nat) (t : T) (N : Led) (x y : Int) (tx ty : Tok), t.sz ≤ n → t.Law w N → t.er.Ok →
    Tell w 234 [.ref t.adr, .int x tx, .int y ty] (5 * n + 40) N (AreasK N (t.er.placed x y)) := by
  intro n
  induction n with
  | zero => intro t N x y tx ty h; cases t; simp [T.sz] at h
  | succ n ih =>
  intro t N₀ x y tx ty hn tin ok
  unfold Tell
  intro cx A₀ base h₀ L m mean mg mb s Q E B hf hk F X N TT hd hu ret
  cases t with | mk a z l k wd ht x' y' ps =>
  rw [T.Law] at tin
  refine letG ?_
  intro kG
  obtain ⟨⟨o, kt, pt, t1, t2, e1, e2, ha, hdd, hz, hl⟩, tl⟩ := tin
  k_unfold
  clear kG
  simp only [T.adr]
  rw [T.sz] at hn
  rw [T.er, P.Ok] at ok
  have hsz : T.szL ps ≤ n := by (first | (law_clear; lia) | lia | omega)
  have lim : n ≤ 200 := by simp only [recursionLimit] at hd; (first | (law_clear; lia) | lia | omega)
  (refine wpAny_call ?_; k_dflt (refine' code_def ?k1 ?k2 ?k3 ?k4 ?k5 ?kA ?kF ?kK ?k6 ?k7 ?k8 ?k9 ?kB ?_ ?c2 ?c3 ?c4 ?c5; (case kA => exact rfl); (case kF => assumption); (case kK => assumption); (case k1 => k_asm); (case k2 => k_asm); (case k3 => k_asm); (case k4 => k_asm); (case k5 => k_asm); (case k6 => k_is); (case k7 => k_is); (case k8 => k_room); (case k9 => exact bnd3 "tree" "x" "y" rfl); (case c5 => decide); (case kB => exact locs rfl); (case c2 => exact rfl); (case c3 => exact rfl); (case c4 => exact rfl); k_whole; intro _ _ _ _ _ _ _ _ _; (try dsimp only); (try (refine foldL ?_; intro kQ kE))))
  k_steps
  ((rename News _ _ _ _ => NR); (try dsimp only); refine halt (dict_item (v := (kindV k kt)) NR ha hdd (by rfl) ?_); (try dsimp only); k_steps)
  cases hkp : k.isPane with
  | true =>
    refine eq_kindB (k' := .pane 0) (b := true) ((sameK_pane k 0).trans hkp) ?_
    obtain ⟨p, rfl⟩ : ∃ p, k = .pane p := by cases k <;> first | exact ⟨_, rfl⟩ | cases hkp
    k_steps
    ((rename News _ _ _ _ => NR); (try dsimp only); refine halt (dict_item (v := (.int p pt)) NR ha hdd (by rfl) ?_); (try dsimp only); k_steps)
    ((rename News _ _ _ _ => NR); (try dsimp only); refine halt (dict_item (v := (.ref z)) NR ha hdd (by rfl) ?_); (try dsimp only); k_steps)
    rename News _ _ _ _ => NR
    refine halt (item_led (j := 0) (xs := [.int wd t1, .int ht t2]) NR hz (seqIndex_at (.inl ⟨by decide, rfl⟩) (by first | exact mem_mid _ _ _ | exact .head _ | exact .tail _ (.head _) | exact .tail _ (.tail _ (.head _)) | simp)) rfl (by decide) (by decide) ?_)
    (try dsimp only)
    k_steps
    ((rename News _ _ _ _ => NR); (try dsimp only); refine halt (dict_item (v := (.ref z)) NR ha hdd (by rfl) ?_); (try dsimp only); k_steps)
    rename News _ _ _ _ => NR
    refine halt (item_led (j := 1) (xs := [.int wd t1, .int ht t2]) NR hz (seqIndex_at (.inl ⟨by decide, rfl⟩) (by first | exact mem_mid _ _ _ | exact .head _ | exact .tail _ (.head _) | exact .tail _ (.tail _ (.head _)) | simp)) rfl (by decide) (by decide) ?_)
    (try dsimp only)
    k_steps
    rename _ < _ ∧ AllLt _ N₀ => lt
    refine ret _ _ [.ref _] 0 (.head _) ?_ (fun q hq => Nat.ne_of_lt (kst_ltOf lt.2 q hq)) (fun p hp => .tail _ (.tail _ hp)) _ _ (by k_asm) (by k_asm)
    rw [T.er, P.placed]
    exact .cons (t1 := pt) (t2 := tx) (t3 := ty) (t4 := t1) (t5 := t2) (.tail _ (.head _)) .nil
  | false =>
    refine eq_kindB (k' := .pane 0) (b := false) ((sameK_pane k 0).trans hkp) ?_
    have hpl : (T.er (T.mk a z l k wd ht x' y' ps)).placed x y = P.placedL k x y (T.erL ps) := by
      rw [T.er]
      cases k with
      | pane p => cases hkp
      | row => simp only [P.placed]
      | col => simp only [P.placed]
    rw [hpl] at ret
    k_steps
    ((rename News _ _ _ _ => NR); (try dsimp only); refine halt (dict_item (v := (.ref l)) NR (.tail _ ha) hdd (by rfl) ?_); (try dsimp only); k_steps)
    rename Fr _ _ _ _ => F2
    rename News _ _ _ (_ :: _) => N2
    rename Below _ _ (_ :: _) _ => B2
    rename Frag.In _ _ => X2
    rename Top _ _ _ _ _ _ => T2
    rename ∀ p ∈ N₀, p.1 < _ => fl1
    refine letG ?_
    intro kG
    obtain ⟨fl, rfl, fl2⟩ := name_lt fl1
    k_unfold
    clear kG
    clear fl1
    refine letG ?_
    intro kG
    obtain ⟨NB, N3, hfl, subB⟩ := open_led0 N2
    k_unfold
    clear kG
    clear N2
    refine iter_ledS F2 N3 (subB _ hl) (by rfl) (by rfl) (by rfl) (by rfl) ["found", "x", "y"] (fun av rest N => Ex11 fun (dn rp : List T) (fa : Addr) (its : List Value) (e : Nat) (as : List Area) (xx yy : Int) (ux uy : Tok) (u : Option Value) => And8 (av = [some (.ref fa), some (.int xx ux), some (.int yy uy)]) (ps = dn ++ rp) (rest = (rp.map T.adr).map Value.ref) ((fa, listOf its.toArray e) ∈ N) (AreasAre N its as) (P.placedL k x y (T.erL ps) = as ++ P.placedL k xx yy (T.erL rp)) (New N₀ fa) (∀ p ∈ N₀, p ∈ N))
      ⟨[], ps, fl, [], 0, [], x, y, _, _, none, rfl, rfl, rfl, hfl, .nil, rfl, fun q hq => Nat.ne_of_lt (fl2 q hq), subB⟩ (fun av rest N h => by obtain ⟨dn, rp, fa, its, e, as, xx, yy, ux, uy, u, h0, h1, h2, h3, h4, h5, h6, h7⟩ := h; exact h7 _ hl) ?_ ?_
    · intro av v rest N I it h tk HI hne hc F9 N9
      (try (refine foldL ?_; intro kQ kE))
      refine letG ?_
      intro kG
      obtain ⟨dn, rp, fa, its, e, as, xx, yy, ux, uy, u, rfl, hps, hv, hfa, hits, hpl2, hnew, hN⟩ := HI
      k_unfold
      clear kG
      cases rp with
      | nil => simp at hv
      | cons q rp =>
      simp only [List.map_cons, List.cons.injEq] at hv
      obtain ⟨rfl, rfl⟩ := hv
      clear F2 N3
      have hqm : q ∈ ps := by rw [hps]; simp
      have hqi : q.Law w N := (T.LawL_mem tl q hqm).all hN
      have hqz : q.sz ≤ n := by have := T.szL_mem hqm; (first | (law_clear; lia) | lia | omega)
      have hqo : q.er.Ok := P.OkL_mem ok.2 _ (T.er_mem hqm)
      k_steps
      refine Tell.use (ih q _ xx yy _ _ hqz (hqi.all fun p hp => .tail _ hp) hqo) B2 F9 X2 N9 T2 rfl rfl (by (first | exact rm1 hd (Nat.le_of_ble_eq_true rfl) | exact rm2 hd (Nat.le_of_ble_eq_true rfl) | (dsimp only; (first | (law_clear; lia) | lia | omega)))) (by (first | exact ru1 hu (Nat.le_of_ble_eq_true rfl) | exact ru2 hu (Nat.le_of_ble_eq_true rfl) | (dsimp only; (first | (law_clear; lia) | lia | omega)))) ?_
      intro kQ kM
      intro N8 pl pits pe hpl8 hpits hpnew sub8 h8 tk8 F8 N8'
      clear F9 N9
      k_steps
      have hlen1 : (P.placedL k x y (T.erL ps)).length ≤ n := by
        have h1 := P.placedL_len (T.erL ps) k x y
        rw [T.szL_er] at h1
        (first | (law_clear; lia) | lia | omega)
      have hlen2 : its.length ≤ 200 := by
        rw [hits.length]
        rw [hpl2, List.length_append] at hlen1
        (first | (law_clear; lia) | lia | omega)
      have hlen3 : pits.length ≤ 200 := by
        have h1 := P.placed_len q.er xx yy
        rw [T.sz_er] at h1
        rw [hpits.length]
        (first | (law_clear; lia) | lia | omega)
      refine add_led F8 N8' (sub8 _ (.tail _ hfa)) hpl8 (by rw [sizeLine_eq]; (first | (law_clear; lia) | lia | omega)) ?_
      intro fb h10 F10 N10 fbl
      clear F8 N8'
      (try dsimp only)
      have haN := sub8 _ (.tail _ (hN _ ha))
      refine letG ?_
      intro kG
      obtain ⟨qo, qk, qp, q1, q2, qe1, qe2, hqa, hqd, hqz1, hql⟩ := (hqi.all fun p hp => sub8 _ (.tail _ hp)).node
      k_unfold
      clear kG
      have tupI : ∀ D o, o.cls = .type "tuple" → (D, o) ∈ N8 → D ≠ I := fun D o ho hm => News.ne_of N10 (.tail _ hm) (.tail _ (sub8 _ (.head _))) (by rw [ho, hc]; simp)
      have upk : ∀ p ∈ N, p ∈ wipe I ((fb, listOf (its ++ pits).toArray 0) :: N8) := fun p hp => mem_wipe (.tail _ (sub8 _ (.tail _ hp))) (hne p hp)
      have fbI : fb ≠ I := Nat.ne_of_gt (fbl _ (sub8 _ (.head _)))
      have hwq : q.er.wid = q.wid := by cases q; rfl
      have hhq : q.er.hei = q.hei := by cases q; rfl
      k_steps
      ((rename News _ _ _ _ => NR); (try dsimp only); refine halt (dict_item (v := (kindV k kt)) NR (.tail _ haN) hdd (by rfl) ?_); (try dsimp only); k_steps)
      by_cases hkr : k = .row
      · refine eq_kindB (k' := .row) (b := true) (by rw [hkr]; rfl) ?_
        k_steps
        ((rename News _ _ _ _ => NR); (try dsimp only); refine halt (dict_item (v := (.ref q.dic)) NR (.tail _ hqa) hqd (by rfl) ?_); (try dsimp only); k_steps)
        rename News _ _ _ _ => NR
        refine halt (item_led (j := 0) (xs := [.int q.wid q1, .int q.hei q2]) NR (.tail _ hqz1) (seqIndex_at (.inl ⟨by decide, rfl⟩) (by first | exact mem_mid _ _ _ | exact .head _ | exact .tail _ (.head _) | exact .tail _ (.tail _ (.head _)) | simp)) rfl (by decide) (by decide) ?_)
        (try dsimp only)
        k_steps
        refine LPostS.intro (by k_asm) (by k_asm) (.tail _ (sub8 _ (.head _))) ?_ ⟨dn ++ [q], rp, fb, its ++ pits, 0, as ++ q.er.placed xx yy, xx + q.wid + 1, yy, _, _, none, rfl, by simp [hps], rfl, mem_wipe (.head _) fbI, ?_, ?_, ?_, fun p hp => upk p (hN p hp)⟩
        · intro z hz1 hz2
          simp only [List.mem_cons, List.not_mem_nil, or_false, not_or] at hz2
          simp +zetaDelta [up, ovl, hz1, hz2]
        · exact ((hits.to fun D o ho hm => upk _ hm).append (hpits.to fun D o ho hm => mem_wipe (.tail _ hm) (tupI _ _ ho hm)))
        · rw [hpl2, T.erL, P.placedL, List.append_assoc, if_pos hkr, if_pos hkr]
          simp only [hwq, hhq, Int.add_assoc]
        · exact fun p hp => Nat.ne_of_lt (fbl _ (sub8 _ (.tail _ (hN p hp))))
      · refine eq_kindB (k' := .row) (b := false) (by cases k <;> first | rfl | exact absurd rfl hkr) ?_
        k_steps
        ((rename News _ _ _ _ => NR); (try dsimp only); refine halt (dict_item (v := (.ref q.dic)) NR (.tail _ hqa) hqd (by rfl) ?_); (try dsimp only); k_steps)
        rename News _ _ _ _ => NR
        refine halt (item_led (j := 1) (xs := [.int q.wid q1, .int q.hei q2]) NR (.tail _ hqz1) (seqIndex_at (.inl ⟨by decide, rfl⟩) (by first | exact mem_mid _ _ _ | exact .head _ | exact .tail _ (.head _) | exact .tail _ (.tail _ (.head _)) | simp)) rfl (by decide) (by decide) ?_)
        (try dsimp only)
        k_steps
        refine LPostS.intro (by k_asm) (by k_asm) (.tail _ (sub8 _ (.head _))) ?_ ⟨dn ++ [q], rp, fb, its ++ pits, 0, as ++ q.er.placed xx yy, xx, yy + q.hei + 1, _, _, none, rfl, by simp [hps], rfl, mem_wipe (.head _) fbI, ?_, ?_, ?_, fun p hp => upk p (hN p hp)⟩
        · intro z hz1 hz2
          simp only [List.mem_cons, List.not_mem_nil, or_false, not_or] at hz2
          simp +zetaDelta [up, ovl, hz1, hz2]
        · exact ((hits.to fun D o ho hm => upk _ hm).append (hpits.to fun D o ho hm => mem_wipe (.tail _ hm) (tupI _ _ ho hm)))
        · rw [hpl2, T.erL, P.placedL, List.append_assoc, if_neg hkr, if_neg hkr]
          simp only [hwq, hhq, Int.add_assoc]
        · exact fun p hp => Nat.ne_of_lt (fbl _ (sub8 _ (.tail _ (hN p hp))))
    · intro av u N h tk HI F9 N9
      (try (refine foldL ?_; intro kQ kE))
      refine letG ?_
      intro kG
      obtain ⟨dn, rp, fa, its, e, as, xx, yy, ux, uy, u, rfl, hps, hv, hfa, hits, hpl2, hnew, hN⟩ := HI
      k_unfold
      clear kG
      have : rp = [] := by cases rp with | nil => rfl | cons => simp at hv
      subst this
      clear F2 N3
      k_steps
      refine ret _ fa its e hfa ?_ hnew hN _ _ (by k_asm) (by k_asm)
      rw [hpl2, T.erL, P.placedL, List.append_nil]
      exact hits
example : True := by
  k_with_none
  trivial
end
section
variable {prog : Program} {w : World} {A : Around} {E : Value → Shared → Prop} {s : Shared} {env : Env} {h₀ : Heap} {L : Addr} {m : Str → Option Value}
open LCg LCt in
theorem compRestT_of {ct elt : Expr} {x : Str} {scope : Scope} {cl : List (Str × Addr)} {s : Shared} {S : Led → Prop} {its : List Value} {Fin : List Value → Led → Prop}
    (Inv : List Value → List Value → Led → Prop) (hin : ∀ r ys N, Inv r ys N → S N)
    (turn : ∀ v r ys N I oI C oC D m₂ h tk E', Inv (v :: r) ys N → NsObj oC m₂ → m₂ x = some v → Fr h₀ L h m → News h₀ L h ((I, oI) :: (C, oC) :: (D, lst ys) :: N) → (∀ p ∈ N, p.1 ≠ I ∧ p.1 ≠ C ∧ p.1 ≠ D) → (I ≠ C ∧ I ≠ D ∧ C ≠ D) →
      wpAny (model prog w) A (isTrue ct (compEnvC scope cl C env) (eval ct (compEnvC scope cl C env))) (fun ok s' => if ok = true then
        wpAny (model prog w) A (eval elt (compEnvC scope cl C env)) (CPost h₀ L m { s with heap := h, toks := tk } I oI C oC D (lst ys) (fun y N' => Inv r (ys ++ [y]) N')) E' s'
        else CPost h₀ L m { s with heap := h, toks := tk } I oI C oC D (lst ys) (fun _ N' => Inv r ys N') Value.none s') E' { s with heap := h, toks := tk })
    (done : ∀ ys N, Inv [] ys N → Fin ys N) :
    ∀ k i ys N, i + k = its.length → Inv (its.drop i) ys N → CompRestT prog w A h₀ L m env ct elt x scope cl s S (fun i v => its.toArray[i]? = some v) Fin k i ys N := by
  intro k
  induction k with
  | zero =>
    intro i ys N hk hI
    rw [List.drop_eq_nil_of_le (by (first | (law_clear; lia) | lia | omega))] at hI
    exact CompRestT.zero (done ys N hI)
  | succ k ih =>
    intro i ys N hk hI
    refine CompRestT.succ fun v I oI C oC D m₂ h tk E' hv hC hx F N' off ne => ?_
    have hlt : i < its.length := by (first | (law_clear; lia) | lia | omega)
    have hv' : its[i] = v := by
      have : its[i]? = some v := by simpa using hv
      rw [List.getElem?_eq_getElem hlt] at this
      exact Option.some.inj this
    rw [List.drop_eq_getElem_cons hlt, hv'] at hI
    refine wpAny_mono (turn v _ ys N I oI C oC D m₂ h tk E' hI hC hx F N' off.mem ne) (fun ok s₁ p => ?_) fun _ _ e => e
    cases ok with
    | true =>
      simp only [if_true] at p ⊢
      refine wpAny_mono p (fun y s₂ p => ?_) fun _ _ e => e
      refine letG ?_
      intro kG
      obtain ⟨h', tk', N'', e, F', N3, off', j⟩ := p
      k_unfold
      clear kG
      exact ⟨h', tk', N'', e, F', N3, Off3.of off', hin _ _ _ j, ih (i + 1) _ _ (by (first | (law_clear; lia) | lia | omega)) j⟩
    | false =>
      simp only [Bool.false_eq_true, if_false] at p ⊢
      refine letG ?_
      intro kG
      obtain ⟨h', tk', N'', e, F', N3, off', j⟩ := p
      k_unfold
      clear kG
      exact ⟨h', tk', N'', e, F', N3, Off3.of off', hin _ _ _ j, ih (i + 1) _ _ (by (first | (law_clear; lia) | lia | omega)) j⟩
open LCg LCt in
theorem compT_led {ct elt : Expr} {x : Str} {scope : Scope} {cl : List (Str × Addr)} {Fin : Shared → List Value → Led → Prop} {ax : Addr} {its : List Value} {k : Nat} {news : Led} {s₁ : Shared}
    (hh : A.handled = none) (F : Fr h₀ L s₁.heap m) (N : News h₀ L s₁.heap news) (hm : (ax, listOf its.toArray k) ∈ news) (hsz : its.length ≤ sizeLine)
    (Inv : List Value → List Value → Led → Prop) (h0 : Inv its [] news) (hin : ∀ r ys N, Inv r ys N → (ax, listOf its.toArray k) ∈ N)
    (turn : ∀ v r ys N I oI C oC D m₂ h tk E', Inv (v :: r) ys N → NsObj oC m₂ → m₂ x = some v → Fr h₀ L h m → News h₀ L h ((I, oI) :: (C, oC) :: (D, lst ys) :: N) → (∀ p ∈ N, p.1 ≠ I ∧ p.1 ≠ C ∧ p.1 ≠ D) → (I ≠ C ∧ I ≠ D ∧ C ≠ D) →
      wpAny (model prog w) A (isTrue ct (compEnvC scope cl C env) (eval ct (compEnvC scope cl C env))) (fun ok s' => if ok = true then
        wpAny (model prog w) A (eval elt (compEnvC scope cl C env)) (CPost h₀ L m { s₁ with heap := h, toks := tk } I oI C oC D (lst ys) (fun y N' => Inv r (ys ++ [y]) N')) E' s'
        else CPost h₀ L m { s₁ with heap := h, toks := tk } I oI C oC D (lst ys) (fun _ N' => Inv r ys N') Value.none s') E' { s₁ with heap := h, toks := tk })
    (done : ∀ ys N g, Inv [] ys N → Fin { s₁ with heap := g } ys N) : Halt (CompSrcT prog w A h₀ L m env ct elt x scope cl Fin (.ref ax) s₁) :=
  CompSrcT.ledger hh F N hm (by simpa using hsz) fun g => by
    have := compRestT_of (prog := prog) (w := w) (A := A) (env := env) (h₀ := h₀) (L := L) (m := m) (ct := ct) (elt := elt) (x := x) (scope := scope) (cl := cl) (s := { s₁ with heap := g }) (S := SrcAt h₀ ax its.toArray) (its := its) (Fin := Fin { s₁ with heap := g }) Inv
      (fun r ys N h => .inr ⟨_, hin _ _ _ h, rfl, _, rfl⟩) turn (fun ys N h => done ys N g h) its.length 0 [] news (by (first | (law_clear; lia) | lia | omega)) (by simpa using h0)
    simpa using this
end
noncomputable def QPost (h₀ : Heap) (L : Addr) (m : Str → Option Value) (s₁ : Shared) (its : Led) (C : Addr) (oC : Obj) (D : Addr) (oD : Obj) (J : Value → Led → Prop) (y : Value) (s₂ : Shared) : Prop :=
  Halt (Ex3 fun h' tk N' => And5 (s₂ = { s₁ with heap := h', toks := tk }) (Fr h₀ L h' m) (News h₀ L h' ((C, oC) :: (D, oD) :: (its ++ N'))) ((∀ p ∈ N', (∀ q ∈ its, p.1 ≠ q.1) ∧ p.1 ≠ C ∧ p.1 ≠ D)) (J y N'))
theorem QPost.same {h₀ : Heap} {L : Addr} {m : Str → Option Value} {its : Led} {C D : Addr} {oC oD : Obj} {J : Led → Prop} {s₁ : Shared} {h' : Heap} {tk : Nat} {N : Led} (F : Fr h₀ L h' m) (N' : News h₀ L h' ((C, oC) :: (D, oD) :: (its ++ N))) (off : ∀ p ∈ N, (∀ q ∈ its, p.1 ≠ q.1) ∧ p.1 ≠ C ∧ p.1 ≠ D) (j : J N) :
    Halt (Ex3 fun h'' tk' N' => And5 (({ s₁ with heap := h', toks := tk } : Shared) = { s₁ with heap := h'', toks := tk' }) (Fr h₀ L h'' m) (News h₀ L h'' ((C, oC) :: (D, oD) :: (its ++ N'))) ((∀ p ∈ N', (∀ q ∈ its, p.1 ≠ q.1) ∧ p.1 ≠ C ∧ p.1 ≠ D)) (J N')) := ⟨h', tk, N, rfl, F, N', off, j⟩
theorem QPost.more {h₀ : Heap} {L : Addr} {m : Str → Option Value} {its : Led} {C D a : Addr} {oC oD o : Obj} {J : Led → Prop} {s₁ : Shared} {h' : Heap} {tk : Nat} {N NB : Led} (F : Fr h₀ L h' m) (N' : News h₀ L h' NB) (ha : (a, o) ∈ NB) (hs : ∀ p ∈ (C, oC) :: (D, oD) :: (its ++ N), p ∈ NB ∧ p.1 < a)
    (off : ∀ p ∈ N, (∀ q ∈ its, p.1 ≠ q.1) ∧ p.1 ≠ C ∧ p.1 ≠ D) (j : J ((a, o) :: N)) :
    Halt (Ex3 fun h'' tk' N' => And5 (({ s₁ with heap := h', toks := tk } : Shared) = { s₁ with heap := h'', toks := tk' }) (Fr h₀ L h'' m) (News h₀ L h'' ((C, oC) :: (D, oD) :: (its ++ N'))) ((∀ p ∈ N', (∀ q ∈ its, p.1 ≠ q.1) ∧ p.1 ≠ C ∧ p.1 ≠ D)) (J N')) := by
  refine ⟨h', tk, (a, o) :: N, rfl, F, News.sub N' fun p hp => ?_, fun p hp => ?_, j⟩
  · simp only [List.mem_cons, List.mem_append] at hp
    rcases hp with h | h | h | h | h
    · exact (hs p (by simp [h])).1
    · exact (hs p (by simp [h])).1
    · exact (hs p (by simp [h])).1
    · rw [h]; exact ha
    · exact (hs p (by simp [h])).1
  · rcases List.mem_cons.mp hp with rfl | hp
    · exact ⟨fun q hq => Nat.ne_of_gt (hs q (by simp [hq])).2, Nat.ne_of_gt (hs _ (.head _)).2, Nat.ne_of_gt (hs _ (.tail _ (.head _))).2⟩
    · exact off p hp
theorem off1_of {D : Addr} : ∀ {l : Led}, (∀ p ∈ l, p.1 ≠ D) → LCg.Off1 D l
  | [], _ => trivial
  | _ :: _, h => ⟨h _ (.head _), off1_of fun p hp => h p (.tail _ hp)⟩
section
variable {prog : Program} {w : World} {A : Around} {E : Value → Shared → Prop} {s : Shared} {env : Env} {h₀ : Heap} {L : Addr} {m : Str → Option Value}
noncomputable abbrev PairLoop (prog : Program) (w : World) (A : Around) (target elt : Expr) (I : Addr) (Tst : Env → (Bool → Shared → Prop) → (Value → Shared → Prop) → Shared → Prop) (code : Value → Env → Code) : Prop :=
  ∀ (acc : Value) (env : Env) (R : Result → Shared → Prop) (J : Nat → Shared → Prop),
    (∀ n s, J n s → wpAny (model prog w) A (pyNext (.ref I)) (fun r s₁ => match r with
      | none => R (.ok .next) s₁
      | some v => wpAny (model prog w) A (letOwnedTupleGo target (.ref I) v) (fun _ s₀ => wpAny (model prog w) A (assign target env v) (fun _ s₂ =>
          Tst env (fun ok s₃ => if ok = true then wpAny (model prog w) A (eval elt env) (fun x s₄ =>
            wpAny (model prog w) A (call (.builtin "list.append") [acc, x]) (fun _ s₅ => ∃ m, m < n ∧ J m s₅) (notedBy (model prog w) A env fun e s' => R (.error e) s') s₄) (notedBy (model prog w) A env fun e s' => R (.error e) s') s₃
            else ∃ m, m < n ∧ J m s₃) (notedBy (model prog w) A env fun e s' => R (.error e) s') s₂)
          (notedBy (model prog w) A env fun e s' => R (.error e) s') s₀) (notedBy (model prog w) A env fun e s' => R (.error e) s') s₁) (notedBy (model prog w) A env fun e s' => R (.error e) s') s) →
    ∀ n s, J n s → codeAny (model prog w) A (code acc env) R s
open LCg in
theorem pair_block {elt iter : Expr} {ifs : List Expr} {a b : Str} {pa pb tp : Pos} {kk : Nat} {scope : Scope} {cl : List (Str × Addr)} {pos : Pos} {s₂ : Shared} {I : Addr} {fp wr : List Addr} {n : Nat} {P Md : Nat → Value → Heap → Prop} {St : Nat → Heap → Prop}
    {ws : List (Addr × String)} {keep : Led} {xs : List Itm} {news : Led} {Tst : Env → (Bool → Shared → Prop) → (Value → Shared → Prop) → Shared → Prop} {Fin : List Value → Led → Prop} {RR : Value → Addr → Result → Shared → Prop}
    (hloop : PairLoop prog w A (.Tuple [.Name a pa, .Name b pb] kk tp) elt I Tst (fun acc cenv => .compLoop (.ListComp elt [⟨.Tuple [.Name a pa, .Name b pb] kk tp, iter, ifs, 0⟩] scope pos) 0 (.ref I) acc cenv))
    (hmono : ∀ env K K' E s, Tst env K E s → (∀ b s, K b s → K' b s) → Tst env K' E s)
    (W : KTurns prog w A (.Tuple [.Name a pa, .Name b pb] kk tp) I fp wr n P Md St) (hself : ∀ (s : Shared) (Q : Value → Shared → Prop) (E : Value → Shared → Prop), St 0 s.heap → Q (.ref I) s → wpAny (model prog w) A (pyIter (.ref I)) Q E s)
    (hh : A.handled = none) (hsz : n ≤ sizeLine) (hn : n = xs.length) (hP : ∀ i v h, P i v h → ∃ f x, xs[i]? = some (.pair f x) ∧ (Itm.pair f x).Is v h)
    (hobj : ∀ i h, St i h → ∃ its, Objs ws its ∧ ∀ p ∈ its, h.get? p.1 = some p.2)
    (hws : ∀ b ∈ ws.map (·.1), b ∈ fp ∧ h₀.get? b = none) (hwr : ∀ b ∈ wr, b ∈ ws.map (·.1)) (hfp : ∀ b ∈ fp, b ∈ ws.map (·.1) ∨ ∃ o, (b, o) ∈ keep) (hL : L ∉ fp) (hnw : ∀ p ∈ news, p.1 ∉ ws.map (·.1)) (hst : St 0 s₂.heap) (hfl : ∀ b ∈ fp, b < s₂.heap.objs.size)
    (hcell : ∀ y ∈ scope.names, y.2 ≠ .cell) (hkind : scope.kind = .function) (hxa : scope.names.lookup a = some .local) (hxb : scope.names.lookup b = some .local) (hab : ¬ a = b)
    (F : Fr h₀ L s₂.heap m) (N : News h₀ L s₂.heap news)
    (Inv : List Itm → List Value → Led → Prop) (h0 : Inv xs [] news) (hin : ∀ r ys N, Inv r ys N → SubL keep N)
    (turn : ∀ f x r ys N t its C oC D m₂ h tk E', Inv (.pair f x :: r) ys N → NsObj oC m₂ → m₂ a = some (f t) → m₂ b = some x → Fr h₀ L h m → News h₀ L h ((C, oC) :: (D, lst ys) :: (its ++ N)) → (∀ p ∈ N, (∀ q ∈ its, p.1 ≠ q.1) ∧ p.1 ≠ C ∧ p.1 ≠ D) → C ≠ D →
      Tst (compEnvC scope cl C env) (fun ok s' => if ok = true then
        wpAny (model prog w) A (eval elt (compEnvC scope cl C env)) (QPost h₀ L m { s₂ with heap := h, toks := tk } its C oC D (lst ys) (fun y N' => Inv r (ys ++ [y]) N')) E' s'
        else QPost h₀ L m { s₂ with heap := h, toks := tk } its C oC D (lst ys) (fun _ N' => Inv r ys N') Value.none s') E' { s₂ with heap := h, toks := tk })
    (done : ∀ ys N, Inv [] ys N → Fin ys N)
    (hRR : ∀ D C h tk m' ys news', Fr h₀ L h m → News h₀ L h ((D, lst ys) :: news') → Off1 D news' → h.Ns C m' → h₀.get? C = none → h₀.get? D = none → C ≠ L → D ≠ L → C ≠ D → (∀ p ∈ news', p.1 ≠ C) → Fin ys news' → RR (.ref D) C (.ok .next) { s₂ with heap := h, toks := tk }) :
    wpAny (model prog w) A (newList []) (fun acc s₃ => wpAny (model prog w) A (newFunctionEnv scope env.globals cl [] env.qual none .none (some env)) (fun cenv s₄ =>
      codeAny (model prog w) A (.compStart (.ListComp elt [⟨.Tuple [.Name a pa, .Name b pb] kk tp, iter, ifs, 0⟩] scope pos) 0 (.ref I) acc { cenv with scope := relabel scope env }) (RR acc cenv.locals) s₄) E s₃) E s₂ := by
  refine wpAny_newObj_type (wpAny_newFunctionEnv hcell (by intro y hy; simp at hy) (fun h₁ hns₁ hsb₁ => ?_) hkind)
  dsimp only at hns₁ hsb₁ ⊢
  generalize hH2 : s₂.heap.push { cls := .type "list", dict := none, data := .seq ([] : List Value).toArray } = H2 at hns₁ hsb₁ ⊢
  have hC : H2.objs.size = s₂.heap.objs.size + 1 := by rw [← hH2, Heap.size_push]
  have hDC : s₂.heap.objs.size ≠ H2.objs.size := by rw [hC]; exact Nat.ne_of_lt (Nat.lt_succ_self _)
  have below : ∀ b, b < s₂.heap.objs.size → b ≠ H2.objs.size ∧ b ≠ s₂.heap.objs.size := fun b hb => ⟨by rw [hC]; exact Nat.ne_of_lt (Nat.lt_succ_of_lt hb), Nat.ne_of_lt hb⟩
  have old : ∀ b o, s₂.heap.get? b = some o → h₁.get? b = some o := fun b o e => hsb₁.extBut b o (below b (Heap.lt_size e)).1 (Heap.get?_push_of_some _ (hH2 ▸ Heap.get?_push_of_some _ e))
  have hacc : h₁.get? s₂.heap.objs.size = some (lst []) := hsb₁.extBut _ _ hDC (Heap.get?_push_of_some _ (hH2 ▸ Heap.get?_push_size _ rfl))
  have hst₁ : St 0 h₁ := W.frame _ _ _ hst fun b _ o e => old b o e
  have fresh : ∀ a, s₂.heap.objs.size ≤ a → s₂.heap.get? a = none := fun a ha => by
    cases e : s₂.heap.get? a with
    | none => rfl
    | some o' => exact absurd (Heap.lt_size e) (Nat.not_lt.mpr ha)
  have fresh₀ : ∀ a, s₂.heap.objs.size ≤ a → h₀.get? a = none := fun a ha => by
    cases e : h₀.get? a with
    | none => rfl
    | some o' => have := F.keep a o' e; rw [fresh a ha] at this; cases this
  have hD₀ : h₀.get? s₂.heap.objs.size = none := fresh₀ _ (Nat.le_refl _)
  have hC₀ : h₀.get? H2.objs.size = none := fresh₀ _ (by rw [hC]; exact Nat.le_succ _)
  have hLlt : L < s₂.heap.objs.size := F.ns.lt
  have hDL : s₂.heap.objs.size ≠ L := Ne.symm (below L hLlt).2
  have hCL : H2.objs.size ≠ L := Ne.symm (below L hLlt).1
  have hDf : s₂.heap.objs.size ∉ fp := fun hm => Nat.lt_irrefl _ (hfl _ hm)
  have hCf : H2.objs.size ∉ fp := fun hm => by have := hfl _ hm; rw [hC] at this; exact Nat.lt_irrefl _ (Nat.lt_of_succ_lt this)
  have hwf : ∀ b ∈ wr, b ∈ fp := W.sub
  have hw₀ : ∀ b ∈ wr, h₀.get? b = none := fun b hb => (hws b (hwr b hb)).2
  have off₀ : ∀ p ∈ news, p.1 ∉ ws.map (·.1) ∧ p.1 ≠ H2.objs.size ∧ p.1 ≠ s₂.heap.objs.size := fun p hp => ⟨hnw p hp, (below _ (Heap.lt_size (N p hp).1)).1, (below _ (Heap.lt_size (N p hp).1)).2⟩
  have loop : ∀ s₃ : Shared, s₃ = { s₂ with heap := h₁, toks := s₂.toks + ([] : List (Str × Value)).length } →
      codeAny (model prog w) A (.compLoop (.ListComp elt [⟨.Tuple [.Name a pa, .Name b pb] kk tp, iter, ifs, 0⟩] scope pos) 0 (.ref I) (.ref s₂.heap.objs.size) (compEnvC scope cl H2.objs.size env))
        (RR (.ref s₂.heap.objs.size) H2.objs.size) s₃ := by
    rintro s₃ rfl
    refine hloop (.ref s₂.heap.objs.size) (compEnvC scope cl H2.objs.size env) (RR (.ref s₂.heap.objs.size) H2.objs.size)
      (fun k s' => Ex6 fun h' tk i ys m' news' => And10 (s' = { s₂ with heap := h', toks := tk }) (i ≤ n) (k = n + 1 - i) (ys.length ≤ i) (St i h') (Fr h₀ L h' m) (h'.Ns H2.objs.size m') (News h₀ L h' ((s₂.heap.objs.size, lst ys) :: news')) ((∀ p ∈ news', p.1 ∉ ws.map (·.1) ∧ p.1 ≠ H2.objs.size ∧ p.1 ≠ s₂.heap.objs.size)) (Inv (xs.drop i) ys news')) ?_ (n + 1) _
      ⟨h₁, _, 0, [], _, news, rfl, Nat.zero_le _, rfl, Nat.le_refl _, hst₁, F.keeps old, hns₁, fun p hp => ?_, off₀, by rw [List.drop_zero]; exact h0⟩
    · rintro k s' ⟨h', tk, i, ys, m', news', rfl, hi, rfl, hyl, hst', F', hn', N', off', R'⟩
      have hLw : L ∉ wr := fun h => hL (hwf _ h)
      have hCw : H2.objs.size ∉ wr := fun h => hCf (hwf _ h)
      have hDw : s₂.heap.objs.size ∉ wr := fun h => hDf (hwf _ h)
      have offw : ∀ p ∈ (s₂.heap.objs.size, lst ys) :: news', p.1 ∉ wr := fun p hp => by
        rcases List.mem_cons.mp hp with rfl | hp
        · exact hDw
        · exact fun h => (off' p hp).1 (hwr _ h)
      have old₀ : ∀ c o, h₀.get? c = some o → c ∉ wr := fun c o e hc => by rw [hw₀ c hc] at e; cases e
      by_cases hlt : i < n
      · refine W.item i _ _ _ hlt hst' fun v h₂ tk₂ hMd hk₂ => ?_
        refine W.go i v _ _ _ hMd fun h₃ hP₃ hst₃ hk₃ => ?_
        refine letG ?_
        intro kG
        obtain ⟨f, x, hx, T, t, rfl, hT⟩ := hP i v h₃ hP₃
        k_unfold
        clear kG
        have up₃ : ∀ c o, c ∉ wr → h'.get? c = some o → h₃.get? c = some o := fun c o hc e => hk₃ c o hc (hk₂ c o hc e)
        refine kcp_assign (env := compEnvC scope cl H2.objs.size env) hh hT (lookup_relabel_local hxa) (lookup_relabel_local hxb) (by simp [compEnvC, relabel, hkind]) (hn'.at' fun o e => up₃ _ o hCw e) fun h₄ tk₄ hn₄ hs₄ => ?_
        have up : ∀ c o, c ∉ wr → c ≠ H2.objs.size → h'.get? c = some o → h₄.get? c = some o := fun c o h1 h2 e => hs₄ c o h2 (up₃ c o h1 e)
        have hst₄ : St (i + 1) h₄ := W.frame _ _ _ hst₃ fun b hb o e => hs₄ b o (fun q => hCf (by have q' : b = H2.objs.size := q; rw [← q']; exact hb)) e
        refine letG ?_
        intro kG
        obtain ⟨its, hits, hval⟩ := hobj _ _ hst₄
        k_unfold
        clear kG
        have hmap := hits.map
        refine letG ?_
        intro kG
        obtain ⟨oC, heC, hoC⟩ := ns_obj hn₄
        k_unfold
        clear kG
        have F₄ : Fr h₀ L h₄ m := ⟨F'.ns.at' fun o e => up _ o hLw (Ne.symm hCL) e, fun c o e => up c o (old₀ c o e) (fun q => by rw [q, hC₀] at e; cases e) (F'.keep c o e), F'.above⟩
        have hdrop : xs.drop i = .pair f x :: xs.drop (i + 1) := by
          have hlt' : i < xs.length := by (first | (law_clear; lia) | lia | omega)
          rw [List.drop_eq_getElem_cons hlt']
          congr 1
          exact Option.some.inj ((List.getElem?_eq_getElem hlt').symm.trans hx)
        have R'' : Inv (.pair f x :: xs.drop (i + 1)) ys news' := by rw [← hdrop]; exact R'
        have iws : ∀ q ∈ its, q.1 ∈ ws.map (·.1) := fun q hq => by rw [← hmap]; exact List.mem_map.mpr ⟨q, hq, rfl⟩
        have N₄ : News h₀ L h₄ ((H2.objs.size, oC) :: (s₂.heap.objs.size, lst ys) :: (its ++ news')) := fun q hq => by
          rcases List.mem_cons.mp hq with rfl | hq
          · exact ⟨heC, hCL, hC₀⟩
          · rcases List.mem_cons.mp hq with rfl | hq
            · exact ⟨up _ _ hDw hDC (N' _ (.head _)).1, hDL, hD₀⟩
            · rcases List.mem_append.mp hq with hq | hq
              · have h1 := hws _ (iws q hq)
                exact ⟨hval q hq, fun e => hL (e ▸ h1.1), h1.2⟩
              · have z := N' q (.tail _ hq)
                exact ⟨up _ _ (offw q (.tail _ hq)) (off' q hq).2.1 z.1, z.2⟩
        have fin : ∀ (ys' : List Value) (h₅ : Heap) (tk₅ : Nat) (news₅ : Led), ys'.length ≤ i + 1 → St (i + 1) h₅ → Fr h₀ L h₅ m → h₅.get? H2.objs.size = some oC → News h₀ L h₅ ((s₂.heap.objs.size, lst ys') :: news₅) → (∀ p ∈ news₅, p.1 ∉ ws.map (·.1) ∧ p.1 ≠ H2.objs.size ∧ p.1 ≠ s₂.heap.objs.size) →
            Inv (xs.drop (i + 1)) ys' news₅ →
            ∃ q', q' < n + 1 - i ∧ (Ex6 fun h' tk i ys m' news' => And10 (({ s₂ with heap := h₅, toks := tk₅ } : Shared) = { s₂ with heap := h', toks := tk }) (i ≤ n) (q' = n + 1 - i) (ys.length ≤ i) (St i h') (Fr h₀ L h' m) (h'.Ns H2.objs.size m') (News h₀ L h' ((s₂.heap.objs.size, lst ys) :: news')) ((∀ p ∈ news', p.1 ∉ ws.map (·.1) ∧ p.1 ≠ H2.objs.size ∧ p.1 ≠ s₂.heap.objs.size)) (Inv (xs.drop i) ys news')) :=
          fun ys' h₅ tk₅ news₅ hl st₅ F₅ zC N₅ off₅ R₅ => ⟨n + 1 - (i + 1), by (first | (law_clear; lia) | lia | omega), h₅, tk₅, i + 1, ys', _, news₅, rfl, hlt, rfl, hl, st₅, F₅, hoC.ns zC, N₅, off₅, R₅⟩
        have stay : ∀ (h₅ : Heap) (news₅ : Led) (oD : Obj), News h₀ L h₅ ((H2.objs.size, oC) :: (s₂.heap.objs.size, oD) :: (its ++ news₅)) → SubL keep news₅ → St (i + 1) h₅ := fun h₅ news₅ oD N₅ k₅ => by
          refine W.frame _ _ _ hst₄ fun b hb o e => ?_
          rcases hfp b hb with h3 | ⟨o', h3⟩
          · rw [← hmap] at h3
            refine letG ?_
            intro kG
            obtain ⟨q, hq, rfl⟩ := List.mem_map.mp h3
            k_unfold
            clear kG
            have h5 := hval _ hq
            rw [h5] at e
            rw [← Option.some.inj e]
            exact (N₅ _ (.tail _ (.tail _ (List.mem_append_left _ hq)))).1
          · have h4 := (N₄ _ (.tail _ (.tail _ (List.mem_append_right _ ((hin _ _ _ R'').mem _ h3))))).1
            have h4' : h₄.get? b = some o' := h4
            rw [h4'] at e
            rw [← Option.some.inj e]
            exact (N₅ _ (.tail _ (.tail _ (List.mem_append_right _ (k₅.mem _ h3))))).1
        have offs : ∀ (news₅ : Led), (∀ p ∈ news₅, (∀ q ∈ its, p.1 ≠ q.1) ∧ p.1 ≠ H2.objs.size ∧ p.1 ≠ s₂.heap.objs.size) → ∀ p ∈ news₅, p.1 ∉ ws.map (·.1) ∧ p.1 ≠ H2.objs.size ∧ p.1 ≠ s₂.heap.objs.size := fun news₅ o5 p hp => by
          refine ⟨fun h => ?_, (o5 p hp).2⟩
          rw [← hmap] at h
          refine letG ?_
          intro kG
          obtain ⟨q, hq, e⟩ := List.mem_map.mp h
          k_unfold
          clear kG
          exact (o5 p hp).1 q hq e.symm
        refine hmono _ _ _ _ _ (turn f x _ ys news' t its H2.objs.size oC s₂.heap.objs.size _ h₄ _ _ R'' hoC (by simp [hab]) (by first | exact mem_mid _ _ _ | exact .head _ | exact .tail _ (.head _) | exact .tail _ (.tail _ (.head _)) | simp) F₄ N₄ (fun p hp => ⟨fun q hq e => (off' p hp).1 (by rw [e]; exact iws q hq), (off' p hp).2⟩) (Ne.symm hDC)) (fun okb s₅ h₅ => ?_)
        cases okb with
        | false =>
          simp only [Bool.false_eq_true, if_false] at h₅ ⊢
          refine letG ?_
          intro kG
          obtain ⟨h₅, tk₅, news₅, rfl, F₅, N₅, off₅, R₅⟩ := h₅
          k_unfold
          clear kG
          exact fin ys h₅ tk₅ news₅ (Nat.le_succ_of_le hyl) (stay _ _ _ N₅ (hin _ _ _ R₅)) F₅ (N₅ _ (.head _)).1 (News.sub N₅ fun p hp => by
            rcases List.mem_cons.mp hp with rfl | hp
            · exact .tail _ (.head _)
            · exact .tail _ (.tail _ (List.mem_append_right _ hp))) (offs _ off₅) R₅
        | true =>
          simp only [if_true] at h₅ ⊢
          refine wpAny_mono h₅ (fun y s₆ h₆ => ?_) fun _ _ e => e
          refine letG ?_
          intro kG
          obtain ⟨h₅, tk₅, news₅, rfl, F₅, N₅, off₅, R₅⟩ := h₆
          k_unfold
          clear kG
          have zC := (N₅ _ (.head _)).1
          have zD := (N₅ _ (.tail _ (.head _))).1
          have N₅' : News h₀ L h₅ news₅ := fun q hq => N₅ q (.tail _ (.tail _ (List.mem_append_right _ hq)))
          have st₅ := stay _ _ _ N₅ (hin _ _ _ R₅)
          refine append_at (hsz := by show ys.toArray.size ≤ sizeLine; rw [List.size_toArray]; exact Nat.le_trans hyl (Nat.le_trans hi hsz)) zD fun h₆ hs₆ hD₆ => ?_
          refine fin (ys ++ [y]) h₆ _ news₅ (by rw [List.length_append, List.length_singleton]; exact Nat.succ_le_succ hyl) (W.frame _ _ _ st₅ fun b hb o e => hs₆.extBut b o (fun q => hDf (q ▸ hb)) e) (F₅.change hs₆ hDL hD₀) (hs₆.extBut _ oC (Ne.symm hDC) zC) (fun q hq => ?_) (offs _ off₅) R₅
          rcases List.mem_cons.mp hq with rfl | hq
          · exact ⟨hD₆.trans (congrArg some (lst_snoc ys y)), hDL, hD₀⟩
          · exact ⟨hs₆.extBut _ _ (off₅ q hq).2.2 (N₅' q hq).1, (N₅' q hq).2⟩
      · have hin' : i = n := Nat.le_antisymm hi (Nat.not_lt.mp hlt)
        subst hin'
        have hnil : xs.drop i = [] := List.drop_eq_nil_of_le (by (first | (law_clear; lia) | lia | omega))
        rw [hnil] at R'
        refine W.done _ _ _ hst' fun h₂ tk₂ hk₂ => ?_
        have F₂ : Fr h₀ L h₂ m := ⟨F'.ns.at' fun o e => hk₂ _ o hLw e, fun c o e => hk₂ c o (old₀ c o e) (F'.keep c o e), F'.above⟩
        exact hRR _ _ h₂ tk₂ _ ys news' F₂ (fun p hp => ⟨hk₂ _ _ (offw p hp) (N' p hp).1, (N' p hp).2⟩) (off1_of fun p hp => (off' p hp).2.2) (hn'.at' fun o e => hk₂ _ o hCw e) hC₀ hD₀ hCL hDL (Ne.symm hDC) (fun p hp => (off' p hp).2.1) (done _ _ R')
    · rcases List.mem_cons.mp hp with rfl | hp
      · exact ⟨hacc, hDL, hD₀⟩
      · exact ⟨old _ _ (N p hp).1, (N p hp).2⟩
  exact codeAny_compStart_list (loop _ rfl) (hself _ _ _ hst₁ (loop _ rfl))
end
section
variable {prog : Program} {w : World} {A : Around} {E : Value → Shared → Prop} {s : Shared} {env : Env} {h₀ : Heap} {L : Addr} {m : Str → Option Value}
noncomputable def CompGo (prog : Program) (w : World) (A : Around) (env : Env) (e : Expr) (scope : Scope) (cl : List (Str × Addr)) (use : Option (Value → Sem Unit)) (Q : Value → Shared → Prop) (E : Value → Shared → Prop) (it : Value) (s₂ : Shared) : Prop :=
  wpAny (model prog w) A (newList []) (fun acc s₃ => wpAny (model prog w) A (newFunctionEnv scope env.globals cl [] env.qual none .none (some env)) (fun cenv s₄ =>
    codeAny (model prog w) A (.compStart e 0 it acc { cenv with scope := relabel scope env }) (compPost (model prog w) A E use Q acc cenv.locals) s₄) E s₃) E s₂
theorem Assign_pairs {elt iter : Expr} {ifs : List Expr} {x x₂ y : Str} {px px₂ tp py : Pos} {tk} {scope : Scope} {cl : List (Str × Addr)} {pos spos : Pos} {Q : Flow → Shared → Prop}
    (hsw : swapsWith (.ListComp elt [⟨.Tuple [.Name x px, .Name x₂ px₂] tk tp, iter, ifs, 0⟩] scope pos) (some (.Name y py)) spos.line env = pure true)
    (hclos : closureFor scope env = pure cl) (hkind : scope.kind = .function)
    (hnames : ∀ z ∈ scope.names, z.2 = .local → scope.names.lookup z.1 = some .local)
    (h : wpAny (model prog w) A (eval iter env) (fun xv s₁ => wpAny (model prog w) A (pyIter xv) (fun it s₂ => CompGo prog w A env (.ListComp elt [⟨.Tuple [.Name x px, .Name x₂ px₂] tk tp, iter, ifs, 0⟩] scope pos) scope cl (some (assign (.Name y py) env)) (fun _ s' => Q .next s') E it s₂) E s₁) E s)
    (hs : ∀ x, foldedSetIterable iter env x = pure x := by intro _; rfl) :
    wpAny (model prog w) A (exec (.Assign [.Name y py] (.ListComp elt [⟨.Tuple [.Name x px, .Name x₂ px₂] tk tp, iter, ifs, 0⟩] scope pos) spos) env) Q E s := by
  rw [exec_Assign_Name_used _ _ _ _ hsw]
  refine wpAny_bind (wpAny_standAt (wpAny_bind ?_))
  show wpAny _ A (do let _ ← comprehension (.ListComp elt [⟨.Tuple [.Name x px, .Name x₂ px₂] tk tp, iter, ifs, 0⟩] scope pos) scope env _ (newList []) false (eval iter env) (some (assign (.Name y py) env))) _ _ s
  exact wpAny_bind (wpAny_mono (wpAny_comprehension_free (use := some (assign (.Name y py) env)) (Q := fun _ s' => Q .next s') rfl hs hclos hkind hnames h) (fun _ s' hq => wpAny_pure (wpAny_pure hq)) fun _ _ e => e)
theorem ListComp_pairs {elt iter : Expr} {ifs : List Expr} {x x₂ : Str} {px px₂ tp : Pos} {tk} {scope : Scope} {cl : List (Str × Addr)} {pos : Pos} {Q : Value → Shared → Prop}
    (hclos : closureFor scope env = pure cl) (hkind : scope.kind = .function)
    (hnames : ∀ y ∈ scope.names, y.2 = .local → scope.names.lookup y.1 = some .local)
    (h : wpAny (model prog w) A (eval iter env) (fun xv s₁ => wpAny (model prog w) A (pyIter xv) (fun it s₂ => CompGo prog w A env (.ListComp elt [⟨.Tuple [.Name x px, .Name x₂ px₂] tk tp, iter, ifs, 0⟩] scope pos) scope cl none Q E it s₂) E s₁) E s)
    (hs : ∀ x, foldedSetIterable iter env x = pure x := by intro _; rfl) :
    wpAny (model prog w) A (eval (.ListComp elt [⟨.Tuple [.Name x px, .Name x₂ px₂] tk tp, iter, ifs, 0⟩] scope pos) env) Q E s := by
  rw [eval_ListComp]
  exact wpAny_comprehension_free (use := none) rfl hs hclos hkind hnames h
open LCg in
theorem enumT_led {ct elt iter : Expr} {a b y : Str} {pa pb tp py : Pos} {kk : Nat} {scope : Scope} {cl : List (Str × Addr)} {pos : Pos} {l : Addr} {vs : List Value} {e : Nat} {news : Led} {Q : Shared → Prop}
    (hh : A.handled = none) (F : Fr h₀ L s.heap m) (N : News h₀ L s.heap news) (hm : (l, listOf vs.toArray e) ∈ news) (hsz : vs.length ≤ sizeLine) (hLe : env.locals = L)
    (hcell : ∀ y ∈ scope.names, y.2 ≠ .cell) (hkind : scope.kind = .function) (hxa : scope.names.lookup a = some .local) (hxb : scope.names.lookup b = some .local) (hab : ¬ a = b)
    (hy : env.kindOf y = some .local) (hp : (env.scope.kind == .class || (env.scope.kind == .module && env.locals != env.globals)) = false)
    (Inv : Nat → List Value → List Value → Led → Prop) (h0 : Inv 0 vs [] news) (hin : ∀ i r ys N, Inv i r ys N → (l, listOf vs.toArray e) ∈ N)
    (turn : ∀ i x r ys N t its C oC D m₂ h tk E', Inv i (x :: r) ys N → NsObj oC m₂ → m₂ a = some (.int (i : Int) t) → m₂ b = some x → Fr h₀ L h m → News h₀ L h ((C, oC) :: (D, lst ys) :: (its ++ N)) → (∀ p ∈ N, (∀ q ∈ its, p.1 ≠ q.1) ∧ p.1 ≠ C ∧ p.1 ≠ D) → C ≠ D →
      wpAny (model prog w) A (isTrue ct (compEnvC scope cl C env) (eval ct (compEnvC scope cl C env))) (fun ok s' => if ok = true then
        wpAny (model prog w) A (eval elt (compEnvC scope cl C env)) (QPost h₀ L m { s with heap := h, toks := tk } its C oC D (lst ys) (fun y N' => Inv (i + 1) r (ys ++ [y]) N')) E' s'
        else QPost h₀ L m { s with heap := h, toks := tk } its C oC D (lst ys) (fun _ N' => Inv (i + 1) r ys N') Value.none s') E' { s with heap := h, toks := tk })
    (done : ∀ i ys N, Inv i [] ys N → FinA h₀ L m s y (fun _ s' => Q s') ys N) :
    Halt (wpAny (model prog w) A (call (.type "enumerate") [.ref l]) (fun xv s₁ => wpAny (model prog w) A (pyIter xv) (fun it s₂ => CompGo prog w A env (.ListComp elt [⟨.Tuple [.Name a pa, .Name b pb] kk tp, iter, [ct], 0⟩] scope pos) scope cl (some (assign (.Name y py) env)) (fun _ s' => Q s') E it s₂) E s₁) E s) := by
  subst hLe
  have hax := N _ hm
  have hl : s.heap.IsList l vs.toArray := ⟨_, hax.1, rfl, e, rfl⟩
  have hlt : l < s.heap.objs.size := Heap.lt_size hax.1
  have hLs : env.locals < s.heap.objs.size := F.ns.lt
  refine call_enumerate_list hl fun h' hE hI hsz' hk => ?_
  refine wpAny_pyIter_enum hE ?_
  refine pair_block (n := vs.toArray.size) (keep := [(l, listOf vs.toArray e)]) (ws := [(s.heap.objs.size + 1, "enumerate"), (s.heap.objs.size, "list_iterator")]) (xs := enumItems 0 vs)
    (Tst := fun env K E s => wpAny (model prog w) A (isTrue ct env (eval ct env)) K E s)
    (Inv := fun xs ys N => Ex2 fun i r => xs = enumItems i r ∧ Inv i r ys N) (Fin := fun ys N => FinA h₀ env.locals m s y (fun _ s' => Q s') ys N)
    (RR := compPost (model prog w) A E (some (assign (.Name y py) env)) (fun _ s' => Q s'))
    (fun acc env R J t n s h => kct_loop J t n h) (fun env K K' E s h hm => wpAny_mono h hm fun _ _ e => e)
    (KTurns.ofWalksU (WalksT.enumerate hh (s.heap.objs.size + 1) s.heap.objs.size l (Nat.succ_ne_self _) (ktu_ne 1 hlt) (Nat.ne_of_lt hlt) vs.toArray).toU) ?_ hh (by simpa using hsz) (by simp [enumItems_length]) ?_ ?_ ?_ ?_ ?_ ?_ ?_ ?_ ?_ hcell hkind hxa hxb hab (F.keeps hk) (N.grown hk) ⟨0, vs, rfl, h0⟩ ?_ ?_ ?_ ?_
  · intro s' Q' E' st hQ
    exact (WalksT.enumerate (prog := prog) (w := w) hh (s.heap.objs.size + 1) s.heap.objs.size l (Nat.succ_ne_self _) (ktu_ne 1 hlt) (Nat.ne_of_lt hlt) vs.toArray).self 0 s' Q' E' st hQ
  · rintro i v h ⟨T, vals, rfl, ⟨t, x, hx, rfl⟩, hT⟩
    refine ⟨_, _, enumItems_get vs 0 i (v := x) (by simpa using hx), T, t, rfl, ?_⟩
    show IsTup h T #[.int ((0 + i : Nat) : Int) t, x]
    rw [Nat.zero_add]
    exact hT
  · rintro i h ⟨⟨old, he⟩, ⟨oi, hoi, hic, _⟩, _⟩
    have he' : ∃ oe : Obj, h.get? (s.heap.objs.size + 1) = some oe ∧ oe.cls = .type "enumerate" := ⟨_, he, rfl⟩
    refine letG ?_
    intro kG
    obtain ⟨oe, h1, h2⟩ := he'
    k_unfold
    clear kG
    refine ⟨[(s.heap.objs.size + 1, oe), (s.heap.objs.size, oi)], ⟨⟨rfl, h2⟩, ⟨rfl, hic⟩, trivial⟩, fun p hp => ?_⟩
    rcases List.mem_cons.mp hp with rfl | hp
    · exact h1
    · rw [List.mem_singleton.mp hp]; exact hoi
  · intro b hb
    have hb' : b = s.heap.objs.size + 1 ∨ b = s.heap.objs.size := by simpa using hb
    rcases hb' with rfl | rfl
    · exact ⟨by simp, ktu_new F (Nat.le_add_right _ _)⟩
    · exact ⟨by simp, ktu_new F (Nat.le_refl _)⟩
  · intro b hb
    simpa using hb
  · intro b hb
    have hb' : b = s.heap.objs.size + 1 ∨ b = s.heap.objs.size ∨ b = l := by simpa using hb
    rcases hb' with rfl | rfl | rfl
    · exact .inl (by first | exact mem_mid _ _ _ | exact .head _ | exact .tail _ (.head _) | exact .tail _ (.tail _ (.head _)) | simp)
    · exact .inl (by first | exact mem_mid _ _ _ | exact .head _ | exact .tail _ (.head _) | exact .tail _ (.tail _ (.head _)) | simp)
    · exact .inr ⟨_, .head _⟩
  · intro hI'
    have hb' : env.locals = s.heap.objs.size + 1 ∨ env.locals = s.heap.objs.size ∨ env.locals = l := by simpa using hI'
    rcases hb' with e | e | e
    · exact ktu_ne 1 hLs e
    · exact Nat.ne_of_lt hLs e
    · exact hax.2.1 e.symm
  · intro p hp hI'
    have hb' : p.1 = s.heap.objs.size + 1 ∨ p.1 = s.heap.objs.size := by simpa using hI'
    have hlp := Heap.lt_size (N p hp).1
    rcases hb' with e | e
    · exact ktu_ne 1 hlp e
    · exact Nat.ne_of_lt hlp e
  · exact ⟨⟨.none, hE⟩, hI, hl.at fun o e => hk l o e⟩
  · intro b hb
    have hb' : b = s.heap.objs.size + 1 ∨ b = s.heap.objs.size ∨ b = l := by simpa using hb
    show b < h'.objs.size
    rw [hsz']
    rcases hb' with rfl | rfl | rfl
    · exact Nat.lt_succ_self _
    · exact Nat.lt_add_of_pos_right (by decide)
    · exact Nat.lt_add_right 2 hlt
  · rintro r ys N ⟨i, r', _, h⟩
    exact ⟨hin _ _ _ _ h, trivial⟩
  · rintro f x r ys N t its C oC D m₂ h tk E' ⟨i, r', er, hI⟩ hC ha hb F' N' off ne
    cases r' with
    | nil => cases er
    | cons z r' =>
    simp only [enumItems, List.cons.injEq, Itm.pair.injEq] at er
    refine letG ?_
    intro kG
    obtain ⟨⟨rfl, rfl⟩, rfl⟩ := er
    k_unfold
    clear kG
    refine wpAny_mono (turn i x r' ys N t its C oC D m₂ h tk E' hI hC ha hb F' N' off ne) (fun ok s' p => ?_) fun _ _ e => e
    cases ok with
    | true =>
      simp only [if_true] at p ⊢
      refine wpAny_mono p (fun y s₂ p => ?_) fun _ _ e => e
      refine letG ?_
      intro kG
      obtain ⟨h', tk', N'', e, F', N3, off', j⟩ := p
      k_unfold
      clear kG
      exact ⟨h', tk', N'', e, F', N3, off', _, _, rfl, j⟩
    | false =>
      simp only [Bool.false_eq_true, if_false] at p ⊢
      refine letG ?_
      intro kG
      obtain ⟨h', tk', N'', e, F', N3, off', j⟩ := p
      k_unfold
      clear kG
      exact ⟨h', tk', N'', e, F', N3, off', _, _, rfl, j⟩
  · rintro ys N ⟨i, r', er, hI⟩
    cases r' with
    | nil => exact done i ys N hI
    | cons z r' => cases er
  · intro D C h' tk m' ys news' F' N' o1 hn hC₀ hD₀ hCL hDL hCD offC fin
    show wpAny _ A (assign (.Name y py) env (.ref D)) _ _ _
    refine wpAny_assign_Name (wpAny_storeName_local hy F'.ns (fun h₂ hn₂ hs₂ => ?_) hp)
    have hL₀ : h₀.get? env.locals = none := Heap.get?_none_of_le F'.above
    have F₂ : Fr h₀ env.locals h₂ (fun z => if z = y then some (.ref D) else m z) := ⟨hn₂, fun b o e => hs₂.extBut b o (fun q => by rw [q, hL₀] at e; cases e) (F'.keep b o e), F'.above⟩
    refine ⟨m', hn.sameBut hs₂ hCL, fun h'' hs'' => fin D h'' _ (F₂.change hs'' hCL hC₀) (fun p hp => ?_) o1⟩
    have z : h₂.get? p.1 = some p.2 := hs₂.extBut _ _ (N' p hp).2.1 (N' p hp).1
    refine ⟨hs''.extBut _ _ ?_ z, (N' p hp).2⟩
    rcases List.mem_cons.mp hp with rfl | hp
    · exact Ne.symm hCD
    · exact offC p hp
open LCg in
theorem zipC_led {elt iter : Expr} {a b : Str} {pa pb tp : Pos} {kk : Nat} {scope : Scope} {cl : List (Str × Addr)} {pos : Pos} {l1 l2 : Addr} {xs ys : List Value} {e1 e2 : Nat} {news : Led} {Q : Value → Shared → Prop}
    (hh : A.handled = none) (F : Fr h₀ L s.heap m) (N : News h₀ L s.heap news) (hm1 : (l1, listOf xs.toArray e1) ∈ news) (hm2 : (l2, listOf ys.toArray e2) ∈ news) (hsz : xs.length ≤ sizeLine)
    (hcell : ∀ y ∈ scope.names, y.2 ≠ .cell) (hkind : scope.kind = .function) (hxa : scope.names.lookup a = some .local) (hxb : scope.names.lookup b = some .local) (hab : ¬ a = b)
    (Inv : List Value → List Value → List Value → Led → Prop) (h0 : Inv xs ys [] news) (hin : ∀ r q zs N, Inv r q zs N → (l1, listOf xs.toArray e1) ∈ N ∧ (l2, listOf ys.toArray e2) ∈ N)
    (turn : ∀ x r y q zs N its C oC D m₂ h tk E', Inv (x :: r) (y :: q) zs N → NsObj oC m₂ → m₂ a = some x → m₂ b = some y → Fr h₀ L h m → News h₀ L h ((C, oC) :: (D, lst zs) :: (its ++ N)) → (∀ p ∈ N, (∀ q ∈ its, p.1 ≠ q.1) ∧ p.1 ≠ C ∧ p.1 ≠ D) → C ≠ D →
      wpAny (model prog w) A (eval elt (compEnvC scope cl C env)) (QPost h₀ L m { s with heap := h, toks := tk } its C oC D (lst zs) (fun y N' => Inv r q (zs ++ [y]) N')) E' { s with heap := h, toks := tk })
    (done : ∀ r q zs N, Inv r q zs N → r = [] ∨ q = [] → FinE h₀ L m s Q zs N) :
    Halt (wpAny (model prog w) A (call (.type "zip") [.ref l1, .ref l2]) (fun xv s₁ => wpAny (model prog w) A (pyIter xv) (fun it s₂ => CompGo prog w A env (.ListComp elt [⟨.Tuple [.Name a pa, .Name b pb] kk tp, iter, [], 0⟩] scope pos) scope cl none Q E it s₂) E s₁) E s) := by
  have hax1 := N _ hm1
  have hax2 := N _ hm2
  have hl1 : s.heap.IsList l1 xs.toArray := ⟨_, hax1.1, rfl, e1, rfl⟩
  have hl2 : s.heap.IsList l2 ys.toArray := ⟨_, hax2.1, rfl, e2, rfl⟩
  have hlt1 : l1 < s.heap.objs.size := Heap.lt_size hax1.1
  have hlt2 : l2 < s.heap.objs.size := Heap.lt_size hax2.1
  have hLs : L < s.heap.objs.size := F.ns.lt
  have D : ZipApart (s.heap.objs.size + 4) (s.heap.objs.size + 2) (s.heap.objs.size + 3) s.heap.objs.size (s.heap.objs.size + 1) l1 l2 := ktu_apart _ _ _ hlt1 hlt2
  refine call_zip_2 hl1 hl2 fun h' hz hTI hTO hi1 hi2 hsz' hk => ?_
  refine wpAny_pyIter_zip hz ?_
  refine pair_block (n := min xs.toArray.size ys.toArray.size) (keep := [(l1, listOf xs.toArray e1), (l2, listOf ys.toArray e2)]) (ws := [(s.heap.objs.size + 4, "zip"), (s.heap.objs.size + 2, "tuple"), (s.heap.objs.size + 3, "tuple"), (s.heap.objs.size, "list_iterator"), (s.heap.objs.size + 1, "list_iterator")]) (xs := zipItems xs ys)
    (Tst := fun _ K _ s => K true s)
    (Inv := fun is zs N => Ex2 fun r q => is = zipItems r q ∧ Inv r q zs N) (Fin := fun zs N => FinE h₀ L m s Q zs N)
    (RR := compPost (model prog w) A E none Q)
    (fun acc env R J t n s h => kcp_loop J (fun n s hJ => wpAny_mono (t n s hJ) (fun r s₁ p => by
      cases r with
      | none => exact p
      | some v => exact wpAny_mono p (fun _ s₀ p => wpAny_mono p (fun _ s₂ p => by simpa using p) fun _ _ e => e) fun _ _ e => e) fun _ _ e => e) n h)
    (fun env K K' E s h hm => hm _ _ h)
    (KTurns.ofWalksU (WalksT.zip2 hh _ _ _ _ _ _ _ D xs.toArray ys.toArray).toU) ?_ hh (by simp; (first | (law_clear; lia) | lia | omega)) (by simp [zipItems_length]) ?_ ?_ ?_ ?_ ?_ ?_ ?_ ?_ ?_ hcell hkind hxa hxb hab (F.keeps hk) (N.grown hk) ⟨xs, ys, rfl, h0⟩ ?_ ?_ ?_ ?_
  · intro s' Q' E' st hQ
    exact (WalksT.zip2 (prog := prog) (w := w) hh _ _ _ _ _ _ _ D xs.toArray ys.toArray).self 0 s' Q' E' st hQ
  · rintro i v h ⟨T, vals, rfl, ⟨x, y, hx, hy, rfl⟩, hT⟩
    exact ⟨_, _, zipItems_get xs ys i (x := x) (y := y) (by simpa using hx) (by simpa using hy), T, 0, rfl, hT⟩
  · rintro i h ⟨hz, hTI, ⟨a, b, hTO⟩, ⟨o1, ho1, hc1, _⟩, ⟨o2, ho2, hc2, _⟩, _⟩
    have e1 : ∃ o : Obj, h.get? (s.heap.objs.size + 4) = some o ∧ o.cls = .type "zip" := ⟨_, hz, rfl⟩
    have e2 : ∃ o : Obj, h.get? (s.heap.objs.size + 2) = some o ∧ o.cls = .type "tuple" := ⟨_, hTI, rfl⟩
    have e3 : ∃ o : Obj, h.get? (s.heap.objs.size + 3) = some o ∧ o.cls = .type "tuple" := ⟨_, hTO, rfl⟩
    refine letG ?_
    intro kG
    obtain ⟨q1, g1, k1⟩ := e1
    k_unfold
    clear kG
    refine letG ?_
    intro kG
    obtain ⟨q2, g2, k2⟩ := e2
    k_unfold
    clear kG
    refine letG ?_
    intro kG
    obtain ⟨q3, g3, k3⟩ := e3
    k_unfold
    clear kG
    refine ⟨[(s.heap.objs.size + 4, q1), (s.heap.objs.size + 2, q2), (s.heap.objs.size + 3, q3), (s.heap.objs.size, o1), (s.heap.objs.size + 1, o2)], ⟨⟨rfl, k1⟩, ⟨rfl, k2⟩, ⟨rfl, k3⟩, ⟨rfl, hc1⟩, ⟨rfl, hc2⟩, trivial⟩, fun p hp => ?_⟩
    rcases List.mem_cons.mp hp with rfl | hp
    · exact g1
    rcases List.mem_cons.mp hp with rfl | hp
    · exact g2
    rcases List.mem_cons.mp hp with rfl | hp
    · exact g3
    rcases List.mem_cons.mp hp with rfl | hp
    · exact ho1
    rw [List.mem_singleton.mp hp]
    exact ho2
  · intro b hb
    have hb' : b = s.heap.objs.size + 4 ∨ b = s.heap.objs.size + 2 ∨ b = s.heap.objs.size + 3 ∨ b = s.heap.objs.size ∨ b = s.heap.objs.size + 1 := by simpa using hb
    rcases hb' with rfl | rfl | rfl | rfl | rfl
    · exact ⟨by simp, ktu_new F (Nat.le_add_right _ _)⟩
    · exact ⟨by simp, ktu_new F (Nat.le_add_right _ _)⟩
    · exact ⟨by simp, ktu_new F (Nat.le_add_right _ _)⟩
    · exact ⟨by simp, ktu_new F (Nat.le_refl _)⟩
    · exact ⟨by simp, ktu_new F (Nat.le_add_right _ _)⟩
  · intro b hb
    have hb' : b = s.heap.objs.size + 4 ∨ b = s.heap.objs.size + 3 ∨ b = s.heap.objs.size ∨ b = s.heap.objs.size + 1 := by simpa using hb
    rcases hb' with rfl | rfl | rfl | rfl <;> simp
  · intro b hb
    have hb' : b = s.heap.objs.size + 4 ∨ b = s.heap.objs.size + 2 ∨ b = s.heap.objs.size + 3 ∨ b = s.heap.objs.size ∨ b = s.heap.objs.size + 1 ∨ b = l1 ∨ b = l2 := by simpa using hb
    rcases hb' with rfl | rfl | rfl | rfl | rfl | rfl | rfl
    · exact .inl (by first | exact mem_mid _ _ _ | exact .head _ | exact .tail _ (.head _) | exact .tail _ (.tail _ (.head _)) | simp)
    · exact .inl (by first | exact mem_mid _ _ _ | exact .head _ | exact .tail _ (.head _) | exact .tail _ (.tail _ (.head _)) | simp)
    · exact .inl (by first | exact mem_mid _ _ _ | exact .head _ | exact .tail _ (.head _) | exact .tail _ (.tail _ (.head _)) | simp)
    · exact .inl (by first | exact mem_mid _ _ _ | exact .head _ | exact .tail _ (.head _) | exact .tail _ (.tail _ (.head _)) | simp)
    · exact .inl (by first | exact mem_mid _ _ _ | exact .head _ | exact .tail _ (.head _) | exact .tail _ (.tail _ (.head _)) | simp)
    · exact .inr ⟨_, .head _⟩
    · exact .inr ⟨_, .tail _ (.head _)⟩
  · intro hI'
    have hb' : L = s.heap.objs.size + 4 ∨ L = s.heap.objs.size + 2 ∨ L = s.heap.objs.size + 3 ∨ L = s.heap.objs.size ∨ L = s.heap.objs.size + 1 ∨ L = l1 ∨ L = l2 := by simpa using hI'
    have n1 := hax1.2.1
    have n2 := hax2.2.1
    rcases hb' with e | e | e | e | e | e | e
    · exact ktu_ne 4 hLs e
    · exact ktu_ne 2 hLs e
    · exact ktu_ne 3 hLs e
    · exact Nat.ne_of_lt hLs e
    · exact ktu_ne 1 hLs e
    · exact n1 e.symm
    · exact n2 e.symm
  · intro p hp hI'
    have hb' : p.1 = s.heap.objs.size + 4 ∨ p.1 = s.heap.objs.size + 2 ∨ p.1 = s.heap.objs.size + 3 ∨ p.1 = s.heap.objs.size ∨ p.1 = s.heap.objs.size + 1 := by simpa using hI'
    have hlp := Heap.lt_size (N p hp).1
    rcases hb' with e | e | e | e | e
    · exact ktu_ne 4 hlp e
    · exact ktu_ne 2 hlp e
    · exact ktu_ne 3 hlp e
    · exact Nat.ne_of_lt hlp e
    · exact ktu_ne 1 hlp e
  · exact ⟨hz, hTI, ⟨_, _, hTO⟩, hi1, hi2, hl1.at fun o e => hk l1 o e, hl2.at fun o e => hk l2 o e⟩
  · intro b hb
    have hb' : b = s.heap.objs.size + 4 ∨ b = s.heap.objs.size + 2 ∨ b = s.heap.objs.size + 3 ∨ b = s.heap.objs.size ∨ b = s.heap.objs.size + 1 ∨ b = l1 ∨ b = l2 := by simpa using hb
    show b < h'.objs.size
    rw [hsz']
    have hlt1' : (l1 : Nat) < s.heap.objs.size := hlt1
    have hlt2' : (l2 : Nat) < s.heap.objs.size := hlt2
    rcases hb' with rfl | rfl | rfl | rfl | rfl | rfl | rfl
    · exact Nat.lt_succ_self _
    · exact Nat.add_lt_add_left (by decide) _
    · exact Nat.add_lt_add_left (by decide) _
    · exact Nat.lt_add_of_pos_right (by decide)
    · exact Nat.add_lt_add_left (by decide) _
    · exact Nat.lt_add_right 5 hlt1
    · exact Nat.lt_add_right 5 hlt2
  · rintro r ys N ⟨r', q, _, h⟩
    exact ⟨(hin _ _ _ _ h).1, (hin _ _ _ _ h).2, trivial⟩
  · rintro f x r zs N t its C oC D m₂ h tk E' ⟨r', q', er, hI⟩ hC ha hb F' N' off ne
    cases r' with
    | nil => simp [zipItems] at er
    | cons x' r' =>
    cases q' with
    | nil => simp [zipItems] at er
    | cons y' q' =>
    simp only [zipItems, List.cons.injEq, Itm.pair.injEq] at er
    refine letG ?_
    intro kG
    obtain ⟨⟨rfl, rfl⟩, rfl⟩ := er
    k_unfold
    clear kG
    simp only [if_true]
    refine wpAny_mono (turn _ r' _ q' zs N its C oC D m₂ h tk E' hI hC ha hb F' N' off ne) (fun y s' p => ?_) fun _ _ e => e
    refine letG ?_
    intro kG
    obtain ⟨h', tk', N'', e, F', N3, off', j⟩ := p
    k_unfold
    clear kG
    exact ⟨h', tk', N'', e, F', N3, off', _, _, rfl, j⟩
  · rintro zs N ⟨r', q', er, hI⟩
    refine done r' q' zs N hI ?_
    cases r' with
    | nil => exact .inl rfl
    | cons x' r' =>
      cases q' with
      | nil => exact .inr rfl
      | cons y' q' => simp [zipItems] at er
  · intro D C h' tk m' ys news' F' N' o1 hn hC₀ hD₀ hCL hDL hCD offC fin
    refine ⟨m', hn, fun h'' hs'' => fin D h'' tk (F'.change hs'' hCL hC₀) (fun p hp => ?_) o1⟩
    refine ⟨hs''.extBut _ _ ?_ (N' p hp).1, (N' p hp).2⟩
    rcases List.mem_cons.mp hp with rfl | hp
    · exact Ne.symm hCD
    · exact offC p hp
end
theorem find_filter {q : Area → Bool} {c : Area} : ∀ {as : List Area}, as.find? q = some c → ∃ rest, as.filter q = c :: rest
  | [], h => by cases h
  | a :: as, h => by
    rw [List.find?_cons] at h
    split at h
    · rename_i h1
      obtain rfl := Option.some.inj h
      exact ⟨_, List.filter_cons_of_pos h1⟩
    · rename_i h1
      rw [List.filter_cons_of_neg (by simpa using h1)]
      exact find_filter h
theorem meets_iff {a b w1 w2 : Int} (h1 : 1 ≤ w1) (h2 : 1 ≤ w2) : ((if b > a then b else a) < if b + w2 < a + w1 then b + w2 else a + w1) ↔ (b < a + w1 ∧ a < b + w2) := by
  split <;> split <;> (first | (law_clear; lia) | lia | omega)
noncomputable def W4.hor : W4 → Bool
  | .left => true
  | .right => true
  | _ => false
noncomputable def W4.fwd : W4 → Bool
  | .right => true
  | .down => true
  | _ => false
noncomputable def Area.comp (a : Area) (i : Int) : Int := if i = 1 then a.x else if i = 2 then a.y else if i = 3 then a.w else a.h
noncomputable abbrev tup2 (x y : Value) : Obj := { cls := .type "tuple", data := .seq #[x, y] }
theorem area_item {prog : Program} {w : World} {A : Around} {E : Value → Shared → Prop} {s : Shared} {h₀ : Heap} {L : Addr} {N : Led} {value slice : PySem.Expr} {D : Addr} {t1 t2 t3 t4 t5 u : Tok} {a : Area} {i : Int} {Q : Value → Shared → Prop}
    (n0 : News h₀ L s.heap N) (hm : (D, tupA t1 t2 t3 t4 t5 a) ∈ N) (hi : 1 ≤ i ∧ i ≤ 4) (h : ∀ tk, Q (.int (a.comp i) tk) s)
    (hs : subscripted slice false (.ref D) (.int i u) = operate [.ref D, .int i u] (getItem (.ref D) (.int i u)) := by with_unfolding_all rfl) :
    Halt (wpAny (model prog w) A (subscriptTail value slice (.ref D) (.int i u)) Q E s) := by
  have ht := istup_led n0 hm
  have hj : i = 1 ∨ i = 2 ∨ i = 3 ∨ i = 4 := by (first | (law_clear; lia) | lia | omega)
  rcases hj with rfl | rfl | rfl | rfl
  · exact item_tupleT (l := [.int a.pane t1, .int a.x t2, .int a.y t3, .int a.w t4, .int a.h t5]) ht (by decide) (by decide) rfl rfl (h _) hs
  · exact item_tupleT (l := [.int a.pane t1, .int a.x t2, .int a.y t3, .int a.w t4, .int a.h t5]) ht (by decide) (by decide) rfl rfl (h _) hs
  · exact item_tupleT (l := [.int a.pane t1, .int a.x t2, .int a.y t3, .int a.w t4, .int a.h t5]) ht (by decide) (by decide) rfl rfl (h _) hs
  · exact item_tupleT (l := [.int a.pane t1, .int a.x t2, .int a.y t3, .int a.w t4, .int a.h t5]) ht (by decide) (by decide) rfl rfl (h _) hs
theorem beside_iff (wd : W4) (c q : Area) : ((if wd.fwd then c else q).comp (if wd.hor then 1 else 2) + (if wd.fwd then c else q).comp ((if wd.hor then 1 else 2) + 2) + 1 = (if wd.fwd then q else c).comp (if wd.hor then 1 else 2)) ↔ wd.beside c q = true := by
  cases wd <;> simp [W4.fwd, W4.hor, Area.comp, W4.beside]
theorem meets_iff2 (wd : W4) (c q : Area) (hc : 1 ≤ c.w ∧ 1 ≤ c.h) (hq : 1 ≤ q.w ∧ 1 ≤ q.h) {i : Int} (hi : i = if wd.hor then 2 else 1) :
    ((if q.comp i > c.comp i then q.comp i else c.comp i) < if q.comp i + q.comp (i + 2) < c.comp i + c.comp (i + 2) then q.comp i + q.comp (i + 2) else c.comp i + c.comp (i + 2)) ↔ wd.meets c q = true := by
  have hp : 1 ≤ c.comp (i + 2) ∧ 1 ≤ q.comp (i + 2) := by
    subst hi
    cases wd <;> simp [W4.hor, Area.comp, hc, hq]
  rw [meets_iff hp.1 hp.2]
  subst hi
  cases wd <;> simp [W4.hor, Area.comp, W4.meets]
section
example : True := by
  k_with "subscriptTail" => (k_dflt (refine' item_tupleT ?t ?a ?b ?c ?d ?_; (case t => exact News.isTup (by k_asm) (by k_mem)); (case a => decide); (case b => decide); (case c => rfl); (case d => rfl); k_whole))
  k_with "compareOp Eq ref ref" => (refine halt ?_)
  k_with "CompSrcT" => (refine halt ?_)
  k_with "exec Assign cons ListComp" => (k_dflt (refine LCt.Assign_ListComp_T (F₀ := by k_asm) (by rfl) (by with_unfolding_all rfl) (by with_unfolding_all rfl) (by decide) (by rfl) (by decide) (by rfl) (by rfl) (by rfl) ?_))
  k_with "eval IfExp" => (refine halt ?_)
  k_with "subscriptTail Name Name ref int" => refine halt ?_
  k_with "subscriptTail Name BinOp ref int" => refine halt ?_
  trivial
theorem law_beside (w : World) (N₀ : Led) (al : Addr) (its : List Value) (e : Nat) (as : List Area) (c : Area) (p : Int) (tp : Tok) (wd : W4) (tw : Tok) (hal : (al, listOf its.toArray e) ∈ N₀) (has : AreasAre N₀ its as) (hlen : as.length ≤ 200)
    (hfind : as.find? (fun a => decide (a.pane = p)) = some c) (hpos : ∀ a ∈ as, 1 ≤ a.w ∧ 1 ≤ a.h) :
    Tell w 210 [.ref al, .int p tp, .str wd.str tw] 60 N₀ (IntsK N₀ (neigh wd c as)) := by
  unfold Tell
  intro cx A₀ base h₀ L m mean mg mb s Q E B hf hk F X N TT hd hu ret
  (refine wpAny_call ?_; k_dflt (refine' code_defC ?k1 ?k2 ?k3 ?k4 ?k5 ?kA ?kF ?kK ?k6 ?k7 ?k8 ?k9 ?kB ?kD ?_ ?c2 ?c3 ?c4; (case kA => exact rfl); (case kF => assumption); (case kK => assumption); (case k1 => k_asm); (case k2 => k_asm); (case k3 => k_asm); (case k4 => k_asm); (case k5 => k_asm); (case k6 => k_is); (case k7 => k_is); (case k8 => k_room); (case k9 => first | exact bnd3 "areas" "pane" "word" rfl | exact binds_K (by k_in) rfl (by k_is) rfl rfl rfl); (case kB => exact rfl); (case kD => decide +kernel); (case c2 => exact rfl); (case c3 => exact rfl); (case c4 => exact rfl); k_whole; intro _ _ _ _ _ _ _ zzN zzY _ _ _ zzl; (have lc1 := fun p hp => Nat.ne_of_lt (Nat.lt_add_right 1 (zzl p hp))); (have lc2 := fun p hp => Nat.ne_of_lt (Nat.lt_add_right 1 (Nat.lt_add_right 1 (zzl p hp)))); (try k_lt zzl); k_cells zzY; (try simp only [List.cons_append, List.nil_append] at zzN); (try dsimp only); (try (refine foldL ?_; intro kQ kE))))
  k_steps
  rename Fr _ _ _ _ => F2
  rename News _ _ _ _ => N2
  rename Below _ _ (_ :: _) _ => B2
  rename Frag.In _ _ => X2
  rename Top _ _ _ _ _ _ => T2
  rename ∀ p ∈ N₀, p.1 < _ => lN
  refine letG ?_
  intro kG
  obtain ⟨NB, N3, hcB, subB⟩ := open_led0 N2
  k_unfold
  clear kG
  clear N2
  have hil := has.length
  refine compT_led rfl F2 N3 (subB _ hal) (by rw [sizeLine_eq]; (first | (law_clear; lia) | lia | omega)) (fun r ys N => Ex2 fun (dn rp : List Area) => And4 (as = dn ++ rp) (AreasAre N r rp) (AreasAre N ys (dn.filter fun a => decide (a.pane = p))) (∀ q ∈ NB, q ∈ N))
    ⟨[], as, rfl, has.all subB, .nil, fun _ h => h⟩ (fun r ys N h => by obtain ⟨dn, rp, h1, h2, h3, h4⟩ := h; exact h4 _ (subB _ hal)) ?_ ?_
  · intro v r ys N I oI C oC D m₂ h tk E' HI hC hx F3 N3' off ne
    (try (refine foldL ?_; intro kQ kE))
    refine letG ?_
    intro kG
    obtain ⟨dn, rp, hps, hr, hys, hN⟩ := HI
    k_unfold
    clear kG
    cases hr with | cons hDm hr =>
    rename_i D' t1 t2 t3 t4 t5 a rp'
    clear F2 N3
    have hcN := hN _ hcB
    k_steps
    · refine CPost.same F3 N3' off ⟨dn ++ [a], rp', by simp [hps], hr, ?_, hN⟩
      rw [List.filter_append]
      refine hys.append ?_
      rw [List.filter_cons_of_pos (by simpa using ‹a.pane = p›)]
      exact .cons hDm .nil
    · refine CPost.same F3 N3' off ⟨dn ++ [a], rp', by simp [hps], hr, ?_, hN⟩
      rw [List.filter_append, List.filter_cons_of_neg (by simpa using ‹¬ a.pane = p›)]
      simpa using hys
  · rintro ys N g ⟨dn, rp, hps, hr, hys, hN⟩
    have : rp = [] := by cases hr; rfl
    subst this
    rw [List.append_nil] at hps
    subst hps
    unfold LCg.FinA
    intro D h tk F4 N4 o1
    clear F2 N3
    obtain ⟨rest, hrest⟩ := find_filter hfind
    rw [hrest] at hys
    cases hys with | cons hcm hys =>
    rename_i DC c1 c2 c3 c4 c5 ys'
    k_steps
    rename Fr _ _ _ _ => F5
    rename News _ _ _ (_ :: _) => N5
    refine eq_nil_led (xs := .ref DC :: ys') N5 (.tail _ (.head _)) (.head _) (by ((try simp only [units_in1, units_deeper]); (try dsimp only); (first | (law_clear; lia) | lia | omega))) ?_
    (try dsimp only [List.isEmpty])
    have neighS : ∀ wd : W4, ∀ (dn : List Area) (q : Area), neigh wd c (dn ++ [q]) = neigh wd c dn ++ if wd.beside c q && wd.meets c q then [q.pane] else [] := by
      intro wd dn q
      unfold neigh
      rw [List.filter_append, List.map_append]
      congr 1
      by_cases hh : (wd.beside c q && wd.meets c q) = true
      · rw [if_pos hh]; simp [hh]
      · rw [if_neg hh]; simp [eq_false_of_ne_true hh]
    have hpc := hpos c (List.mem_of_find?_eq_some hfind)
    have nD := off1_mem o1
    have sub0 : ∀ q ∈ N₀, q ∈ N := fun q hq => hN _ (subB _ hq)
    k_steps
    rename _ < _ ∧ _ < _ ∧ AllLt _ N => lz
    rename Fr _ _ _ _ => F6
    rename News _ _ _ _ => N6
    refine letG ?_
    intro kG
    obtain ⟨fl, rfl, fl2⟩ := name_lt (kst_ltOf lz.2.2)
    k_unfold
    clear kG
    obtain ⟨NC, N7, hfl, subC⟩ : ∃ NC, And3 (News _ _ _ NC) ((fl, listOf #[] 0) ∈ NC) (∀ q ∈ N, q ∈ NC) := ⟨_, N6, by k_mem, fun q hq => by simp [hq]⟩
    clear N6
    obtain ⟨ia, hia⟩ : ∃ x : Int, x = if wd.hor then 1 else 2 := ⟨_, rfl⟩
    obtain ⟨ic, hic⟩ : ∃ x : Int, x = if wd.hor then 2 else 1 := ⟨_, rfl⟩
    refine join_led F6 N7 (fun v N' => Ex3 fun DT ta tc => And3 (v = .ref DT) ((DT, tup2 (.int ia ta) (.int ic tc)) ∈ N') (∀ q ∈ NC, q ∈ N')) ?_ ?_
    · refine IfExp_ ?_
      cases wd
      all_goals (subst hia hic; k_steps)
      all_goals exact ⟨_, _, _, rfl, by assumption, by assumption, _, _, _, rfl, by k_mem, fun q hq => by simp [hq]⟩
    rintro v h7 tk7 ND F7 N7' ⟨DT, ta, tc, rfl, hDT, sub7⟩
    clear F6 N7
    have hab : (1 ≤ ia ∧ ia ≤ 2) ∧ 1 ≤ ic ∧ ic ≤ 2 := by
      rw [hia, hic]
      cases wd.hor <;> decide
    k_steps
    rename Fr _ _ _ _ => F8
    rename News _ _ _ _ => N8
    have upN : ∀ q ∈ N, q ∈ ND := fun q hq => sub7 _ (subC _ hq)
    refine iter_ledS F8 N8 (upN _ (sub0 _ hal)) (by rfl) (by rfl) (by rfl) (by rfl) ["near", "far", "meets"] (fun av rest N' => Ex7 fun (u v z : Option Value) (dn rp : List Area) (fs : List Value) (e3 : Nat) => And6 (av = [u, v, z]) (as = dn ++ rp) (AreasAre N rest rp) ((fl, listOf fs.toArray e3) ∈ N') (IntsAre fs (neigh wd c dn)) (∀ q ∈ ND, q.1 ≠ fl → q ∈ N'))
      ⟨_, _, _, [], as, [], 0, rfl, rfl, has.all sub0, sub7 _ hfl, .nil, fun p hp _ => hp⟩ (fun av rest N h => by obtain ⟨u, v, z, dn, rp, fs, e3, h0, h1, h2, h3, h4, h5⟩ := h; exact h5 _ (upN _ (sub0 _ hal)) (Nat.ne_of_lt (fl2 _ (sub0 _ hal)))) ?_ ?_
    · intro av v rest' M I it h8 tk8 HI hne hc8 F9 N9
      (try (refine foldL ?_; intro kQ kE))
      refine letG ?_
      intro kG
      obtain ⟨u, v, z, dn, rp, fs, e3, rfl, hps, hr', hflM, hfs, hM⟩ := HI
      k_unfold
      clear kG
      cases hr' with | cons hqm hr' =>
      rename_i DQ q1 q2 q3 q4 q5 q rp'
      have hqM := hM _ (upN _ hqm) (Nat.ne_of_lt (fl2 _ hqm))
      have hcM := hM _ (upN _ hcm) (Nat.ne_of_lt (fl2 _ hcm))
      have hpq := hpos q (by rw [hps]; simp)
      have hfN : fl ≠ I := hne _ hflM
      have fsl : fs.length ≤ 200 := by
        have h1 := hfs.length
        have h2 : (neigh wd c dn).length ≤ dn.length := by
          unfold neigh
          rw [List.length_map]
          exact List.length_filter_le _ _
        have h3 := congrArg List.length hps
        rw [List.length_append] at h3
        (first | (law_clear; lia) | lia | omega)
      clear F8 N8
      k_steps
      rename Fr _ _ _ _ => F10
      rename News _ _ _ _ => N10
      obtain ⟨nD, hnD⟩ : ∃ x : Addr, x = if wd.fwd then DC else DQ := ⟨_, rfl⟩
      obtain ⟨fD, hfD⟩ : ∃ x : Addr, x = if wd.fwd then DQ else DC := ⟨_, rfl⟩
      refine join_led F10 N10 (fun v N' => ∃ D2, And3 (v = .ref D2) ((D2, tup2 (.ref nD) (.ref fD)) ∈ N') (∀ q ∈ (I, it) :: M, q ∈ N')) ?_ ?_
      · refine IfExp_ ?_
        cases wd
        all_goals (subst hnD hfD; k_steps)
        all_goals exact ⟨_, _, _, rfl, by assumption, by assumption, _, rfl, by k_mem, fun q hq => List.mem_cons_of_mem _ (List.mem_cons_of_mem _ hq)⟩
      rintro v h11 tk11 NM F11 N11 ⟨D2, rfl, hD2, subM⟩
      clear F10 N10
      have hqN := subM _ (.tail _ hqM)
      have hcN := subM _ (.tail _ hcM)
      have hflN := subM _ (.tail _ hflM)
      obtain ⟨na, n1, n2, n3, n4, n5, hnm, hna⟩ : Ex6 fun (na : Area) n1 n2 n3 n4 n5 => (nD, tupA n1 n2 n3 n4 n5 na) ∈ NM ∧ na = if wd.fwd then c else q := by
        rw [hnD]
        cases wd.fwd
        · exact ⟨_, _, _, _, _, _, hqN, rfl⟩
        · exact ⟨_, _, _, _, _, _, hcN, rfl⟩
      obtain ⟨fa, m1, m2, m3, m4, m5, hfm, hfa⟩ : Ex6 fun (fa : Area) m1 m2 m3 m4 m5 => (fD, tupA m1 m2 m3 m4 m5 fa) ∈ NM ∧ fa = if wd.fwd then q else c := by
        rw [hfD]
        cases wd.fwd
        · exact ⟨_, _, _, _, _, _, hcN, rfl⟩
        · exact ⟨_, _, _, _, _, _, hqN, rfl⟩
      k_steps
      rename News _ _ _ _ => NN
      refine area_item NN (by first | assumption | exact .tail _ (by assumption)) (by (first | (law_clear; lia) | lia | omega)) fun k1 => ?_
      k_steps
      rename News _ _ _ _ => NN
      refine area_item NN (by first | assumption | exact .tail _ (by assumption)) (by (first | (law_clear; lia) | lia | omega)) fun k2 => ?_
      k_steps
      rename News _ _ _ _ => NN
      refine area_item NN (by first | assumption | exact .tail _ (by assumption)) (by (first | (law_clear; lia) | lia | omega)) fun k3 => ?_
      k_steps
      rename News _ _ _ _ => NN
      refine area_item NN (by first | assumption | exact .tail _ (by assumption)) (by (first | (law_clear; lia) | lia | omega)) fun k4 => ?_
      k_steps
      rename News _ _ _ _ => NN
      refine area_item NN (by first | assumption | exact .tail _ (by assumption)) (by (first | (law_clear; lia) | lia | omega)) fun k5 => ?_
      k_steps
      rename News _ _ _ _ => NN
      refine area_item NN (by first | assumption | exact .tail _ (by assumption)) (by (first | (law_clear; lia) | lia | omega)) fun k6 => ?_
      k_steps
      rename News _ _ _ _ => NN
      refine area_item NN (by first | assumption | exact .tail _ (by assumption)) (by (first | (law_clear; lia) | lia | omega)) fun k7 => ?_
      k_steps
      rename News _ _ _ _ => NN
      refine area_item NN (by first | assumption | exact .tail _ (by assumption)) (by (first | (law_clear; lia) | lia | omega)) fun k8 => ?_
      k_steps
      rename News _ _ _ _ => NN
      refine area_item NN (by first | assumption | exact .tail _ (by assumption)) (by (first | (law_clear; lia) | lia | omega)) fun k9 => ?_
      k_steps
      all_goals first
        | (rename Fr _ _ _ _ => F14
           rename News _ _ _ _ => N14
           refine halt (append_led F14 N14 (subM _ (.tail _ hflM)) (by rw [sizeLine_eq]; (first | (law_clear; lia) | lia | omega)) ?_)
           intro h15 n15 F15 N15
           clear F14 N14
           (try dsimp only)
           k_steps
           refine LPostS.intro F15 N15 (.tail _ (mem_wipe (subM _ (.head _)) (Ne.symm hfN))) ?_ ⟨_, _, _, dn ++ [q], rp', _, n15, rfl, by simp [hps], hr', mem_wipe (.head _) hfN, ?_, fun p hp hpf => mem_wipe (.tail _ (mem_wipe (subM _ (.tail _ (hM p hp hpf))) hpf)) (hne p (hM p hp hpf))⟩
           · intro z hz1 hz2
             simp only [List.mem_cons, List.not_mem_nil, or_false, not_or] at hz2
             simp +zetaDelta [up, ovl, hz1, hz2]
           · rw [neighS, if_pos]
             · exact hfs.append (.cons _ _ .nil)
             · rw [Bool.and_eq_true]
               exact ⟨(beside_iff wd c q).mp (by rw [← hna, ← hfa, ← hia]; assumption), (meets_iff2 wd c q hpc hpq hic).mp (by assumption)⟩)
        | (rename Fr _ _ _ _ => F14
           rename News _ _ _ _ => N14
           refine LPostS.intro F14 N14 (subM _ (.head _)) ?_ ⟨_, _, _, dn ++ [q], rp', fs, e3, rfl, by simp [hps], hr', mem_wipe (subM _ (.tail _ hflM)) hfN, ?_, fun p hp hpf => mem_wipe (subM _ (.tail _ (hM p hp hpf))) (hne p (hM p hp hpf))⟩
           · intro z hz1 hz2
             simp only [List.mem_cons, List.not_mem_nil, or_false, not_or] at hz2
             simp +zetaDelta [up, ovl, hz1, hz2]
           · rw [neighS, if_neg, List.append_nil]
             · exact hfs
             · rw [Bool.and_eq_true]
               rintro ⟨a1, a2⟩
               first
                 | exact absurd ((meets_iff2 wd c q hpc hpq hic).mpr a2) (by assumption)
                 | exact absurd ((beside_iff wd c q).mpr a1) (by rw [← hna, ← hfa, ← hia]; assumption))
    · intro av u N' h tk HI F9 N9
      (try (refine foldL ?_; intro kQ kE))
      refine letG ?_
      intro kG
      obtain ⟨uu, vv, zz, dn, rp, fs, e3, rfl, hps, hr', hflM, hfs, hM⟩ := HI
      k_unfold
      clear kG
      have : rp = [] := by cases hr'; rfl
      subst this
      rw [List.append_nil] at hps
      subst hps
      clear F8 N8
      k_steps
      exact ret _ fl fs e3 hflM hfs (fun q hq => Nat.ne_of_lt (fl2 _ (sub0 _ hq))) (fun q hq => hM _ (upN _ (sub0 _ hq)) (Nat.ne_of_lt (fl2 _ (sub0 _ hq)))) _ _ (by k_asm) (by k_asm)
example : True := by
  k_with_none
  trivial
end
section
variable {prog : Program} {w : World} {A : Around} {E : Value → Shared → Prop} {h₀ h : Heap} {L : Addr} {m : Str → Option Value} {news : List (Addr × Obj)}
noncomputable abbrev tupOf (xs : List Value) : Obj := { cls := .type "tuple", data := .seq xs.toArray }
theorem tuprest_led {value slice : Expr} {t : Addr} {x0 : Value} {xs : List Value} {u : Tok} {Q : Value → Shared → Prop} {gn dr tk os} (F : Fr h₀ L h m) (N : News h₀ L h news) (hm : (t, tupOf (x0 :: xs)) ∈ news)
    (hq : ∀ D h', Fr h₀ L h' m → News h₀ L h' ((D, tupOf xs) :: news) → (∀ p ∈ news, p.1 < D) → Q (.ref D) ⟨h', gn, dr, tk, os⟩)
    (hs : subscripted slice false (.ref t) (.ref h.objs.size) = operate [.ref h.objs.size, .ref t] (getItem (.ref t) (.ref h.objs.size))) (ht : ∀ r, letTemporaryGo value (.ref t) r = pure ()) (hz : (x0 :: xs).length ≤ sizeLine) :
    Halt (wpAny (model prog w) A (subscriptTail value slice (.ref t) (.ref h.objs.size)) Q E ⟨h.push { cls := .type "slice", data := .fields #[.int 1 u, .none, .none] }, gn, dr, tk, os⟩) := by
  refine slice_tuple_from (s := ⟨h, gn, dr, tk, os⟩) (a := 1) F N ⟨_, (N _ hm).1, rfl, _, rfl⟩ (by decide) (by first | exact mem_mid _ _ _ | exact .head _ | exact .tail _ (.head _) | exact .tail _ (.tail _ (.head _)) | simp) (fun h' F' N' => ?_) hs ht (by simpa using hz)
  refine hq _ _ F' ?_ (fun p hp => Nat.lt_succ_of_lt (Heap.lt_size (N p hp).1))
  simpa using N'
theorem tupadd_led {s : Shared} {t b : Addr} {vs ws : List Value} {Q : Value → Shared → Prop} (F : Fr h₀ L s.heap m) (N : News h₀ L s.heap news) (ht : (t, tupOf vs) ∈ news) (hb : (b, tupOf ws) ∈ news) (h0 : vs ≠ []) (h1 : ws ≠ [])
    (h2 : ∀ D h', Fr h₀ L h' m → News h₀ L h' ((D, tupOf (vs ++ ws)) :: news) → (∀ p ∈ news, p.1 < D) → Q (.ref D) { s with heap := h' }) (hz : vs.length + ws.length ≤ sizeLine) :
    Halt (wpAny (model prog w) A (binaryOp .Add (.ref t) (.ref b)) Q E s) :=
  add_tuples F N ⟨_, (N _ ht).1, rfl, _, rfl⟩ ⟨_, (N _ hb).1, rfl, _, rfl⟩ (fun e => absurd e h0) (fun _ e => absurd e h1) (fun _ _ h' F' N' => h2 _ h' F' N' fun p hp => Heap.lt_size (N p hp).1) hz
end
section
example : True := by
  k_with "subscriptTail Name Slice ref ref" => (refine halt ?_)
  k_with "subscriptTail" => (refine halt ?_)
  k_with "QPost" => (unfold QPost)
  k_with "eval ListComp" => (k_dflt (refine ListComp_pairs (by with_unfolding_all rfl) (by rfl) (by decide) ?_))
  trivial
theorem law_numbered (w : World) (N₀ : Led) (al nl : Addr) (its nts : List Value) (e e' : Nat) (as : List Area) (ns : List Int) (hal : (al, listOf its.toArray e) ∈ N₀) (has : AreasAre N₀ its as) (hnl : (nl, listOf nts.toArray e') ∈ N₀) (hns : IntsAre nts ns) (hlen : ns.length ≤ 200) :
    Tell w 239 [.ref al, .ref nl] 40 N₀ (AreasK N₀ (fill as ns)) := by
  unfold Tell
  intro cx A₀ base h₀ L m mean mg mb s Q E B hf hk F X N TT hd hu ret
  (refine wpAny_call ?_; k_dflt (refine' code_def ?k1 ?k2 ?k3 ?k4 ?k5 ?kA ?kF ?kK ?k6 ?k7 ?k8 ?k9 ?kB ?_ ?c2 ?c3 ?c4 ?c5; (case kA => exact rfl); (case kF => assumption); (case kK => assumption); (case k1 => k_asm); (case k2 => k_asm); (case k3 => k_asm); (case k4 => k_asm); (case k5 => k_asm); (case k6 => k_is); (case k7 => k_is); (case k8 => k_room); (case k9 => exact bnd2 "areas" "numbers" rfl); (case c5 => decide); (case kB => exact locs rfl); (case c2 => exact rfl); (case c3 => exact rfl); (case c4 => exact rfl); k_whole; intro _ _ _ _ _ _ _ _ _; (try dsimp only); (try (refine foldL ?_; intro kQ kE))))
  k_steps
  rename Fr _ _ _ _ => F2
  rename News _ _ _ _ => N2
  refine zipC_led rfl F2 N2 hnl hal (by rw [hns.length, sizeLine_eq]; (first | (law_clear; lia) | lia | omega)) (by decide) (by rfl) (by rfl) (by rfl) (by decide) (fun xs ys zs N => Ex4 fun (dn rn : List Int) (da ra : List Area) => And7 (ns = dn ++ rn) (as = da ++ ra) (dn.length = da.length) (IntsAre xs rn) (AreasAre N ys ra) (AreasAre N zs (fill da dn)) (∀ q ∈ N₀, q ∈ N))
    ⟨[], ns, [], as, rfl, rfl, rfl, hns, has, .nil, fun _ h => h⟩ (fun r q zs N h => by obtain ⟨dn, rn, da, ra, h1, h2, h3, h4, h5, h6, h7⟩ := h; exact ⟨h7 _ hnl, h7 _ hal⟩) ?_ ?_
  · intro x r y q zs N its' C oC D m₂ h tk E' HI hC ha hb F3 N3 off ne
    (try (refine foldL ?_; intro kQ kE))
    refine letG ?_
    intro kG
    obtain ⟨dn, rn, da, ra, hdn, hda, hdl, hx, hy, hz, hN⟩ := HI
    k_unfold
    clear kG
    cases hx with | cons n1 u1 hx =>
    cases hy with | cons hDm hy =>
    rename_i rn' D' t1 t2 t3 t4 t5 a ra'
    clear F2 N2
    k_steps
    rename _ < _ ∧ _ => lt1
    rename Fr _ _ _ _ => F4
    rename News _ _ _ _ => N4
    refine tuprest_led F4 N4 (x0 := .int a.pane t1) (xs := [.int a.x t2, .int a.y t3, .int a.w t4, .int a.h t5]) (by simp [hDm]) ?_ (by with_unfolding_all rfl) (by kmk_pure) (by rw [sizeLine_eq]; simp)
    intro D5 h5 F5 N5 l5
    clear F4 N4
    (try dsimp only)
    refine tupadd_led F5 N5 (vs := [.int n1 u1]) (ws := [.int a.x t2, .int a.y t3, .int a.w t4, .int a.h t5]) (.tail _ (.head _)) (.head _) (by first | exact mem_mid _ _ _ | exact .head _ | exact .tail _ (.head _) | exact .tail _ (.tail _ (.head _)) | simp) (by first | exact mem_mid _ _ _ | exact .head _ | exact .tail _ (.head _) | exact .tail _ (.tail _ (.head _)) | simp) ?_ (by rw [sizeLine_eq]; simp)
    intro D6 h6 F6 N6 l6
    clear F5 N5
    (try dsimp only)
    k_steps
    refine QPost.more F6 N6 (.head _) (fun p hp => ⟨.tail _ (.tail _ (.tail _ hp)), l6 _ (.tail _ (.tail _ hp))⟩) off ⟨dn ++ [n1], rn', da ++ [a], ra', by simp [hdn], by simp [hda], by simp [hdl], hx, hy.all fun p hp => .tail _ hp, ?_, fun q hq => .tail _ (hN q hq)⟩
    rw [fill, List.zipWith_append hdl.symm]
    exact (hz.all fun p hp => .tail _ hp).append (.cons (t1 := u1) (t2 := t2) (t3 := t3) (t4 := t4) (t5 := t5) (a := ⟨n1, a.x, a.y, a.w, a.h⟩) (.head _) .nil)
  · rintro r q zs N ⟨dn, rn, da, ra, hdn, hda, hdl, hx, hy, hz, hN⟩ hend
    unfold LCg.FinE
    intro D h tk F3 N3 o1
    clear F2 N2
    k_steps
    refine ret _ D zs zs.length (.head _) ?_ (fun q hq => off1_mem o1 q (hN q hq)) (fun q hq => .tail _ (hN q hq)) _ _ (by k_asm) (by k_asm)
    have e : fill as ns = fill da dn := by
      rw [hdn, hda, fill, List.zipWith_append hdl.symm]
      rcases hend with rfl | rfl
      · cases hx; simp
      · cases hy; simp
    rw [e]
    exact hz.all fun p hp => .tail _ hp
example : True := by
  k_with_none
  trivial
end
namespace P
theorem spot_append (p : Int) : ∀ (a b : List P) (i : Nat), spot p i (a ++ b) = spot p i a ++ spot p (i + a.length) b
  | [], b, i => by simp [spot]
  | x :: a, b, i => by
    rw [List.cons_append, spot, spot, spot_append p a b (i + 1), List.append_assoc, List.length_cons]
    rw [show i + 1 + a.length = i + (a.length + 1) by (first | (law_clear; lia) | lia | omega)]
theorem spot_split {p : Int} : ∀ {ps : List P} {i j : Nat} {r : List Nat}, spot p i ps = j :: r → ∃ dn c rp, ps = dn ++ c :: rp ∧ j = i + dn.length ∧ c.kin = .pane p
  | [], i, j, r, h => by simp [spot] at h
  | x :: ps, i, j, r, h => by
    rw [spot] at h
    by_cases hx : x.kin = .pane p
    · rw [if_pos hx] at h
      simp only [List.cons_append, List.cons.injEq] at h
      exact ⟨[], x, ps, rfl, by rw [← h.1]; rfl, hx⟩
    · rw [if_neg hx, List.nil_append] at h
      refine letG ?_
      intro kG
      obtain ⟨dn, c, rp, e, hj, hc⟩ := spot_split h
      k_unfold
      clear kG
      exact ⟨x :: dn, c, rp, by rw [e]; rfl, by rw [hj, List.length_cons]; (first | (law_clear; lia) | lia | omega), hc⟩
mutual
theorem growF_sz (r : Bool) (m : Nat) : ∀ p : P, (growF r m p).sz = p.sz
  | mk k w h ps => by
    rw [growF, sz, sz]
    split
    · rw [growFH_sz r m ps]
    · rw [growFA_sz r m ps]
theorem growFH_sz (r : Bool) (m : Nat) : ∀ ps : List P, szL (growFH r m ps) = szL ps
  | [] => rfl
  | p :: q => by rw [growFH, szL, szL, growF_sz r m p]
theorem growFA_sz (r : Bool) (m : Nat) : ∀ ps : List P, szL (growFA r m ps) = szL ps
  | [] => rfl
  | p :: q => by rw [growFA, szL, szL, growF_sz r m p, growFA_sz r m q]
end
theorem deal_sz (r : Bool) (m len : Nat) : ∀ (ps : List P) (i : Nat), szL (deal r m len i ps) = szL ps
  | [], _ => rfl
  | p :: q, i => by rw [deal, szL, szL, growF_sz, deal_sz r m len q (i + 1)]
mutual
theorem grow_sz (r : Bool) (m : Nat) : ∀ p : P, (grow r m p).sz = p.sz
  | mk k w h ps => by
    rw [grow, sz, sz]
    split
    · rw [deal_sz]
    · rw [growA_sz r m ps]
theorem growA_sz (r : Bool) (m : Nat) : ∀ ps : List P, szL (growA r m ps) = szL ps
  | [] => rfl
  | p :: q => by rw [growA, szL, szL, grow_sz r m p, growA_sz r m q]
end
theorem modAt_sz (f : P → P) (hf : ∀ p, (f p).sz = p.sz) : ∀ (i : Nat) (ps : List P), szL (modAt f i ps) = szL ps
  | _, [] => by simp [modAt]
  | 0, p :: q => by rw [modAt, szL, szL, hf]
  | i + 1, p :: q => by rw [modAt, szL, szL, modAt_sz f hf i q]
theorem erase_sz : ∀ (i : Nat) (ps : List P), szL (ps.eraseIdx i) ≤ szL ps
  | _, [] => by simp
  | 0, p :: q => by rw [List.eraseIdx_cons_zero, szL]; (first | (law_clear; lia) | lia | omega)
  | i + 1, p :: q => by
    rw [List.eraseIdx_cons_succ, szL, szL]
    have := erase_sz i q
    (first | (law_clear; lia) | lia | omega)
theorem melt_szP (k : K) : ∀ ps : List P, szL (melt k ps) ≤ szL ps
  | [] => by simp [melt]
  | p :: r => by
    have h := melt_szP k r
    rw [melt, szL_append, szL]
    have h2 : szL (if sameK p.kin k = true then p.par else [p]) ≤ p.sz := by
      split
      · cases p; simp only [par, sz]; (first | (law_clear; lia) | lia | omega)
      · simp [szL]
    (first | (law_clear; lia) | lia | omega)
theorem pick_sz (k : K) (w h : Int) (ps : List P) : (pick k w h ps).sz ≤ szL ps + 1 := by
  unfold pick
  split
  · simp [szL]
  · simp [sz]
mutual
theorem closeF_sz (p : Int) : ∀ e : P, (closeF p e).sz ≤ e.sz
  | mk k w h ps => by
    rw [closeF]
    split
    · rw [sz, sz]
      have h1 := melt_szP k (closeFL p ps)
      have h2 := closeFL_sz p ps
      (first | (law_clear; lia) | lia | omega)
    · rename_i i r _
      have h1 := pick_sz k w h (modAt (grow (sameK k .row) (sideAt (sameK k .row) i ps + 1).toNat) (i - 1) (ps.eraseIdx i))
      rw [modAt_sz _ (grow_sz _ _)] at h1
      have h2 := erase_sz i ps
      rw [sz]
      (first | (law_clear; lia) | lia | omega)
theorem closeFL_sz (p : Int) : ∀ ps : List P, szL (closeFL p ps) ≤ szL ps
  | [] => by simp [closeFL]
  | q :: r => by
    rw [closeFL, szL, szL]
    have h1 := closeF_sz p q
    have h2 := closeFL_sz p r
    split <;> (first | (law_clear; lia) | lia | omega)
end
theorem closeF_nil {p : Int} {k : K} {w h : Int} {ps : List P} (e : spot p 0 ps = []) : closeF p (mk k w h ps) = mk k w h (melt k (closeFL p ps)) := by
  rw [closeF, e]
theorem closeF_spot {p : Int} {k : K} {w h : Int} {dn rp : List P} {c : P} {r : List Nat} (e : spot p 0 (dn ++ c :: rp) = dn.length :: r) :
    closeF p (mk k w h (dn ++ c :: rp)) = pick k w h (modAt (grow (sameK k .row) (c.side (sameK k .row) + 1).toNat) (dn.length - 1) (dn ++ rp)) := by
  rw [closeF, e]
  (try dsimp only)
  rw [eraseIdx_at]
  have : sideAt (sameK k .row) dn.length (dn ++ c :: rp) = c.side (sameK k .row) := by
    unfold sideAt
    simp
  rw [this]
theorem pick_ne {k : K} {w h : Int} {l : List P} (e : l.length ≠ 1) : pick k w h l = mk k w h l := by
  unfold pick
  split
  · exact absurd rfl e
  · rfl
theorem closeFL_append (p : Int) : ∀ a b : List P, closeFL p (a ++ b) = closeFL p a ++ closeFL p b
  | [], b => by simp [closeFL]
  | q :: a, b => by rw [List.cons_append, closeFL, closeFL, closeFL_append p a b]; rfl
end P
namespace T
theorem erL_split : ∀ {ps : List T} {a b : List P} {x : P}, erL ps = a ++ x :: b → ∃ dn c rp, ps = dn ++ c :: rp ∧ erL dn = a ∧ c.er = x ∧ erL rp = b
  | [], a, b, x, h => by simp [erL] at h
  | q :: ps, [], b, x, h => by
    rw [erL, List.nil_append, List.cons.injEq] at h
    exact ⟨[], q, ps, rfl, rfl, h.1, h.2⟩
  | q :: ps, y :: a, b, x, h => by
    rw [erL, List.cons_append, List.cons.injEq] at h
    refine letG ?_
    intro kG
    obtain ⟨dn, c, rp, e, h1, h2, h3⟩ := erL_split h.2
    k_unfold
    clear kG
    exact ⟨q :: dn, c, rp, by rw [e]; rfl, by rw [erL, h.1, h1], h2, h3⟩
theorem Law.parts {w : World} {N : Led} : ∀ {t : T}, t.Law w N → LawL w N t.par
  | .mk _ _ _ _ _ _ _ _ _, h => by rw [Law] at h; exact h.2
theorem par_fp : ∀ {t : T} {a : Addr}, a ∈ fpL t.par → a ∈ t.fp
  | .mk _ _ _ _ _ _ _ _ _, a, h => by rw [fp]; simp only [par] at h; simp [h]
theorem par_nd : ∀ {t : T}, t.fp.Nodup → (fpL t.par).Nodup
  | .mk _ _ _ _ _ _ _ _ _, h => by rw [fp] at h; simp at h; exact h.2.2.2
theorem par_er : ∀ t : T, t.er.par = erL t.par
  | .mk _ _ _ _ _ _ _ _ _ => by rw [er]; rfl
end T
noncomputable def Still (N N' : Led) : Prop := ∀ x ∈ N, ∃ o, (x.1, o) ∈ N'
theorem Still.new {N N' : Led} {a : Addr} (s : Still N N') (h : New N' a) : New N a := fun x hx e => by
  obtain ⟨o, ho⟩ := s x hx
  exact h _ ho e
theorem Still.trans {N N' N'' : Led} (s : Still N N') (t : Still N' N'') : Still N N'' := fun x hx => by
  obtain ⟨o, ho⟩ := s x hx
  exact t (x.1, o) ho
theorem Still.of {N N' : Led} (h : ∀ x ∈ N, x ∈ N') : Still N N' := fun x hx => ⟨x.2, h x hx⟩
namespace T
theorem closed_step {w : World} {k : K} {p : Int} {I : Addr} {it : Obj} {NB N N1 N2 : Led} {ps dn rp cs : List T} {q u : T} (nd : (fpL ps).Nodup) (tl : LawL w NB ps) (hps : ps = dn ++ q :: rp)
    (hcs : LawL w N cs) (hrp : LawL w N (q :: rp)) (her : erL cs = P.melt k (P.closeFL p (erL dn))) (hfp : ∀ a ∈ fpL cs, a ∈ fpL dn ∨ New NB a) (hnd : (fpL cs).Nodup) (hN : ∀ x ∈ NB, x.1 ∉ fpL dn → x ∈ N) (hB : Still NB N) (hne : ∀ x ∈ N, x.1 ≠ I)
    (hu : u.Law w N1) (ue : u.er = if q.er.kin.isPane then q.er else P.closeF p q.er) (uf : ∀ a ∈ u.fp, a ∈ q.fp ∨ New ((I, it) :: N) a) (un : u.fp.Nodup) (k1 : ∀ x ∈ (I, it) :: N, x.1 ∉ q.fp → x ∈ N1) (kb : Still ((I, it) :: N) N1) (up : ∀ x ∈ N1, x.1 ≠ I → x ∈ N2) :
    LawL w N2 (cs ++ if sameK u.kin k then u.par else [u]) ∧ LawL w N2 rp ∧ erL (cs ++ if sameK u.kin k then u.par else [u]) = P.melt k (P.closeFL p (erL (dn ++ [q]))) ∧
      (∀ a ∈ fpL (cs ++ if sameK u.kin k then u.par else [u]), a ∈ fpL (dn ++ [q]) ∨ New NB a) ∧ (fpL (cs ++ if sameK u.kin k then u.par else [u])).Nodup ∧ (∀ x ∈ NB, x.1 ∉ fpL (dn ++ [q]) → x ∈ N2) ∧ Still NB N2 := by
  subst hps
  have nd0 := nd
  rw [fpL_append, fpL] at nd
  have n1 := List.nodup_append.mp nd
  have n2 := List.nodup_append.mp n1.2.1
  rw [LawL] at hrp
  have qI : ∀ a ∈ q.fp, a ≠ I := fun a ha => by
    obtain ⟨o, ho⟩ := hrp.1.has a ha
    exact hne _ ho
  have rI : ∀ a ∈ fpL rp, a ≠ I := fun a ha => by
    obtain ⟨o, ho⟩ := hrp.2.has a ha
    exact hne _ ho
  have cI : ∀ a ∈ fpL cs, a ≠ I := fun a ha => by
    obtain ⟨o, ho⟩ := hcs.has a ha
    exact hne _ ho
  have uI : ∀ a ∈ u.fp, a ≠ I := fun a ha => (uf a ha).elim (qI a) fun h e => h _ (.head _) e.symm
  have qB : ∀ a ∈ q.fp, ¬ New NB a := fun a ha h => by
    obtain ⟨o, ho⟩ := tl.has a (by rw [fpL_append, fpL]; simp [ha])
    exact h _ ho rfl
  have cq : ∀ a ∈ fpL cs, a ∉ q.fp := fun a ha hq => (hfp a ha).elim (fun h => n1.2.2 a h a (List.mem_append_left _ hq) rfl) (qB a hq)
  have cu : ∀ a ∈ fpL cs, a ∉ u.fp := fun a ha hq => by
    rcases uf a hq with h | h
    · exact cq a ha h
    · obtain ⟨o, ho⟩ := hcs.has a ha
      exact h _ (.tail _ ho) rfl
  have uB : ∀ a ∈ u.fp, a ∈ q.fp ∨ New NB a := fun a ha => (uf a ha).imp id fun h => hB.new (h.sub fun x hx => .tail _ hx)
  have to2 : ∀ a, a ≠ I → a ∉ q.fp → ∀ o, (a, o) ∈ N → (a, o) ∈ N2 := fun a h1 h2 o ho => up _ (k1 _ (.tail _ ho) h2) h1
  have xs : ∀ a ∈ fpL (if sameK u.kin k then u.par else [u]), a ∈ u.fp := fun a ha => by
    split at ha
    · exact par_fp ha
    · simpa [fpL] using ha
  have hx : LawL w N2 (if sameK u.kin k then u.par else [u]) := by
    have h2 : u.Law w N2 := hu.to fun a ha o ho => up _ ho (uI a ha)
    split
    · exact h2.parts
    · rw [LawL, LawL]; exact ⟨h2, trivial⟩
  refine ⟨LawL_append (hcs.to fun a ha o ho => to2 a (cI a ha) (cq a ha) o ho) hx, hrp.2.to fun a ha o ho => to2 a (rI a ha) (fun h => n2.2.2 a h a ha rfl) o ho, ?_, ?_, ?_, ?_, ?_⟩
  · rw [erL_append, erL_append, P.closeFL_append, P.melt_append, her]
    congr 1
    have ek : q.er.kin = q.kin := kin_er q
    simp only [erL, P.closeFL, P.melt, List.append_nil]
    have h1 := kin_er u
    have h2 := par_er u
    rw [← ue, h1, h2]
    split
    · rfl
    · rfl
  · intro a ha
    rw [fpL_append] at ha ⊢
    simp only [fpL, List.append_nil]
    rcases List.mem_append.mp ha with ha | ha
    · exact (hfp a ha).imp (List.mem_append_left _) id
    · exact (uB a (xs a ha)).imp (List.mem_append_right _) id
  · rw [fpL_append]
    refine List.nodup_append.mpr ⟨hnd, ?_, fun a ha b hb e => cu a ha (e ▸ xs b hb)⟩
    split
    · exact par_nd un
    · simpa [fpL] using un
  · intro x hx hx2
    rw [fpL_append] at hx2
    simp only [fpL, List.append_nil, List.mem_append, not_or] at hx2
    have := hN x hx hx2.1
    exact to2 x.1 (hne _ this) hx2.2 x.2 this
  · intro x hx
    obtain ⟨o, ho⟩ := hB x hx
    obtain ⟨o', ho'⟩ := kb _ (.tail _ ho)
    exact ⟨o', up (x.1, o') ho' (hne (x.1, o) ho)⟩
end T
theorem open_mem {h₀ h : Heap} {L : Addr} {N NB : Led} {c : Addr × Obj} (n : News h₀ L h NB) (hc : c ∈ NB) (hs : ∀ q ∈ N, q ∈ NB) : ∃ NC, News h₀ L h NC ∧ c ∈ NC ∧ ∀ q ∈ N, q ∈ NC := ⟨NB, n, hc, hs⟩
inductive ShutP (w : World) (N : Led) (t : T) (p : Int) (N' : Led) : Value → Prop
  | intro (u : T) (h1 : u.Law w N') (h2 : u.er = P.closeF p t.er) (h3 : ∀ a ∈ u.fp, a ∈ t.fp ∨ New N a) (h4 : u.fp.Nodup) (h5 : ∀ q ∈ N, q.1 ∉ t.fp → q ∈ N') (h6 : Still N N') : ShutP w N t p N' (.ref u.adr)
noncomputable def ShutK (w : World) (N : Led) (t : T) (p : Int) (φ : Value → Led → Prop) : Prop :=
  ∀ N' (u : T) (h1 : u.Law w N') (h2 : u.er = P.closeF p t.er) (h3 : ∀ a ∈ u.fp, a ∈ t.fp ∨ New N a) (h4 : u.fp.Nodup) (h5 : ∀ q ∈ N, q.1 ∉ t.fp → q ∈ N') (h6 : Still N N'), φ (.ref u.adr) N'
theorem ShutK.to {w : World} {N : Led} {t : T} {p : Int} {φ : Value → Led → Prop} (k : ShutK w N t p φ) {r : Value} {N' : Led} (h : ShutP w N t p N' r) : φ r N' := by
  cases h with | intro u h1 h2 h3 h4 h5 h6 => exact k _ u h1 h2 h3 h4 h5 h6
theorem closed_node {w : World} {N₀ N : Led} {p : Int} {a z l td D : Addr} {o : Obj} {k : K} {wd ht x y : Int} {ps cs : List T} {t1 t2 kt : Tok} {e1 e2 : Nat} (hkp : k.isPane = false) (nd : (T.mk a z l k wd ht x y ps).fp.Nodup) (hz0 : ∃ o, (z, o) ∈ N₀)
    (htd : ∀ q ∈ N, q.1 < td) (still : Still N₀ N) (keep : ∀ q ∈ N₀, q.1 ∉ (T.mk a z l k wd ht x y ps).fp → q ∈ N) (hD : (D, listOf (refsA (cs.map T.adr)) e2) ∈ N) (newD : New N₀ D) (hz : (z, listOf #[.int wd t1, .int ht t2] e1) ∈ N)
    (hcs : T.LawL w N cs) (sub : ∀ b ∈ T.fpL cs, b ∈ T.fpL ps ∨ New N₀ b) (offD : D ∉ T.fpL cs) (nds : (T.fpL cs).Nodup) (er : P.closeF p (T.er (T.mk a z l k wd ht x y ps)) = P.mk k wd ht (T.erL cs))
    (hd : StrD w o [(Str.ofString "kind", kindV k kt), (Str.ofString "pane", .none), (Str.ofString "size", .ref z), (Str.ofString "parts", .ref D)]) : ShutP w N₀ (T.mk a z l k wd ht x y ps) p ((td, o) :: N) (.ref td) := by
  obtain ⟨oz, hz0⟩ := hz0
  have nz : z ∉ T.fpL ps := fun h => by rw [T.fp] at nd; simp at nd; exact nd.2.1.2 h
  have zcs : z ∉ T.fpL cs := fun h => (sub z h).elim nz fun h => h _ hz0 rfl
  have zD : z ≠ D := fun e => newD _ hz0 e
  have tdN : New N td := fun q hq => Nat.ne_of_lt (htd q hq)
  have tdz : td ≠ z := fun e => tdN _ hz e.symm
  have tdD : td ≠ D := fun e => tdN _ hD e.symm
  have tdc : td ∉ T.fpL cs := fun h => by
    obtain ⟨o', ho'⟩ := hcs.has td h
    exact tdN _ ho' rfl
  refine .intro (T.mk td z D k wd ht 0 0 cs) ?_ ?_ ?_ ?_ (fun q hq hqf => .tail _ (keep q hq hqf)) (fun q hq => ?_)
  · rw [T.Law]
    refine ⟨⟨o, kt, kt, t1, t2, e1, e2, .head _, ?_, .tail _ hz, .tail _ hD⟩, hcs.all fun q hq => .tail _ hq⟩
    have hpv : paneV k kt = .none := by cases k <;> first | rfl | cases hkp
    rw [treeL, hpv]
    exact hd
  · rw [er]
    rw [T.er]
  · intro b hb
    rw [T.fp] at hb
    rcases List.mem_cons.mp hb with rfl | hb
    · exact .inr (still.new tdN)
    rcases List.mem_cons.mp hb with rfl | hb
    · exact .inl (by first | exact T.adr_in | exact T.dic_in | exact T.lst_in | (rw [T.fp]; simp))
    rcases List.mem_cons.mp hb with rfl | hb
    · exact .inr newD
    · exact (sub b hb).imp (fun h => by rw [T.fp]; simp [h]) id
  · rw [T.fp]
    simp [tdz, tdD, tdc, zD, zcs, offD, nds]
  · obtain ⟨o', ho'⟩ := still q hq
    exact ⟨o', .tail _ ho'⟩
section
example : True := by
  k_with "KdnMade" => (refine halt ?_)
  k_with "eval Dict" => (refine halt ?_)
  k_with "eval IfExp" => (refine halt ?_)
  k_with "call builtin:len" => (refine halt ?_)
  k_with "compareOp NotEq ref ref" => (refine halt ?_)
  k_with "subscriptTail" => (refine halt ?_)
  k_with "QPost" => (unfold QPost)
  k_with "exec Assign cons ListComp" => (k_dflt (refine Assign_pairs (by with_unfolding_all rfl) (by with_unfolding_all rfl) (by rfl) (by decide) ?_))
  trivial
theorem law_closed (w : World) (p : Int) (tp : Tok) : ∀ (n : Nat) (t : T) (N : Led), t.sz ≤ n → t.Law w N → t.fp.Nodup → t.er.G → t.kin.isPane = false → t.wid < 900 → t.hei < 900 →
    Tell w 227 [.ref t.adr, .int p tp] (5 * n + 80) N (ShutK w N t p) := by
  intro n
  induction n with
  | zero => intro t N h; cases t; simp [T.sz] at h
  | succ n ih =>
  intro t N₀ hn tin nd gd' hkp hw9 hh9
  unfold Tell
  intro cx A₀ base h₀ L m mean mg mb s Q E B hf hk F X N TT hd hu ret
  cases t with | mk a z l k wd ht x y ps =>
  rw [T.Law] at tin
  refine letG ?_
  intro kG
  obtain ⟨⟨o, kt, pt, t1, t2, e1, e2, ha, hdd, hz, hl⟩, tl⟩ := tin
  k_unfold
  clear kG
  simp only [T.adr]
  rw [T.sz] at hn
  have hsz : T.szL ps ≤ n := by (first | (law_clear; lia) | lia | omega)
  have lim : n ≤ 200 := by simp only [recursionLimit] at hd; (first | (law_clear; lia) | lia | omega)
  simp only [T.kin] at hkp
  have gd := (P.node_fit hkp).mp (by rw [T.er] at gd'; exact gd')
  rw [T.erL_length] at gd
  refine letG ?_
  intro kG
  obtain ⟨g1, g2, g3, g4, g5⟩ := gd
  k_unfold
  clear kG
  simp only [T.wid, T.hei] at hw9 hh9
  have psl := T.lenL ps
  obtain ⟨r, hr⟩ : ∃ r, k = sideK r := by
    cases k with
    | pane p' => cases hkp
    | row => exact ⟨true, rfl⟩
    | col => exact ⟨false, rfl⟩
  have hrr : sameK k .row = r := by subst hr; cases r <;> rfl
  have hpv : paneV k pt = .none := by cases k <;> first | rfl | cases hkp
  (refine wpAny_call ?_; k_dflt (refine' code_defC ?k1 ?k2 ?k3 ?k4 ?k5 ?kA ?kF ?kK ?k6 ?k7 ?k8 ?k9 ?kB ?kD ?_ ?c2 ?c3 ?c4; (case kA => exact rfl); (case kF => assumption); (case kK => assumption); (case k1 => k_asm); (case k2 => k_asm); (case k3 => k_asm); (case k4 => k_asm); (case k5 => k_asm); (case k6 => k_is); (case k7 => k_is); (case k8 => k_room); (case k9 => first | exact bnd2 "tree" "pane" rfl | exact binds_K (by k_in) rfl (by k_is) rfl rfl rfl); (case kB => exact rfl); (case kD => decide +kernel); (case c2 => exact rfl); (case c3 => exact rfl); (case c4 => exact rfl); k_whole; intro _ _ _ _ _ _ _ zzN zzY _ _ _ zzl; (have lc1 := fun p hp => Nat.ne_of_lt (Nat.lt_add_right 1 (zzl p hp))); (have lc2 := fun p hp => Nat.ne_of_lt (Nat.lt_add_right 1 (Nat.lt_add_right 1 (zzl p hp)))); (try k_lt zzl); k_cells zzY; (try simp only [List.cons_append, List.nil_append] at zzN); (try dsimp only); (try (refine foldL ?_; intro kQ kE))))
  k_steps
  ((rename News _ _ _ _ => NR); (try dsimp only); refine halt (dict_item (v := (kindV k kt)) NR (.tail _ ha) hdd (by rfl) ?_); (try dsimp only); k_steps)
  rename Fr _ _ _ _ => FJ
  rename News _ _ _ _ => NJ
  refine letG ?_
  intro kG
  obtain ⟨NJB, NJ', hcJ, subJ⟩ := open_led0 NJ
  k_unfold
  clear kG
  clear NJ
  refine join_led FJ NJ' (fun v N' => (∃ t, v = .int (wayI r) t) ∧ NJB = N') ?_ ?_
  · refine wpAny_IfExp ?_
    k_steps
    ((rename News _ _ _ _ => NR); (try dsimp only); refine halt (dict_item (v := (kindV k kt)) NR (subJ _ ha) hdd (by rfl) ?_); (try dsimp only); k_steps)
    refine eq_kindB (k' := .row) hrr ?_
    cases r <;> k_steps <;> exact ⟨_, _, _, rfl, by k_asm, by k_asm, ⟨_, rfl⟩, rfl⟩
  rintro v hJ tkJ N' FJ2 NJ2 ⟨⟨tv, rfl⟩, rfl⟩
  clear FJ NJ'
  rename ∀ p ∈ N₀, p.1 < _ => lN
  k_steps
  ((rename News _ _ _ _ => NR); (try dsimp only); refine halt (dict_item (v := (.ref l)) NR (.tail _ (subJ _ ha)) hdd (by rfl) ?_); (try dsimp only); k_steps)
  rename Fr _ _ _ _ => F2
  rename News _ _ _ (_ :: _) => N2
  rename Below _ _ (_ :: _) _ => B2
  rename Frag.In _ _ => X2
  rename Top _ _ _ _ _ _ => T2
  refine letG ?_
  intro kG
  obtain ⟨NB, N3, hcB, subB'⟩ := open_mem (N := NJB) N2 (.tail _ hcJ) (fun q hq => .tail _ hq)
  k_unfold
  clear kG
  have subB : ∀ q ∈ N₀, q ∈ NB := fun q hq => subB' _ (subJ _ hq)
  clear N2
  refine enumT_led rfl F2 N3 (subB _ hl) (by simp only [List.length_map, sizeLine_eq]; (first | (law_clear; lia) | lia | omega)) (by rfl) (by decide) (by rfl) (by rfl) (by rfl) (by decide) (by rfl) (by rfl) (fun i rest ys N => Ex2 fun (dn rp : List T) => And5 (ps = dn ++ rp) (i = dn.length) (rest = (rp.map T.adr).map Value.ref) (IntsAre ys ((P.spot p 0 (T.erL dn)).map Int.ofNat)) (∀ q ∈ NB, q ∈ N))
    ⟨[], ps, rfl, rfl, rfl, .nil, fun _ h => h⟩ (fun i rest ys N h => by obtain ⟨dn, rp, h1, h2, h3, h4, h5⟩ := h; exact h5 _ (subB _ hl)) ?_ ?_
  · intro i v rest ys N tt its C oC D m₂ h tk E' HI hC hxa hxb F3 N4 off ne
    (try (refine foldL ?_; intro kQ kE))
    refine letG ?_
    intro kG
    obtain ⟨dn, rp, hps, hi, hv, hys, hN⟩ := HI
    k_unfold
    clear kG
    cases rp with
    | nil => simp at hv
    | cons q rp =>
    simp only [List.map_cons, List.cons.injEq] at hv
    obtain ⟨rfl, rfl⟩ := hv
    clear F2 N3
    have hq : q.Law w N := (T.LawL_mem tl q (by first | exact hps ▸ mem_mid _ _ _ | simp [hps])).all fun p hp => hN _ (subB _ hp)
    have hcN := hN _ hcB
    refine letG ?_
    intro kG
    obtain ⟨qo, qk, qp, q1, q2, qe1, qe2, hqa, hqd, hqz, hql⟩ := hq.node
    k_unfold
    clear kG
    have qk3 : ∀ b : P, (T.erL dn ++ [b]).length = dn.length + 1 := fun b => by simp [T.erL_length]
    have spotS : P.spot p 0 (T.erL (dn ++ [q])) = P.spot p 0 (T.erL dn) ++ if q.kin = .pane p then [i] else [] := by
      rw [T.erL_append, P.spot_append, T.erL_length, Nat.zero_add, ← hi]
      simp only [T.erL, P.spot, List.append_nil]
      rw [T.kin_er]
    have hqa4 : (q.adr, qo) ∈ (C, oC) :: (D, LCg.lst ys) :: (its ++ N) := .tail _ (.tail _ (List.mem_append_right _ hqa))
    obtain ⟨qK, hqK⟩ : ∃ qK, qK = q.kin := ⟨_, rfl⟩
    rw [← hqK] at hqd spotS
    cases qK with
    | pane p' =>
      k_steps
      ((rename News _ _ _ _ => NR); (try dsimp only); refine halt (dict_item (v := (.str (Str.ofString "pane") qk)) NR hqa4 hqd (by rfl) ?_); (try dsimp only); k_steps)
      ((rename News _ _ _ _ => NR); (try dsimp only); refine halt (dict_item (v := (.int p' qp)) NR hqa4 hqd (by rfl) ?_); (try dsimp only); k_steps)
      · refine QPost.same (by k_asm) (by k_asm) off ⟨dn ++ [q], rp, by simp [hps], by simp [hi], rfl, ?_, hN⟩
        rw [spotS, if_pos (by rw [‹p' = p›]), List.map_append]
        exact hys.append (by rw [hi]; exact .cons _ _ .nil)
      · refine QPost.same (by k_asm) (by k_asm) off ⟨dn ++ [q], rp, by simp [hps], by simp [hi], rfl, ?_, hN⟩
        rw [spotS, if_neg (by simpa using ‹¬ p' = p›), List.append_nil]
        exact hys
    | row =>
      k_steps
      ((rename News _ _ _ _ => NR); (try dsimp only); refine halt (dict_item (v := (.str (Str.ofString "row") qk)) NR hqa4 hqd (by rfl) ?_); (try dsimp only); k_steps)
      refine QPost.same (by k_asm) (by k_asm) off ⟨dn ++ [q], rp, by simp [hps], by simp [hi], rfl, ?_, hN⟩
      rw [spotS, if_neg (by first | exact mem_mid _ _ _ | exact .head _ | exact .tail _ (.head _) | exact .tail _ (.tail _ (.head _)) | simp), List.append_nil]
      exact hys
    | col =>
      k_steps
      ((rename News _ _ _ _ => NR); (try dsimp only); refine halt (dict_item (v := (.str (Str.ofString "column") qk)) NR hqa4 hqd (by rfl) ?_); (try dsimp only); k_steps)
      refine QPost.same (by k_asm) (by k_asm) off ⟨dn ++ [q], rp, by simp [hps], by simp [hi], rfl, ?_, hN⟩
      rw [spotS, if_neg (by first | exact mem_mid _ _ _ | exact .head _ | exact .tail _ (.head _) | exact .tail _ (.tail _ (.head _)) | simp), List.append_nil]
      exact hys
  · rintro i ys N ⟨dn, rp, hps, hi, hv, hys, hN⟩
    have : rp = [] := by cases rp with | nil => rfl | cons => simp at hv
    subst this
    rw [List.append_nil] at hps
    subst hps
    unfold LCg.FinA
    intro D h4 tk4 F4 N4 o1
    clear F2 N3
    have sub0 : ∀ q ∈ N₀, q ∈ N := fun q hq => hN _ (subB _ hq)
    k_steps
    rename Fr _ _ _ _ => F5
    rename News _ _ _ (_ :: _) => N5
    refine ne_nil_led (xs := ys) N5 (.tail _ (.head _)) (.head _) (by ((try simp only [units_in1, units_deeper]); (try dsimp only); (first | (law_clear; lia) | lia | omega))) ?_
    obtain ⟨NC, N6, hDC, subC⟩ : ∃ NC, And3 (News _ _ _ NC) ((D, LCg.lst ys) ∈ NC) (∀ q ∈ N, q ∈ NC) := ⟨_, N5, .tail _ (.head _), fun q hq => .tail _ (.tail _ hq)⟩
    clear N5
    have sub6 : ∀ q ∈ N₀, q ∈ NC := fun q hq => subC _ (sub0 _ hq)
    have ha6 := sub6 _ ha
    have hz6 := sub6 _ hz
    have hl6 := sub6 _ hl
    have tl6 : T.LawL w NC ps := tl.all sub6
    obtain ⟨sp, hsp⟩ : ∃ sp, P.spot p 0 (T.erL ps) = sp := ⟨_, rfl⟩
    rw [hsp] at hys
    cases sp with
    | cons i0 sr =>
      have hys' : IntsAre ys ((i0 : Int) :: sr.map Int.ofNat) := hys
      clear hys
      cases hys' with | cons ii u1 hys =>
      rename_i ys'
      (try dsimp only [List.isEmpty, Bool.not_false])
      k_steps
      refine letG ?_
      intro kG
      obtain ⟨dn', c', rp', hpe, hi0, hck⟩ := P.spot_split hsp
      k_unfold
      clear kG
      refine letG ?_
      intro kG
      obtain ⟨dn, c, rp, hps2, rfl, rfl, rfl⟩ := T.erL_split hpe
      k_unfold
      clear kG
      rw [Nat.zero_add, T.erL_length] at hi0
      subst hi0
      have hplen := congrArg List.length hps2
      rw [List.length_append, List.length_cons] at hplen
      have hcm : c ∈ ps := by rw [hps2]; simp
      have hcI : c.Law w NC := T.LawL_mem tl6 c hcm
      refine letG ?_
      intro kG
      obtain ⟨co, ck, cp, c1, c2, ce1, ce2, hca, hcd, hcz, hclp⟩ := hcI.node
      k_unfold
      clear kG
      have itp : ((ps.map T.adr).map Value.ref)[dn.length]? = some (.ref c.adr) := by rw [hps2]; simp
      have ilen : ((ps.map T.adr).map Value.ref).length = ps.length := by simp
      ((rename News _ _ _ _ => NR); (try dsimp only); refine halt (dict_item (v := (.ref l)) NR ha6 hdd (by rfl) ?_); (try dsimp only); k_steps)
      rename News _ _ _ _ => NR
      refine halt (item_led (j := 0) NR hDC (seqIndex_at (.inl ⟨by decide, rfl⟩) (by first | exact mem_mid _ _ _ | exact .head _ | exact .tail _ (.head _) | exact .tail _ (.tail _ (.head _)) | simp)) rfl (by decide) (by decide) ?_)
      (try dsimp only)
      k_steps
      rename News _ _ _ _ => NR
      refine halt (item_led (j := dn.length) NR hl6 (seqIndex_at (.inl ⟨by (first | (law_clear; lia) | lia | omega), rfl⟩) (by (first | (law_clear; lia) | lia | omega))) itp (by (first | (law_clear; lia) | lia | omega)) (by (first | (law_clear; lia) | lia | omega)) ?_)
      (try dsimp only)
      k_steps
      ((rename News _ _ _ _ => NR); (try dsimp only); refine halt (dict_item (v := (.ref l)) NR ha6 hdd (by rfl) ?_); (try dsimp only); k_steps)
      rename News _ _ _ _ => NR
      refine halt (item_led (j := 0) NR hDC (seqIndex_at (.inl ⟨by decide, rfl⟩) (by first | exact mem_mid _ _ _ | exact .head _ | exact .tail _ (.head _) | exact .tail _ (.tail _ (.head _)) | simp)) rfl (by decide) (by decide) ?_)
      (try dsimp only)
      k_steps
      rename Fr _ _ _ _ => F7
      rename News _ _ _ _ => N7
      refine halt (kba_turn (value' := Expr.Name (Str.ofString "_") ⟨0, 0, 0, 0⟩) (fun _ => rfl) (slice_led F7 N7 hl6 .none (.int _ _) (pick_take dn.length _) ?_ (by with_unfolding_all rfl) (fun _ => rfl) (by rw [ilen, sizeLine_eq]; (first | (law_clear; lia) | lia | omega))))
      intro D8 h8 F8 N8 l8
      clear F7 N7
      (try dsimp only)
      k_steps
      ((rename News _ _ _ _ => NR); (try dsimp only); refine halt (dict_item (v := (.ref l)) NR (.tail _ ha6) hdd (by rfl) ?_); (try dsimp only); k_steps)
      rename News _ _ _ _ => NR
      refine halt (item_led (j := 0) NR (.tail _ hDC) (seqIndex_at (.inl ⟨by decide, rfl⟩) (by first | exact mem_mid _ _ _ | exact .head _ | exact .tail _ (.head _) | exact .tail _ (.tail _ (.head _)) | simp)) rfl (by decide) (by decide) ?_)
      (try dsimp only)
      k_steps
      rename Fr _ _ _ _ => F9
      rename News _ _ _ _ => N9
      refine halt (kba_turn (value' := Expr.Name (Str.ofString "_") ⟨0, 0, 0, 0⟩) (fun _ => rfl) (slice_led F9 N9 (.tail _ hl6) (.int _ _) .none (pick_dropk (dn.length + 1) _) ?_ (by with_unfolding_all rfl) (fun _ => rfl) (by rw [ilen, sizeLine_eq]; (first | (law_clear; lia) | lia | omega))))
      intro D10 h10 F10 N10 l10
      clear F9 N9
      (try dsimp only)
      k_steps
      have htk : ((ps.map T.adr).map Value.ref).take dn.length ++ ((ps.map T.adr).map Value.ref).drop (dn.length + 1) = ((dn ++ rp).map T.adr).map Value.ref := by
        rw [hps2]
        simp [List.drop_append]
      refine halt (add_led F10 N10 (.tail _ (.head _)) (.head _) (by rw [List.length_take, List.length_drop, ilen, sizeLine_eq]; exact Nat.le_trans (Nat.add_le_add (Nat.min_le_right _ _) (Nat.sub_le _ _)) (by (first | (law_clear; lia) | lia | omega))) ?_)
      rw [htk]
      intro D11 h11 F11 N11 l11
      clear F10 N10
      (try dsimp only)
      have hrnew : ∀ q ∈ NC, q.1 < D11 := fun q hq => l11 _ (.tail _ (.tail _ hq))
      refine letG ?_
      intro kG
      obtain ⟨NG, N12, hrl, subG⟩ := open_mem (N := NC) N11 (.head _) (fun q hq => .tail _ (.tail _ (.tail _ hq)))
      k_unfold
      clear kG
      clear N11
      obtain ⟨A, Y, Bs, hAY, hAl⟩ : Ex3 fun A Y Bs => dn ++ rp = A ++ Y :: Bs ∧ A.length = dn.length - 1 := by
        have hj : dn.length - 1 < (dn ++ rp).length := by rw [List.length_append]; (first | (law_clear; lia) | lia | omega)
        exact ⟨(dn ++ rp).take (dn.length - 1), (dn ++ rp)[dn.length - 1], (dn ++ rp).drop (dn.length - 1 + 1), by rw [← List.drop_eq_getElem_cons hj, List.take_append_drop], by rw [List.length_take]; exact Nat.min_eq_left (Nat.le_of_lt hj)⟩
      rw [hAY] at hrl
      have hYm : Y ∈ ps := by
        have : Y ∈ dn ++ rp := by rw [hAY]; simp
        rw [hps2]
        rcases List.mem_append.mp this with h | h <;> simp [h]
      have hlenAY : (A ++ Y :: Bs).length + 1 = ps.length := by rw [← hAY, List.length_append]; (first | (law_clear; lia) | lia | omega)
      have itY : (((A ++ Y :: Bs).map T.adr).map Value.ref)[dn.length - 1]? = some (.ref Y.adr) := by rw [← hAl]; simp
      have alen : (((A ++ Y :: Bs).map T.adr).map Value.ref).length = (A ++ Y :: Bs).length := by rw [List.length_map, List.length_map]
      have hYi : Y.Law w NG := (T.LawL_mem tl6 Y hYm).all subG
      have hgone := subG _ hca
      have hgz := subG _ hcz
      k_steps
      rename News _ _ _ _ => NR
      refine halt (item_led (j := 0) NR (subG _ hDC) (seqIndex_at (.inl ⟨by decide, rfl⟩) (by first | exact mem_mid _ _ _ | exact .head _ | exact .tail _ (.head _) | exact .tail _ (.tail _ (.head _)) | simp)) rfl (by decide) (by decide) ?_)
      (try dsimp only)
      k_steps
      rename News _ _ _ _ => NR
      refine halt (item_led (j := dn.length - 1) NR hrl (seqIndex_at (.inl ⟨by split <;> (first | (law_clear; lia) | lia | omega), by split <;> (first | (law_clear; lia) | lia | omega)⟩) (by rw [alen]; (first | (law_clear; lia) | lia | omega))) itY (by split <;> (first | (law_clear; lia) | lia | omega)) (by split <;> (first | (law_clear; lia) | lia | omega)) ?_)
      (try dsimp only)
      k_steps
      ((rename News _ _ _ _ => NR); (try dsimp only); refine halt (dict_item (v := (.ref c.dic)) NR hgone hcd (by rfl) ?_); (try dsimp only); k_steps)
      rename News _ _ _ _ => NR
      refine size_item (r := r) NR hgz (fun tq => ?_)
      have hcE : c.er ∈ T.erL ps := T.er_mem hcm
      have hcG := (g4 _ hcE).1
      have hcp := hcG.pos
      have hcle := P.fit_le hkp (by rw [T.er] at gd'; exact gd') _ hcE
      have hcw : c.er.wid = c.wid := by cases c; rfl
      have hch : c.er.hei = c.hei := by cases c; rfl
      rw [hcw, hch] at hcp hcle
      obtain ⟨mm, hmm⟩ : ∃ mm : Nat, (if r then c.wid else c.hei) + 1 = (mm : Int) := ⟨((if r then c.wid else c.hei) + 1).toNat, by split <;> (first | (law_clear; lia) | lia | omega)⟩
      have hmm9 : mm < 1000 := by split at hmm <;> (first | (law_clear; lia) | lia | omega)
      (try dsimp only)
      k_steps
      rw [hmm]
      have hYE : Y.er ∈ T.erL ps := T.er_mem hYm
      have hYz : Y.sz ≤ n := by have := T.szL_mem hYm; (first | (law_clear; lia) | lia | omega)
      have nps : (T.fpL ps).Nodup := by rw [T.fp] at nd; simp at nd; exact nd.2.2.2
      have hYnd : Y.fp.Nodup := T.fp_nodup hYm nps
      rename Fr _ _ _ _ => F13
      rename News _ _ _ _ => N13
      refine Tell.use (law_longer w r n Y NG mm _ _ hYz hYi hYnd (g4 _ hYE).1.1 hmm9) B2 F13 X2 N13 T2 rfl rfl (by (first | exact rm1 hd (Nat.le_of_ble_eq_true rfl) | exact rm2 hd (Nat.le_of_ble_eq_true rfl) | (dsimp only; (first | (law_clear; lia) | lia | omega)))) (by (first | exact ru1 hu (Nat.le_of_ble_eq_true rfl) | exact ru2 hu (Nat.le_of_ble_eq_true rfl) | (dsimp only; (first | (law_clear; lia) | lia | omega)))) ?_
      intro kQ kM
      intro N14 Y' hY' hYf hYe keepY h14 tk14 F14 N14'
      clear F13 N13
      have hrD : D11 ∉ Y.fp := fun h => by
        obtain ⟨o', ho'⟩ := (T.LawL_mem tl6 Y hYm).has D11 h
        exact Nat.lt_irrefl _ (hrnew _ ho')
      have hYa : Y'.adr = Y.adr := by rw [← T.fp_adr, ← T.fp_adr, hYf]
      have hr14 := keepY _ hrl hrD
      have hmapY : (A ++ Y :: Bs).map T.adr = (A ++ Y' :: Bs).map T.adr := by simp [hYa]
      rw [hmapY] at hr14 alen
      k_steps
      refine wpAny_IfExp ?_
      k_steps
      rename News _ _ _ _ => NR
      refine halt (len_led NR hr14 (by rw [alen]; (first | (law_clear; lia) | lia | omega)) ?_)
      rw [alen]
      (try dsimp only)
      have hlY : (A ++ Y' :: Bs).length = (A ++ Y :: Bs).length := by simp
      have hYfp : ∀ b ∈ Y.fp, b ∈ T.fpL ps := fun b hb => T.fpL_mem hYm hb
      have hpt : ∀ b ∈ T.fpL ps, b ∈ (T.mk a z l k wd ht x y ps).fp := fun b hb => by rw [T.fp]; simp [hb]
      have keep14 : ∀ q ∈ N₀, q.1 ∉ (T.mk a z l k wd ht x y ps).fp → q ∈ N14 := fun q hq hqf => keepY _ (subG _ (sub6 _ hq)) fun h => hqf (hpt _ (hYfp _ h))
      have still14 : Still N₀ N14 := fun q hq => by
        by_cases hqY : q.1 ∈ Y.fp
        · exact hY'.has q.1 (by rw [hYf]; exact hqY)
        · exact ⟨q.2, keepY _ (subG _ (sub6 _ hq)) hqY⟩
      have hclose : P.closeF p (T.er (T.mk a z l k wd ht x y ps)) = P.pick k wd ht (T.erL (A ++ Y' :: Bs)) := by
        rw [T.er, hpe]
        rw [hpe, ← T.erL_length dn] at hsp
        rw [P.closeF_spot hsp, hrr]
        have e1 : (c.er.side r + 1).toNat = mm := by
          have : c.er.side r = if r then c.wid else c.hei := by unfold P.side; rw [hcw, hch]
          rw [this, hmm]
          simp
        rw [e1, ← T.erL_append, hAY, T.erL_append, T.erL, P.modAt_at _ _ _ _ _ (by rw [T.erL_length, T.erL_length, hAl]), T.erL_append, T.erL, hYe]
      k_steps
      · rename (_ : Int) = 1 => h1
        have h1' : (A ++ Y' :: Bs).length = 1 := by rw [hlY]; (first | (law_clear; lia) | lia | omega)
        have hA0 : A = [] := by cases A with | nil => rfl | cons b A => simp at h1'
        subst hA0
        have hB0 : Bs = [] := by cases Bs with | nil => rfl | cons b A => simp at h1'
        subst hB0
        rename News _ _ _ _ => NR
        refine halt (item_led (j := 0) NR hr14 (seqIndex_at (.inl ⟨by decide, rfl⟩) (by first | exact mem_mid _ _ _ | exact .head _ | exact .tail _ (.head _) | exact .tail _ (.tail _ (.head _)) | simp)) rfl (by decide) (by decide) ?_)
        (try dsimp only)
        k_steps
        refine ret _ Y' hY' ?_ (fun b hb => .inl (hpt _ (hYfp _ (hYf ▸ hb)))) (by rw [hYf]; exact hYnd) keep14 still14 _ _ (by k_asm) (by k_asm)
        rw [hclose]
        rfl
      · rename ¬ (_ : Int) = 1 => h1
        have h1' : (T.erL (A ++ Y' :: Bs)).length ≠ 1 := by rw [T.erL_length, hlY]; (first | (law_clear; lia) | lia | omega)
        rw [P.pick_ne h1'] at hclose
        have hat : a ∉ Y.fp := fun h => by rw [T.fp] at nd; simp at nd; exact nd.1.2.2 (hYfp _ h)
        have hzt : z ∉ Y.fp := fun h => by rw [T.fp] at nd; simp at nd; exact nd.2.1.2 (hYfp _ h)
        have ha14 := keepY _ (subG _ ha6) hat
        have hz14 := keepY _ (subG _ hz6) hzt
        have hls : T.LawL w N14 (A ++ Y' :: Bs) := by
          have hn : (T.fpL (A ++ Y :: Bs)).Nodup := by
            rw [← hAY]
            rw [hps2, T.fpL_append, T.fpL] at nps
            rw [T.fpL_append]
            have n1 := List.nodup_append.mp nps
            exact List.nodup_append.mpr ⟨n1.1, (List.nodup_append.mp n1.2.1).2.1, fun b hb b' hb' => n1.2.2 b hb b' (List.mem_append_right _ hb')⟩
          refine T.LawL_replace (q := Y) (N := NG) ?_ hn hY' (fun q hq hqf => keepY q hq hqf)
          refine T.LawL_of fun q hq => (T.LawL_mem tl6 q ?_).all subG
          rw [← hAY] at hq
          rw [hps2]
          rcases List.mem_append.mp hq with h | h <;> simp [h]
        rename Fr _ _ h14 _ => F20
        rename News _ _ h14 _ => N20
        refine (?_ : wpAny _ _ _ _ _ _)
        with_reducible refine' kdn_eval (knd := PySem.strKind _ _) F20 N20 ?b1 ?b2 ?b3 (List.cons_ne_nil _ _) ?b4 ?_
        case b1 => exact Top.nolimit (by k_asm)
        case b2 => rfl
        case b3 => rfl
        case b4 => decide
        intro td h21 to F21 N21 l21 lo21 hd21
        clear F20 N20
        k_steps
        ((rename News _ _ _ _ => NR); (try dsimp only); refine halt (dict_item (v := (.ref z)) NR (.tail _ ha14) hdd (by rfl) ?_); (try dsimp only); k_steps)
        rename Fr _ _ _ _ => F22
        rename News _ _ _ (_ :: _) => N22
        (try dsimp only)
        change KdnMade _ _ _ _ _ _ _
        refine kdn_made_str F22 N22 (.head fun p hp => Nat.ne_of_lt (l21 p hp)) hd21 (by rfl) (of_decide_eq_true (by first | rfl | kernel_rfl!)) ?_
        intro h23 o23 F23 N23 hd23
        clear F22 N22
        (try dsimp only)
        k_steps
        have hYls : T.fpL (A ++ Y' :: Bs) = T.fpL (A ++ Y :: Bs) := by rw [T.fpL_append, T.fpL_append, T.fpL, T.fpL, hYf]
        have hsubA : ∀ b ∈ T.fpL (A ++ Y' :: Bs), b ∈ T.fpL ps := fun b hb => by
          rw [hYls, ← hAY, T.fpL_append] at hb
          rw [hps2, T.fpL_append, T.fpL]
          rcases List.mem_append.mp hb with h | h <;> simp [h]
        have hndA : (T.fpL (A ++ Y' :: Bs)).Nodup := by
          rw [hYls, ← hAY]
          rw [hps2, T.fpL_append, T.fpL] at nps
          rw [T.fpL_append]
          have n1 := List.nodup_append.mp nps
          exact List.nodup_append.mpr ⟨n1.1, (List.nodup_append.mp n1.2.1).2.1, fun b hb b' hb' => n1.2.2 b hb b' (List.mem_append_right _ hb')⟩
        exact ShutK.to ret (closed_node hkp nd ⟨_, hz⟩ l21 still14 keep14 hr14 (fun q hq => Nat.ne_of_lt (hrnew _ (sub6 _ hq))) hz14 hls (fun b hb => .inl (hsubA b hb))
          (fun h => by
            obtain ⟨o', ho'⟩ := tl6.has D11 (hsubA _ h)
            exact Nat.lt_irrefl _ (hrnew _ ho')) hndA hclose hd23) _ _ (by k_asm) (by k_asm)
    | nil =>
      cases hys
      (try dsimp only [List.isEmpty, Bool.not_true])
      k_steps
      ((rename News _ _ _ _ => NR); (try dsimp only); refine halt (dict_item (v := (.ref l)) NR (.tail _ ha6) hdd (by rfl) ?_); (try dsimp only); k_steps)
      rename Fr _ _ _ _ => F8
      rename News _ _ _ (_ :: _) => N8
      rename ∀ p ∈ NC, p.1 < _ => pl1
      refine letG ?_
      intro kG
      obtain ⟨pl0, rfl, pl2⟩ := name_lt pl1
      k_unfold
      clear kG
      clear pl1
      refine letG ?_
      intro kG
      obtain ⟨NE, N8', hpl0, subE⟩ := open_led0 N8
      k_unfold
      clear kG
      clear N8
      have nps : (T.fpL ps).Nodup := by rw [T.fp] at nd; simp at nd; exact nd.2.2.2
      have nal : a ∉ T.fpL ps ∧ z ∉ T.fpL ps ∧ l ∉ T.fpL ps := by rw [T.fp] at nd; simp at nd; exact ⟨nd.1.2.2, nd.2.1.2, nd.2.2.1⟩
      have dnp : ∀ {dn rp : List T} {b : Addr}, ps = dn ++ rp → b ∈ T.fpL dn → b ∈ T.fpL ps := fun e h => by rw [e, T.fpL_append]; simp [h]
      refine iter_ledS F8 N8' (subE _ hl6) (by rfl) (by rfl) (by rfl) (by rfl) ["fresh", "parts"] (fun av rest N => Ex6 fun (u : Option Value) (pl : Addr) (e : Nat) (dn rp cs : List T) => And13 (av = [u, some (.ref pl)]) (ps = dn ++ rp) (rest = (rp.map T.adr).map Value.ref) ((pl, listOf (refsA (cs.map T.adr)) e) ∈ N) (T.LawL w N cs) (T.LawL w N rp) (T.erL cs = P.melt k (P.closeFL p (T.erL dn))) ((∀ a ∈ T.fpL cs, a ∈ T.fpL dn ∨ New NC a)) ((T.fpL cs).Nodup) ((∀ q ∈ NC, q.1 ∉ T.fpL dn → q ∈ N)) (Still NC N) (New NC pl) (pl ∉ T.fpL cs))
        ⟨_, pl0, 0, [], ps, [], rfl, rfl, rfl, hpl0, by rw [T.LawL]; trivial, tl6.all subE, rfl, fun a h => by simp [T.fpL] at h, by simp [T.fpL], fun q hq _ => subE q hq, .of subE, fun q hq => Nat.ne_of_lt (pl2 q hq), by simp [T.fpL]⟩
        (fun av rest N h => by obtain ⟨u, pl, e, dn, rp, cs, h0, h1, h2, h3, h4, h5, h6, h7, h8, h9, h10⟩ := h; exact h9 _ hl6 fun hh => nal.2.2 (dnp h1 hh)) ?_ ?_
      · intro av v rest N I it h9 tk9 HI hne hc9 F9 N9
        (try (refine foldL ?_; intro kQ kE))
        refine letG ?_
        intro kG
        obtain ⟨u0, pl, e, dn, rp, cs, rfl, hps, hv, hpl, hcs, hrp, her, hfp, hnd, hkeep, hstill, hnewp, hplc⟩ := HI
        k_unfold
        clear kG
        cases rp with
        | nil => simp at hv
        | cons q rp =>
        simp only [List.map_cons, List.cons.injEq] at hv
        obtain ⟨rfl, rfl⟩ := hv
        clear F8 N8'
        have hqm : q ∈ ps := by rw [hps]; simp
        have hqi : q.Law w N := T.LawL_mem hrp q (.head _)
        have hqz : q.sz ≤ n := by have := T.szL_mem hqm; (first | (law_clear; lia) | lia | omega)
        have hqE := g4 _ (T.er_mem hqm)
        have hqle := P.fit_le hkp (by rw [T.er] at gd'; exact gd') _ (T.er_mem hqm)
        have hqw : q.er.wid = q.wid := by cases q; rfl
        have hqh : q.er.hei = q.hei := by cases q; rfl
        have hqk : q.er.kin = q.kin := T.kin_er q
        have hqnd : q.fp.Nodup := T.fp_nodup hqm nps
        refine letG ?_
        intro kG
        obtain ⟨qo, qk, qp, q1, q2, qe1, qe2, hqa, hqd, hqzz, hql⟩ := hqi.node
        k_unfold
        clear kG
        have hcl9 := hkeep _ (subC _ (hN _ hcB)) fun hh => by
          obtain ⟨o', ho'⟩ := tl.has _ (dnp hps hh)
          exact Nat.lt_irrefl _ (Nat.lt_of_succ_lt (lN _ ho'))
        k_steps
        rename Fr _ _ _ _ => FJ
        rename News _ _ _ (_ :: _) => NJ
        refine join_led FJ NJ (fun v N' => ∃ (u : T), And7 (v = .ref u.adr) (u.Law w N') (u.er = (if q.er.kin.isPane then q.er else P.closeF p q.er)) ((∀ a ∈ u.fp, a ∈ q.fp ∨ New ((I, it) :: N) a)) (u.fp.Nodup) ((∀ x ∈ (I, it) :: N, x.1 ∉ q.fp → x ∈ N')) (Still ((I, it) :: N) N')) ?_ ?_
        · refine wpAny_IfExp ?_
          k_steps
          ((rename News _ _ _ _ => NR); (try dsimp only); refine halt (dict_item (v := (kindV q.kin qk)) NR (.tail _ hqa) hqd (by rfl) ?_); (try dsimp only); k_steps)
          obtain ⟨qb, hqp⟩ : ∃ b, q.kin.isPane = b := ⟨_, rfl⟩
          cases qb
          · refine ne_kindB (k' := .pane 0) (b := true) (by rw [sameK_pane, hqp]; rfl) ?_
            k_steps
            rename News _ _ _ _ => NR
            refine Tell.use (ih q _ hqz (hqi.all fun x hx => .tail _ hx) hqnd hqE.1 hqp (by (first | (law_clear; lia) | lia | omega)) (by (first | (law_clear; lia) | lia | omega))) B2 FJ X2 NR T2 rfl rfl (by (first | exact rm1 hd (Nat.le_of_ble_eq_true rfl) | exact rm2 hd (Nat.le_of_ble_eq_true rfl) | (dsimp only; (first | (law_clear; lia) | lia | omega)))) (by (first | exact ru1 hu (Nat.le_of_ble_eq_true rfl) | exact ru2 hu (Nat.le_of_ble_eq_true rfl) | (dsimp only; (first | (law_clear; lia) | lia | omega)))) ?_
            intro kQ kM
            intro N10 u hu ue uf un uk us h10 tk10 F10 N10'
            k_steps
            refine ⟨_, _, _, rfl, F10, N10', u, rfl, hu, ?_, uf, un, uk, us⟩
            rw [ue, hqk, hqp]
            rfl
          · refine ne_kindB (k' := .pane 0) (b := false) (by rw [sameK_pane, hqp]; rfl) ?_
            k_steps
            refine ⟨_, _, _, rfl, by k_asm, by k_asm, q, rfl, hqi.all fun x hx => .tail _ hx, ?_, fun a ha => .inl ha, hqnd, fun x hx _ => hx, .of fun x hx => hx⟩
            rw [hqk, hqp]
            rfl
        · rintro v h10 tk10 N1 F10 N10 ⟨u, rfl, hu, ue, uf, un, uk, us⟩
          clear FJ NJ
          refine letG ?_
          intro kG
          obtain ⟨uo, ukk, up', u1, u2, ue1, ue2, hua, hud, huz, hul⟩ := hu.node
          k_unfold
          clear kG
          have plq : pl ∉ q.fp := fun h => by
            obtain ⟨o', ho'⟩ := tl6.has pl (T.fpL_mem hqm h)
            exact hnewp _ ho' rfl
          have hpl1 := uk _ (.tail _ hpl) plq
          k_steps
          rename Fr _ _ _ _ => FJ
          rename News _ _ _ _ => NJ
          refine join_led FJ NJ (fun v N' => Ex2 fun xl e' => And3 (v = .ref xl) ((xl, listOf (refsA ((if sameK u.kin k then u.par else [u]).map T.adr)) e') ∈ N') (∀ x ∈ N1, x ∈ N')) ?_ ?_
          · refine wpAny_IfExp ?_
            k_steps
            ((rename News _ _ _ _ => NR); (try dsimp only); refine halt (dict_item (v := (kindV u.kin ukk)) NR hua hud (by rfl) ?_); (try dsimp only); k_steps)
            obtain ⟨ub, hub⟩ : ∃ b, sameK u.kin k = b := ⟨_, rfl⟩
            refine eq_kindB (k' := k) hub ?_
            cases ub
            · k_steps
              rw [hub]
              exact ⟨_, _, _, rfl, by k_asm, by k_asm, _, 0, rfl, .head _, fun x hx => .tail _ hx⟩
            · k_steps
              ((rename News _ _ _ _ => NR); (try dsimp only); refine halt (dict_item (v := (.ref u.lst)) NR hua hud (by rfl) ?_); (try dsimp only); k_steps)
              rw [hub]
              exact ⟨_, _, _, rfl, by k_asm, by k_asm, u.lst, ue2, rfl, hul, fun x hx => hx⟩
          · rintro v h11 tk11 N3 F11 N11 ⟨xl, e', rfl, hxl, sub3⟩
            clear FJ NJ
            have hlen1 : cs.length ≤ 200 := by
              have h1 := T.lenL cs
              have h2 : P.szL (T.erL cs) ≤ n := by
                rw [her]
                have h3 := P.melt_szP k (P.closeFL p (T.erL dn))
                have h4 := P.closeFL_sz p (T.erL dn)
                rw [T.szL_er] at h4
                have h5 : T.szL dn ≤ T.szL ps := by rw [hps, T.szL_append]; (first | (law_clear; lia) | lia | omega)
                (first | (law_clear; lia) | lia | omega)
              rw [T.szL_er] at h2
              (first | (law_clear; lia) | lia | omega)
            have hlen2 : (if sameK u.kin k then u.par else [u]).length ≤ 200 := by
              split
              · have h1 := T.lenL u.par
                have h2 : u.sz ≤ q.sz := by
                  rw [← T.sz_er u, ← T.sz_er q, ue]
                  split
                  · exact Nat.le_refl _
                  · exact P.closeF_sz p q.er
                have h3 : T.szL u.par ≤ u.sz := by cases u; rw [T.sz]; simp only [T.par]; (first | (law_clear; lia) | lia | omega)
                (first | (law_clear; lia) | lia | omega)
              · simp
            refine add_led F11 N11 (sub3 _ hpl1) hxl (by simp only [List.length_map]; rw [sizeLine_eq]; (first | (law_clear; lia) | lia | omega)) ?_
            intro pl' h12 F12 N12 l12
            clear F11 N11
            (try dsimp only)
            k_steps
            rename Fr _ _ _ _ => F13
            rename News _ _ _ (_ :: _) => N13
            refine letG ?_
            intro kG
            obtain ⟨c1, c2, c3, c4, c5, c6, c7⟩ := T.closed_step (k := k) (p := p) (I := I) (it := it) (NB := NC) (N := N) (N1 := N1) (N2 := wipe I N1) nps tl6 hps hcs hrp her hfp hnd hkeep hstill hne hu ue uf un uk us (fun x hx hxI => mem_wipe hx hxI)
            k_unfold
            clear kG
            have hIq : I ∉ q.fp := fun h => by
              obtain ⟨o', ho'⟩ := hqi.has I h
              exact hne _ ho' rfl
            have hI3 := sub3 _ (uk _ (.head _) hIq)
            have lift : ∀ x ∈ wipe I N1, x ∈ wipe I ((pl', listOf ((cs.map T.adr).map Value.ref ++ ((if sameK u.kin k = true then u.par else [u]).map T.adr).map Value.ref).toArray 0) :: N3) := fun x hx =>
              mem_wipe (.tail _ (sub3 x (List.mem_filter.mp hx).1)) (wipe_ne x hx)
            refine LPostS.intro F13 N13 (.tail _ hI3) ?_ ⟨_, pl', 0, dn ++ [q], rp, cs ++ (if sameK u.kin k = true then u.par else [u]), rfl, by simp [hps], rfl, mem_wipe ?_ (Nat.ne_of_gt (l12 _ hI3)), c1.all lift, c2.all lift, c3, c4, c5, fun x hx hxd => lift _ (c6 x hx hxd), c7.trans (.of lift), fun x hx e => ?_, fun h => ?_⟩
            · intro z hz1 hz2
              simp only [List.mem_cons, List.not_mem_nil, or_false, not_or] at hz2
              simp +zetaDelta [up, ovl, hz1, hz2]
            · rw [refsA, List.map_append, List.map_append]
              exact .head _
            · obtain ⟨o', ho'⟩ := c7 x hx
              have := l12 _ (sub3 _ (List.mem_filter.mp ho').1)
              rw [← e] at this
              exact Nat.lt_irrefl _ this
            · obtain ⟨o', ho'⟩ := c1.has pl' h
              exact Nat.lt_irrefl _ (l12 _ (sub3 _ (List.mem_filter.mp ho').1))
      · intro av u N h9 tk9 HI F9 N9
        (try (refine foldL ?_; intro kQ kE))
        refine letG ?_
        intro kG
        obtain ⟨u0, pl, e, dn, rp, cs, rfl, hps, hv, hpl, hcs, hrp, her, hfp, hnd, hkeep, hstill, hnewp, hplc⟩ := HI
        k_unfold
        clear kG
        have : rp = [] := by cases rp with | nil => rfl | cons => simp at hv
        subst this
        rw [List.append_nil] at hps
        subst hps
        clear F8 N8'
        have ha9 := hkeep _ ha6 nal.1
        have hz9 := hkeep _ hz6 nal.2.1
        have hclose : P.closeF p (T.er (T.mk a z l k wd ht x y ps)) = P.mk k wd ht (T.erL cs) := by rw [T.er, P.closeF_nil hsp, her]
        have still9 : Still N₀ N := (Still.of sub6).trans hstill
        have keep9 : ∀ q ∈ N₀, q.1 ∉ (T.mk a z l k wd ht x y ps).fp → q ∈ N := fun q hq hqf => hkeep _ (sub6 _ hq) fun hh => hqf (by first | exact T.par_in (hh) | (rw [T.fp]; simp [hh]))
        k_steps
        rename Fr _ _ _ _ => F20
        rename News _ _ _ _ => N20
        refine (?_ : wpAny _ _ _ _ _ _)
        with_reducible refine' kdn_eval (knd := PySem.strKind _ _) F20 N20 ?b1 ?b2 ?b3 (List.cons_ne_nil _ _) ?b4 ?_
        case b1 => exact Top.nolimit (by k_asm)
        case b2 => rfl
        case b3 => rfl
        case b4 => decide
        intro td h21 to F21 N21 l21 lo21 hd21
        clear F20 N20
        k_steps
        ((rename News _ _ _ _ => NR); (try dsimp only); refine halt (dict_item (v := (.ref z)) NR (.tail _ ha9) hdd (by rfl) ?_); (try dsimp only); k_steps)
        rename Fr _ _ _ _ => F22
        rename News _ _ _ (_ :: _) => N22
        (try dsimp only)
        change KdnMade _ _ _ _ _ _ _
        refine kdn_made_str F22 N22 (.head fun p hp => Nat.ne_of_lt (l21 p hp)) hd21 (by rfl) (of_decide_eq_true (by first | rfl | kernel_rfl!)) ?_
        intro h23 o23 F23 N23 hd23
        clear F22 N22
        (try dsimp only)
        k_steps
        exact ShutK.to ret (closed_node hkp nd ⟨_, hz⟩ l21 still9 keep9 hpl (fun q hq => hnewp _ (sub6 _ hq)) hz9 hcs (fun b hb => (hfp b hb).imp id fun h => h.sub sub6) hplc hnd hclose hd23) _ _ (by k_asm) (by k_asm)
example : True := by
  k_with_none
  trivial
end
namespace P
theorem AtP_kin {p : Int} {B B' e e' : P} (a : AtP p B B' e e') (hb : B.kin.isPane = false) : e.kin.isPane = false := by
  cases a with
  | here => exact hb
  | down h1 => exact h1
theorem Shut_kin {p : Int} {e e' : P} (s : Shut p e e') : e.kin.isPane = false := by
  cases s with
  | many hk _ a => exact AtP_kin a hk
  | root hk => exact hk
  | two hg _ _ _ _ a => exact AtP_kin a hg
mutual
theorem panes_pos : ∀ e : P, e.Ok → 1 ≤ e.panes.length
  | mk k w h ps, ok => by
    rw [Ok] at ok
    cases k with
    | pane p => simp [panes]
    | row => simp only [panes]; have := panesL_pos ps ok.2; have := ok.1; simp [K.isPane] at this; (first | (law_clear; lia) | lia | omega)
    | col => simp only [panes]; have := panesL_pos ps ok.2; have := ok.1; simp [K.isPane] at this; (first | (law_clear; lia) | lia | omega)
theorem panesL_pos : ∀ ps : List P, OkL ps → ps.length ≤ (panesL ps).length
  | [], _ => by simp
  | q :: r, ok => by
    rw [OkL] at ok
    rw [panesL, List.length_append, List.length_cons]
    have h1 := panes_pos q ok.1
    have h2 := panesL_pos r ok.2
    (first | (law_clear; lia) | lia | omega)
end
theorem panes_two {e : P} (ok : e.Ok) (hk : e.kin.isPane = false) : 2 ≤ e.panes.length := by
  cases e with | mk k w h ps =>
  simp only [kin] at hk
  rw [panes_node hk]
  rw [Ok] at ok
  have h1 := panesL_pos ps ok.2
  have h2 := ok.1
  rw [hk] at h2
  simp at h2
  (first | (law_clear; lia) | lia | omega)
end P
section
example : True := by
  k_with "call builtin:len" => (refine halt ?_)
  k_with "compareOp Eq ref ref" => (refine halt ?_)
  trivial
theorem law_closed_right (w : World) (n : Nat) (t : T) (N₀ : Led) (al : Addr) (its : List Value) (e : Nat) (p : Int) (tp : Tok) (hn : t.sz ≤ n) (tin : t.In w N₀) (gd : t.er.G) (np : t.er.panes.Nodup) (hp : p ∈ t.er.panes) (hw : t.wid < 900) (hh : t.hei < 900)
    (hal : (al, listOf its.toArray e) ∈ N₀) (has : AreasAre N₀ its t.areas) :
    Tell w 251 [.ref t.adr, .ref al, .int p tp] (5 * n + 120) N₀ (RetK (.bool true) fun N' => ∀ q ∈ N₀, q ∈ N') := by
  unfold Tell
  intro cx A₀ base h₀ L m mean mg mb s Q E B hf hk F X N TT hd hu ret
  have hwr : t.er.wid = t.wid := by cases t; rfl
  have hhr : t.er.hei = t.hei := by cases t; rfl
  have lim : n ≤ 200 := by simp only [recursionLimit] at hd; (first | (law_clear; lia) | lia | omega)
  have hal2 : its.length = t.er.panes.length := by rw [has.length, T.areas_eq, T.panes_er, T.panes, List.length_map, List.length_map]
  have hpl : t.er.panes.length ≤ 200 := by
    have h1 := T.leaves_len t
    rw [T.panes_er, T.panes, List.length_map]
    (first | (law_clear; lia) | lia | omega)
  (refine wpAny_call ?_; k_dflt (refine' code_def ?k1 ?k2 ?k3 ?k4 ?k5 ?kA ?kF ?kK ?k6 ?k7 ?k8 ?k9 ?kB ?_ ?c2 ?c3 ?c4 ?c5; (case kA => exact rfl); (case kF => assumption); (case kK => assumption); (case k1 => k_asm); (case k2 => k_asm); (case k3 => k_asm); (case k4 => k_asm); (case k5 => k_asm); (case k6 => k_is); (case k7 => k_is); (case k8 => k_room); (case k9 => exact bnd3 "root" "areas" "pane" rfl); (case c5 => decide); (case kB => exact locs rfl); (case c2 => exact rfl); (case c3 => exact rfl); (case c4 => exact rfl); k_whole; intro _ _ _ _ _ _ _ _ _; (try dsimp only); (try (refine foldL ?_; intro kQ kE))))
  k_steps
  rename Fr _ _ _ _ => F2
  rename News _ _ _ _ => N2
  rename Below _ _ (_ :: _) _ => B2
  rename Frag.In _ _ => X2
  rename Top _ _ _ _ _ _ => T2
  refine Tell.use (close_pane w n t N₀ p tp hn tin gd.1 np ?_) B2 F2 X2 N2 T2 rfl rfl (by (first | exact rm1 hd (Nat.le_of_ble_eq_true rfl) | exact rm2 hd (Nat.le_of_ble_eq_true rfl) | (dsimp only; (first | (law_clear; lia) | lia | omega)))) (by (first | exact ru1 hu (Nat.le_of_ble_eq_true rfl) | exact ru2 hu (Nat.le_of_ble_eq_true rfl) | (dsimp only; (first | (law_clear; lia) | lia | omega)))) ?_
  · intro wd ht a
    have h1 := P.AtP_sub a gd
    have h2 := h1.1.pos
    have e1 : (P.leaf p wd ht).wid = wd := rfl
    have e2 : (P.leaf p wd ht).hei = ht := rfl
    rw [hwr, hhr, e1, e2] at h1
    rw [e1, e2] at h2
    (first | (law_clear; lia) | lia | omega)
  intro kQ kM
  rintro r3 N3 ⟨sub3, hr⟩
  intro h3 tk3 F3 N3'
  clear F2 N2
  cases hk2 : t.er.kin.isPane with
  | true =>
    obtain rfl : r3 = .none := by
      rcases hr with ⟨h, _⟩ | ⟨t', _, _, _, sh⟩
      · exact h
      · have := P.Shut_kin sh
        rw [hk2] at this
        cases this
    have hl1 : its.length = 1 := by
      rw [hal2]
      cases ht : t.er with | mk k w' h' ps =>
      rw [ht] at hk2
      simp only [P.kin] at hk2
      cases k with
      | pane q => simp [P.panes]
      | row => cases hk2
      | col => cases hk2
    k_steps
    rename News _ _ _ _ => NR
    refine halt (len_led NR (sub3 _ hal) (by (first | (law_clear; lia) | lia | omega)) ?_)
    rw [hl1]
    (try dsimp only)
    k_steps
    exact ret _ sub3 _ _ (by k_asm) (by k_asm)
  | false =>
    obtain ⟨t', rfl, ⟨in', new', nd', _⟩, at', sh⟩ : ∃ t', And4 (r3 = .ref t'.adr) (Made w N₀ N3 t') (t'.At 0 0) (P.Shut p t.er t'.er) := by
      rcases hr with ⟨_, h⟩ | h
      · rcases h with h | h
        · exact absurd hp h
        · rw [h] at hk2; cases hk2
      · exact h
    have hl2 := P.panes_two gd.1 hk2
    have hg' := P.Shut_good sh gd
    have hcl := P.Shut_law sh gd np
    have hz' : t'.sz ≤ n := by
      rw [← T.sz_er, ← hcl]
      have := P.closeF_sz p t.er
      rw [T.sz_er] at this
      (first | (law_clear; lia) | lia | omega)
    k_steps
    rename News _ _ _ _ => NR
    refine halt (len_led NR (sub3 _ hal) (by (first | (law_clear; lia) | lia | omega)) ?_)
    (try dsimp only)
    have hne1 : ¬ ((its.length : Int) = 1) := by (first | (law_clear; lia) | lia | omega)
    k_steps
    · exact absurd ‹(its.length : Int) = 1› hne1
    rename Fr _ _ _ _ => F4
    rename News _ _ _ _ => N4
    refine Tell.use (is_tiling w n t' N3 hz' in' at' hg'.1.1 hg'.1.2) B2 F4 X2 N4 T2 rfl rfl (by (first | exact rm1 hd (Nat.le_of_ble_eq_true rfl) | exact rm2 hd (Nat.le_of_ble_eq_true rfl) | (dsimp only; (first | (law_clear; lia) | lia | omega)))) (by (first | exact ru1 hu (Nat.le_of_ble_eq_true rfl) | exact ru2 hu (Nat.le_of_ble_eq_true rfl) | (dsimp only; (first | (law_clear; lia) | lia | omega)))) ?_
    intro kQ kM
    intro N5 sub5 h5 tk5 F5 N5'
    clear F4 N4
    k_steps
    rename Fr _ _ _ _ => F6
    rename News _ _ _ _ => N6
    refine Tell.use (law_areas w n t' N5 hz' (in'.all sub5)) B2 F6 X2 N6 T2 rfl rfl (by (first | exact rm1 hd (Nat.le_of_ble_eq_true rfl) | exact rm2 hd (Nat.le_of_ble_eq_true rfl) | (dsimp only; (first | (law_clear; lia) | lia | omega)))) (by (first | exact ru1 hu (Nat.le_of_ble_eq_true rfl) | exact ru2 hu (Nat.le_of_ble_eq_true rfl) | (dsimp only; (first | (law_clear; lia) | lia | omega)))) ?_
    intro kQ kM
    intro N7 l7 its7 e7 hl7 har7 new7 sub7 h7 tk7 F7 N7'
    clear F6 N6
    k_steps
    rename Fr _ _ _ _ => F8
    rename News _ _ _ _ => N8
    have sub07 : ∀ q ∈ N₀, q ∈ N7 := fun q hq => sub7 _ (sub5 _ (sub3 _ hq))
    refine Tell.use (law_tree w n t N7 hn (tin.all sub07)) B2 F8 X2 N8 T2 rfl rfl (by (first | exact rm1 hd (Nat.le_of_ble_eq_true rfl) | exact rm2 hd (Nat.le_of_ble_eq_true rfl) | (dsimp only; (first | (law_clear; lia) | lia | omega)))) (by (first | exact ru1 hu (Nat.le_of_ble_eq_true rfl) | exact ru2 hu (Nat.le_of_ble_eq_true rfl) | (dsimp only; (first | (law_clear; lia) | lia | omega)))) ?_
    intro kQ kM
    intro N9 u hu newu ndu sub9 eru h9 tk9 F9 N9'
    clear F8 N8
    k_steps
    rename Fr _ _ _ _ => F10
    rename News _ _ _ _ => N10
    have huz : u.sz ≤ n := by rw [← T.sz_er, eru, T.sz_er]; exact hn
    have huw : u.er.wid = u.wid := by cases u; rfl
    have huh : u.er.hei = u.hei := by cases u; rfl
    refine Tell.use (law_closed w p _ n u N9 huz hu ndu (by rw [eru]; exact gd) (by rw [← T.kin_er, eru]; exact hk2) (by rw [← huw, eru, hwr]; exact hw) (by rw [← huh, eru, hhr]; exact hh)) B2 F10 X2 N10 T2 rfl rfl (by (first | exact rm1 hd (Nat.le_of_ble_eq_true rfl) | exact rm2 hd (Nat.le_of_ble_eq_true rfl) | (dsimp only; (first | (law_clear; lia) | lia | omega)))) (by (first | exact ru1 hu (Nat.le_of_ble_eq_true rfl) | exact ru2 hu (Nat.le_of_ble_eq_true rfl) | (dsimp only; (first | (law_clear; lia) | lia | omega)))) ?_
    intro kQ kM
    intro N11 v hv erv subv ndv keepv stillv h11 tk11 F11 N11'
    clear F10 N10
    have erv' : v.er = t'.er := by rw [erv, eru, hcl]
    have hvz : v.sz ≤ n := by rw [← T.sz_er, erv', T.sz_er]; exact hz'
    have up : ∀ q ∈ N7, q ∈ N11 := fun q hq => keepv _ (sub9 _ hq) fun h => newu _ h _ hq rfl
    k_steps
    rename Fr _ _ _ _ => F12
    rename News _ _ _ _ => N12
    refine Tell.use (law_placed w n v N11 0 0 _ _ hvz hv (by rw [erv']; exact hg'.1.1)) B2 F12 X2 N12 T2 rfl rfl (by (first | exact rm1 hd (Nat.le_of_ble_eq_true rfl) | exact rm2 hd (Nat.le_of_ble_eq_true rfl) | (dsimp only; (first | (law_clear; lia) | lia | omega)))) (by (first | exact ru1 hu (Nat.le_of_ble_eq_true rfl) | exact ru2 hu (Nat.le_of_ble_eq_true rfl) | (dsimp only; (first | (law_clear; lia) | lia | omega)))) ?_
    intro kQ kM
    intro N13 l13 its13 e13 hl13 har13 new13 sub13 h13 tk13 F13 N13'
    clear F12 N12
    rw [erv', ← T.areas_placed t' 0 0 at'] at har13
    k_steps
    rename News _ _ _ _ => N14
    refine eq_areas N14 (sub13 _ (up _ hl7)) hl13 (har7.all fun q hq => sub13 _ (up _ hq)) har13 (by ((try simp only [units_in1, units_deeper]); (try dsimp only); (first | (law_clear; lia) | lia | omega))) ?_
    k_steps
    exact ret _ (fun q hq => sub13 _ (up _ (sub07 _ hq))) _ _ (by k_asm) (by k_asm)
example : True := by
  k_with_none
  trivial
end
theorem focus2 {h₀ h : Heap} {L c1 c2 : Addr} {N : Led} {o1 o2 : Obj} (n : News h₀ L h N) (h1 : (c1, o1) ∈ N) (h2 : (c2, o2) ∈ N) :
    ∃ NW, News h₀ L h ((c2, o2) :: (c1, o1) :: NW) ∧ (∀ p ∈ NW, p.1 ≠ c1) ∧ (∀ p ∈ NW, p.1 ≠ c2) ∧ ∀ q ∈ N, q.1 ≠ c1 → q.1 ≠ c2 → q ∈ NW := by
  refine ⟨wipe c1 (wipe c2 N), News.sub n fun p hp => ?_, wipe_ne, fun p hp => wipe_ne p (List.mem_filter.mp hp).1, fun q hq e1 e2 => mem_wipe (mem_wipe hq e2) e1⟩
  rcases List.mem_cons.mp hp with rfl | hp
  · exact h2
  rcases List.mem_cons.mp hp with rfl | hp
  · exact h1
  · exact (List.mem_filter.mp (List.mem_filter.mp hp).1).1
theorem intsAre_back {i : Int} {u : Tok} {vs : List Value} {ns : List Int} (h : IntsAre vs ns) (hm : Value.int i u ∈ vs) : i ∈ ns := by
  induction h with
  | nil => cases hm
  | cons n t _ ih =>
    rcases List.mem_cons.mp hm with e | hm
    · exact (Value.int.inj e).1 ▸ .head _
    · exact .tail _ (ih hm)
section
example : True := by
  k_with "subscriptTail" => (k_dflt (refine' item_tupleT ?t ?a ?b ?c ?d ?_; (case t => exact News.isTup (by k_asm) (by k_mem)); (case a => decide); (case b => decide); (case c => rfl); (case d => rfl); k_whole))
  k_with "subscriptTail Name Slice ref ref" => (refine halt ?_)
  k_with "compareOp Eq ref ref" => (refine halt ?_)
  k_with "compareOp NotEq ref ref" => (refine halt ?_)
  trivial
theorem law_exchanged_right (w : World) (n : Nat) (t : T) (N₀ : Led) (dk cl al : Addr) (its : List Value) (e j : Nat) (hn : t.sz ≤ n) (tin : t.In w N₀) (hal : (al, listOf its.toArray e) ∈ N₀) (has : AreasAre N₀ its t.areas) (hj : j ≤ 900) (hdk : DeckIn w N₀ dk cl j)
    (h77 : (77 : Int) ∉ t.panes) (h0 : t.panes ≠ []) (odk : dk ∉ t.fp) (ocl : cl ∉ t.fp) (ocal : al ≠ cl) :
    Tell w 244 [.ref dk, .ref t.adr, .ref al] (5 * n + 150) N₀ (RetK (.bool true) fun N' => ∀ q ∈ N₀, q.1 ≠ dk → q.1 ≠ cl → q ∈ N') := by
  unfold Tell
  intro cx A₀ base h₀ L m mean mg mb s Q E B hf hk F X N TT hd hu ret
  have lim : n ≤ 200 := by simp only [recursionLimit] at hd; (first | (law_clear; lia) | lia | omega)
  have hil := has.length
  have hpl : t.areas.length ≤ 200 := by
    have h1 := T.leaves_len t
    rw [T.areas_eq, List.length_map]
    (first | (law_clear; lia) | lia | omega)
  have hpa : t.areas.map Area.pane = t.panes := by rw [T.areas_eq, T.panes, List.map_map]; rfl
  refine letG ?_
  intro kG
  obtain ⟨od, tm, tt, mx, tu, cs, ce, hd1, hd2, hd3, -⟩ := id hdk
  k_unfold
  clear kG
  have hcNe : ∀ D o, o.cls = .type "tuple" → (D, o) ∈ N₀ → D ≠ dk ∧ D ≠ cl := fun D o ho hm => ⟨News.ne_of N hm hd1 (by rw [ho, StrD.cls hd2]; simp), News.ne_of N hm hd3 (by rw [ho]; simp)⟩
  have ald : al ≠ dk := News.ne_of N hal hd1 (by rw [StrD.cls hd2]; simp)
  (refine wpAny_call ?_; k_dflt (refine' code_defC ?k1 ?k2 ?k3 ?k4 ?k5 ?kA ?kF ?kK ?k6 ?k7 ?k8 ?k9 ?kB ?kD ?_ ?c2 ?c3 ?c4; (case kA => exact rfl); (case kF => assumption); (case kK => assumption); (case k1 => k_asm); (case k2 => k_asm); (case k3 => k_asm); (case k4 => k_asm); (case k5 => k_asm); (case k6 => k_is); (case k7 => k_is); (case k8 => k_room); (case k9 => first | exact bnd3 "deck" "root" "areas" rfl | exact binds_K (by k_in) rfl (by k_is) rfl rfl rfl); (case kB => exact rfl); (case kD => decide +kernel); (case c2 => exact rfl); (case c3 => exact rfl); (case c4 => exact rfl); k_whole; intro _ _ _ _ _ _ _ zzN zzY _ _ _ zzl; (have lc1 := fun p hp => Nat.ne_of_lt (Nat.lt_add_right 1 (zzl p hp))); (have lc2 := fun p hp => Nat.ne_of_lt (Nat.lt_add_right 1 (Nat.lt_add_right 1 (zzl p hp)))); (try k_lt zzl); k_cells zzY; (try simp only [List.cons_append, List.nil_append] at zzN); (try dsimp only); (try (refine foldL ?_; intro kQ kE))))
  k_steps
  rename Fr _ _ _ _ => F2
  rename News _ _ _ _ => N2
  rename Below _ _ (_ :: _) _ => B2
  rename Frag.In _ _ => X2
  rename Top _ _ _ _ _ _ => T2
  rename ∀ p ∈ N₀, p.1 < _ => lN
  obtain ⟨NB, N3, hc2B, hc1B, subB⟩ : ∃ NB, And4 (News _ _ _ NB) ((_, _) ∈ NB) ((_, _) ∈ NB) (∀ q ∈ N₀, q ∈ NB) := ⟨_, N2, .head _, .tail _ (.head _), fun q hq => .tail _ (.tail _ hq)⟩
  clear N2
  refine comp_led rfl F2 N3 (subB _ hal) (by rw [sizeLine_eq]; (first | (law_clear; lia) | lia | omega)) (fun r ys N => Ex2 fun (dn rp : List Area) => And4 (t.areas = dn ++ rp) (AreasAre N r rp) (IntsAre ys (dn.map Area.pane)) (∀ q ∈ NB, q ∈ N))
    ⟨[], t.areas, rfl, has.all subB, .nil, fun _ h => h⟩ (fun r ys N h => by obtain ⟨dn, rp, h1, h2, h3, h4⟩ := h; exact h4 _ (subB _ hal)) ?_ ?_
  · intro v r ys N I oI C oC D m₂ h tk E' HI hC hx F4 N4 off ne
    (try (refine foldL ?_; intro kQ kE))
    refine letG ?_
    intro kG
    obtain ⟨dn, rp, hps, hr, hys, hN⟩ := HI
    k_unfold
    clear kG
    cases hr with | cons hDm hr =>
    rename_i D' t1 t2 t3 t4 t5 a rp'
    clear F2 N3
    k_steps
    refine CPost.same F4 N4 off ⟨dn ++ [a], rp', by simp [hps], hr, ?_, hN⟩
    rw [List.map_append]
    exact hys.append (.cons _ _ .nil)
  · rintro nts N g ⟨dn, rp, hps, hr, hys, hN⟩
    have : rp = [] := by cases hr; rfl
    subst this
    rw [List.append_nil] at hps
    subst hps
    rw [hpa] at hys
    unfold LCg.FinA
    intro nl h5 tk5 F5 N5 o1
    clear F2 N3
    have nnl := off1_mem o1
    have sub0 : ∀ q ∈ N₀, q ∈ N := fun q hq => hN _ (subB _ hq)
    have hc1N := hN _ hc1B
    have hc2N := hN _ hc2B
    k_steps
    rename Fr _ _ _ _ => F6
    rename News _ _ _ _ => N6
    have hntl := hys.length
    have hpn : t.panes.length = t.areas.length := by rw [← hpa, List.length_map]
    have hdkN : DeckIn w ((nl, LCg.lst nts) :: N) dk cl j := by
      refine letG ?_
      intro kG
      obtain ⟨o, tm, tt, mx, tu, cs, ce, h1, h2, h3, h4⟩ := hdk
      k_unfold
      clear kG
      exact ⟨o, tm, tt, mx, tu, cs, ce, .tail _ (sub0 _ h1), h2, .tail _ (sub0 _ h3), h4⟩
    have hnd : nl ≠ dk ∧ nl ≠ cl := by
      refine letG ?_
      intro kG
      obtain ⟨o, tm, tt, mx, tu, cs, ce, h1, h2, h3, h4⟩ := hdk
      k_unfold
      clear kG
      exact ⟨fun e => nnl _ (sub0 _ h1) e.symm, fun e => nnl _ (sub0 _ h3) e.symm⟩
    refine Tell.use (law_pick w _ dk cl nl nts nts.length j (by (first | (law_clear; lia) | lia | omega)) hdkN (.head _) hnd.1 hnd.2 ?_ (by (first | (law_clear; lia) | lia | omega))) B2 F6 X2 N6 T2 rfl rfl (by (first | exact rm1 hd (Nat.le_of_ble_eq_true rfl) | exact rm2 hd (Nat.le_of_ble_eq_true rfl) | (dsimp only; (first | (law_clear; lia) | lia | omega)))) (by (first | exact ru1 hu (Nat.le_of_ble_eq_true rfl) | exact ru2 hu (Nat.le_of_ble_eq_true rfl) | (dsimp only; (first | (law_clear; lia) | lia | omega)))) ?_
    · intro e
      rw [e] at hys
      cases hp : t.panes with
      | nil => exact h0 hp
      | cons b bs => rw [hp] at hys; cases hys
    intro kQ kM
    intro N7 r7 hr7 hdk7 sub7 h7 tk7 F7 N7'
    refine letG ?_
    intro kG
    obtain ⟨one, t1, rfl⟩ := intsAre_mem hys _ hr7
    k_unfold
    clear kG
    clear F6 N6
    have hnl7 := sub7 _ (.head _) hnd.1 hnd.2
    k_steps
    rename Fr _ _ _ _ => F8
    rename News _ _ _ _ => N8
    refine Tell.use (law_pick w _ dk cl nl nts nts.length (j + 1) (by (first | (law_clear; lia) | lia | omega)) hdk7 hnl7 hnd.1 hnd.2 ?_ (by (first | (law_clear; lia) | lia | omega))) B2 F8 X2 N8 T2 rfl rfl (by (first | exact rm1 hd (Nat.le_of_ble_eq_true rfl) | exact rm2 hd (Nat.le_of_ble_eq_true rfl) | (dsimp only; (first | (law_clear; lia) | lia | omega)))) (by (first | exact ru1 hu (Nat.le_of_ble_eq_true rfl) | exact ru2 hu (Nat.le_of_ble_eq_true rfl) | (dsimp only; (first | (law_clear; lia) | lia | omega)))) ?_
    · intro e
      rw [e] at hys
      cases hp : t.panes with
      | nil => exact h0 hp
      | cons b bs => rw [hp] at hys; cases hys
    intro kQ kM
    intro N9 r9 hr9 hdk9 sub9 h9 tk9 F9 N9'
    refine letG ?_
    intro kG
    obtain ⟨other, t2, rfl⟩ := intsAre_mem hys _ hr9
    k_unfold
    clear kG
    clear F8 N8
    have up9 : ∀ q ∈ N, q.1 ≠ dk → q.1 ≠ cl → q ∈ N9 := fun q hq e1 e2 => sub9 _ (sub7 _ (.tail _ hq) e1 e2) e1 e2
    have hnl9 := sub9 _ hnl7 hnd.1 hnd.2
    have hc19 := up9 _ hc1N (Nat.ne_of_gt (Nat.lt_succ_of_lt (lN _ hd1))) (Nat.ne_of_gt (Nat.lt_succ_of_lt (lN _ hd3)))
    have hc29 := up9 _ hc2N (Nat.ne_of_gt (Nat.lt_succ_of_lt (Nat.lt_succ_of_lt (lN _ hd1)))) (Nat.ne_of_gt (Nat.lt_succ_of_lt (Nat.lt_succ_of_lt (lN _ hd3))))
    refine letG ?_
    intro kG
    obtain ⟨NW, N10, offc1, offc2, subW⟩ := focus2 N9' hc19 hc29
    k_unfold
    clear kG
    clear N9'
    have ncl : ∀ q ∈ N₀, q.1 ≠ dk → q.1 ≠ cl → q ∈ NW := fun q hq e1 e2 => subW _ (up9 _ (sub0 _ hq) e1 e2) (Nat.ne_of_lt (Nat.lt_succ_of_lt (lN _ hq))) (Nat.ne_of_lt (Nat.lt_succ_of_lt (Nat.lt_succ_of_lt (lN _ hq))))
    have hnlW : (nl, LCg.lst nts) ∈ NW := subW _ hnl9 (Ne.symm (nnl _ hc1N)) (Ne.symm (nnl _ hc2N))
    k_steps
    rename Fr _ _ _ _ => F11
    rename News _ _ _ _ => N11
    obtain ⟨NC, N12, hc2C, hc1C, subC⟩ : ∃ NC, And4 (News _ _ _ NC) ((_, _) ∈ NC) ((_, _) ∈ NC) (∀ q ∈ NW, q ∈ NC) := ⟨_, N11, .tail _ (.head _), .tail _ (.tail _ (.head _)), fun q hq => .tail _ (.tail _ (.tail _ hq))⟩
    clear N11
    refine comp_led rfl F11 N12 (subC _ hnlW) (by rw [sizeLine_eq]; (first | (law_clear; lia) | lia | omega)) (fun r ys N => Ex2 fun (dn rp : List Int) => And4 (t.panes = dn ++ rp) (IntsAre r rp) (IntsAre ys (dn.map (swapI one other))) (∀ q ∈ NC, q ∈ N))
      ⟨[], t.panes, rfl, hys, .nil, fun _ h => h⟩ (fun r ys N h => by obtain ⟨dn, rp, h1, h2, h3, h4⟩ := h; exact h4 _ (subC _ hnlW)) ?_ ?_
    · intro v r ys N I oI C oC D m₂ h tk E' HI hC hx F4 N4 off ne
      (try (refine foldL ?_; intro kQ kE))
      refine letG ?_
      intro kG
      obtain ⟨dn, rp, hps, hr, hyy, hN⟩ := HI
      k_unfold
      clear kG
      cases hr with | cons nn uu hr =>
      rename_i rp'
      clear F11 N12
      have hc1M := hN _ hc1C
      have hc2M := hN _ hc2C
      k_steps
      all_goals
        refine CPost.same F4 N4 off ⟨dn ++ [nn], rp', by simp [hps], hr, ?_, hN⟩
        rw [List.map_append]
        refine hyy.append ?_
        simp only [List.map_cons, List.map_nil, swapI]
        first
          | (rw [if_pos (by assumption)]; exact .cons _ _ .nil)
          | (rw [if_neg (by assumption), if_pos (by assumption)]; exact .cons _ _ .nil)
          | (rw [if_neg (by assumption), if_neg (by assumption)]; exact .cons _ _ .nil)
    · rintro sws M g2 ⟨dn, rp, hps, hr, hyy, hM⟩
      have : rp = [] := by cases hr; rfl
      subst this
      rw [List.append_nil] at hps
      subst hps
      unfold LCg.FinA
      intro sl h13 tk13 F13 N13 o2
      clear F11 N12
      have up0 : ∀ q ∈ N₀, q.1 ≠ dk → q.1 ≠ cl → q ∈ (sl, LCg.lst sws) :: M := fun q hq e1 e2 => .tail _ (hM _ (subC _ (ncl q hq e1 e2)))
      have hoin : one ∈ t.panes := intsAre_back hys hr7
      have hotin : other ∈ t.panes := intsAre_back hys hr9
      obtain ⟨NS, hNS⟩ : ∃ NS, NS = (sl, LCg.lst sws) :: M := ⟨_, rfl⟩
      rw [← hNS] at N13 up0
      have tinS : t.In w NS := tin.to fun a ha o ho => up0 _ ho (fun e => odk (e ▸ ha)) (fun e => ocl (e ▸ ha))
      have halS := up0 _ hal ald ocal
      have hasS : AreasAre NS its t.areas := has.to fun D o ho hm => up0 _ hm (hcNe D o ho hm).1 (hcNe D o ho hm).2
      have hslS : (sl, LCg.lst sws) ∈ NS := by rw [hNS]; exact .head _
      have hnlS : (nl, LCg.lst nts) ∈ NS := by rw [hNS]; exact .tail _ (hM _ (subC _ hnlW))
      have upM : ∀ q ∈ M, q ∈ NS := fun q hq => by rw [hNS]; exact .tail _ hq
      have hc1S := upM _ (hM _ hc1C)
      have hc2S := upM _ (hM _ hc2C)
      clear hNS
      have hswl := hyy.length
      rw [List.length_map] at hswl
      k_steps
      rename Fr _ _ _ _ => F14
      rename News _ _ _ _ => N14
      refine Tell.use (swap_panes w n t NS one other _ _ hn tinS) B2 F14 X2 N14 T2 rfl rfl (by (first | exact rm1 hd (Nat.le_of_ble_eq_true rfl) | exact rm2 hd (Nat.le_of_ble_eq_true rfl) | (dsimp only; (first | (law_clear; lia) | lia | omega)))) (by (first | exact ru1 hu (Nat.le_of_ble_eq_true rfl) | exact ru2 hu (Nat.le_of_ble_eq_true rfl) | (dsimp only; (first | (law_clear; lia) | lia | omega)))) ?_
      intro kQ kM
      rintro r15 N15 ⟨sub15, hr15⟩
      intro h15 tk15 F15 N15'
      rw [if_pos ⟨hoin, hotin⟩] at hr15
      refine letG ?_
      intro kG
      obtain ⟨ta, rfl, ⟨ina, -, -, -⟩, ara, sza⟩ := hr15
      k_unfold
      clear kG
      clear F14 N14
      k_steps
      rename Fr _ _ _ _ => F16
      rename News _ _ _ _ => N16
      refine Tell.use (law_areas w n ta N15 sza ina) B2 F16 X2 N16 T2 rfl rfl (by (first | exact rm1 hd (Nat.le_of_ble_eq_true rfl) | exact rm2 hd (Nat.le_of_ble_eq_true rfl) | (dsimp only; (first | (law_clear; lia) | lia | omega)))) (by (first | exact ru1 hu (Nat.le_of_ble_eq_true rfl) | exact ru2 hu (Nat.le_of_ble_eq_true rfl) | (dsimp only; (first | (law_clear; lia) | lia | omega)))) ?_
      intro kQ kM
      intro N17 l17 its17 e17 hl17 har17 _ sub17 h17 tk17 F17 N17'
      clear F16 N16
      have up17 : ∀ q ∈ NS, q ∈ N17 := fun q hq => sub17 _ (sub15 _ hq)
      k_steps
      rename Fr _ _ _ _ => F18
      rename News _ _ _ _ => N18
      refine Tell.use (law_numbered w N17 al sl its sws _ _ t.areas (t.panes.map (swapI one other)) (up17 _ halS) (hasS.all up17) (up17 _ hslS) hyy (by rw [List.length_map]; (first | (law_clear; lia) | lia | omega))) B2 F18 X2 N18 T2 rfl rfl (by (first | exact rm1 hd (Nat.le_of_ble_eq_true rfl) | exact rm2 hd (Nat.le_of_ble_eq_true rfl) | (dsimp only; (first | (law_clear; lia) | lia | omega)))) (by (first | exact ru1 hu (Nat.le_of_ble_eq_true rfl) | exact ru2 hu (Nat.le_of_ble_eq_true rfl) | (dsimp only; (first | (law_clear; lia) | lia | omega)))) ?_
      intro kQ kM
      intro N19 l19 its19 e19 hl19 har19 _ sub19 h19 tk19 F19 N19'
      clear F18 N18
      have up19 : ∀ q ∈ NS, q ∈ N19 := fun q hq => sub19 _ (up17 _ hq)
      rw [ara] at har17
      k_steps
      rename News _ _ _ _ => N20
      refine ne_areas N20 (sub19 _ hl17) hl19 (har17.all sub19) har19 (by ((try simp only [units_in1, units_deeper]); (try dsimp only); (first | (law_clear; lia) | lia | omega))) ?_
      have hc1T := up19 _ hc1S
      have hc2T := up19 _ hc2S
      k_steps
      rename Fr _ _ _ _ => F21
      rename News _ _ _ _ => N21
      refine Tell.use (swap_panes w n t N19 one 77 _ _ hn (tinS.all up19)) B2 F21 X2 N21 T2 rfl rfl (by (first | exact rm1 hd (Nat.le_of_ble_eq_true rfl) | exact rm2 hd (Nat.le_of_ble_eq_true rfl) | (dsimp only; (first | (law_clear; lia) | lia | omega)))) (by (first | exact ru1 hu (Nat.le_of_ble_eq_true rfl) | exact ru2 hu (Nat.le_of_ble_eq_true rfl) | (dsimp only; (first | (law_clear; lia) | lia | omega)))) ?_
      intro kQ kM
      rintro r22 N22 ⟨sub22, hr22⟩
      intro h22 tk22 F22 N22'
      rw [if_neg fun h => h77 h.2] at hr22
      subst hr22
      clear F21 N21
      have up22 : ∀ q ∈ NS, q ∈ N22 := fun q hq => sub22 _ (up19 _ hq)
      k_steps
      rename Fr _ _ _ _ => F23
      rename News _ _ _ _ => N23
      refine Tell.use (rotate_panes1 w n t N22 hn (tinS.all up22)) B2 F23 X2 N23 T2 rfl rfl (by (first | exact rm1 hd (Nat.le_of_ble_eq_true rfl) | exact rm2 hd (Nat.le_of_ble_eq_true rfl) | (dsimp only; (first | (law_clear; lia) | lia | omega)))) (by (first | exact ru1 hu (Nat.le_of_ble_eq_true rfl) | exact ru2 hu (Nat.le_of_ble_eq_true rfl) | (dsimp only; (first | (law_clear; lia) | lia | omega)))) ?_
      intro kQ kM
      rintro N24 tb ⟨inb, -, -, subb⟩ arb szb h24 tk24 F24 N24'
      clear F23 N23
      k_steps
      rename Fr _ _ _ _ => F25
      rename News _ _ _ _ => N25
      refine Tell.use (law_areas w n tb N24 szb inb) B2 F25 X2 N25 T2 rfl rfl (by (first | exact rm1 hd (Nat.le_of_ble_eq_true rfl) | exact rm2 hd (Nat.le_of_ble_eq_true rfl) | (dsimp only; (first | (law_clear; lia) | lia | omega)))) (by (first | exact ru1 hu (Nat.le_of_ble_eq_true rfl) | exact ru2 hu (Nat.le_of_ble_eq_true rfl) | (dsimp only; (first | (law_clear; lia) | lia | omega)))) ?_
      intro kQ kM
      intro N26 l26 its26 e26 hl26 har26 _ sub26 h26 tk26 F26 N26'
      clear F25 N25
      have up26 : ∀ q ∈ NS, q ∈ N26 := fun q hq => sub26 _ (subb _ (up22 _ hq))
      k_steps
      rename Fr _ _ _ _ => F27
      rename News _ _ _ _ => N27
      refine slice_led F27 N27 (up26 _ hnlS) (.int _ _) .none (pick_last _) ?_ (by with_unfolding_all rfl) (by kmk_pure) (by rw [sizeLine_eq]; (first | (law_clear; lia) | lia | omega))
      intro D28 h28 F28 N28 l28
      clear F27 N27
      (try dsimp only)
      k_steps
      rename Fr _ _ _ _ => F29
      rename News _ _ _ _ => N29
      refine slice_led F29 N29 (.tail _ (up26 _ hnlS)) .none (.int _ _) (pick_init _) ?_ (by with_unfolding_all rfl) (by kmk_pure) (by rw [sizeLine_eq]; (first | (law_clear; lia) | lia | omega))
      intro D30 h30 F30 N30 l30
      clear F29 N29
      (try dsimp only)
      k_steps
      refine halt (add_led F30 N30 (.tail _ (.head _)) (.head _) (by simp only [List.length_drop, List.length_take, mn1, mn2]; rw [sizeLine_eq]; (first | (law_clear; lia) | lia | omega)) ?_)
      intro D31 h31 F31 N31 l31
      clear F30 N30
      (try dsimp only)
      k_steps
      rename Fr _ _ _ _ => F32
      rename News _ _ _ _ => N32
      have up32 : ∀ q ∈ NS, ∀ x y z, q ∈ x :: y :: z :: N26 := fun q hq _ _ _ => .tail _ (.tail _ (.tail _ (up26 _ hq)))
      have ups32 : ∀ q ∈ N26, ∀ x y z, q ∈ x :: y :: z :: N26 := fun q hq _ _ _ => .tail _ (.tail _ (.tail _ hq))
      refine Tell.use (law_numbered w _ al D31 its _ _ _ t.areas (rotL false t.panes) (up32 _ halS _ _ _) (hasS.all fun q hq => up32 q hq _ _ _) (.head _) ?_ (by rw [rotL_len]; (first | (law_clear; lia) | lia | omega))) B2 F32 X2 N32 T2 rfl rfl (by (first | exact rm1 hd (Nat.le_of_ble_eq_true rfl) | exact rm2 hd (Nat.le_of_ble_eq_true rfl) | (dsimp only; (first | (law_clear; lia) | lia | omega)))) (by (first | exact ru1 hu (Nat.le_of_ble_eq_true rfl) | exact ru2 hu (Nat.le_of_ble_eq_true rfl) | (dsimp only; (first | (law_clear; lia) | lia | omega)))) ?_
      · show IntsAre _ (t.panes.drop (t.panes.length - 1) ++ t.panes.take (t.panes.length - 1))
        rw [hntl]
        exact (hys.drop _).append (hys.take _)
      intro kQ kM
      intro N33 l33 its33 e33 hl33 har33 _ sub33 h33 tk33 F33 N33'
      clear F32 N32
      rw [arb] at har26
      k_steps
      rename News _ _ _ _ => N34
      refine ne_areas N34 (sub33 _ (ups32 _ hl26 _ _ _)) hl33 (har26.all fun q hq => sub33 _ (ups32 _ hq _ _ _)) har33 (by ((try simp only [units_in1, units_deeper]); (try dsimp only); (first | (law_clear; lia) | lia | omega))) ?_
      have up33 : ∀ q ∈ NS, q ∈ N33 := fun q hq => sub33 _ (up32 q hq _ _ _)
      k_steps
      rename Fr _ _ _ _ => F35
      rename News _ _ _ _ => N35
      refine Tell.use (rotate_panes2 w n t N33 true hn (tinS.all up33)) B2 F35 X2 N35 T2 rfl rfl (by (first | exact rm1 hd (Nat.le_of_ble_eq_true rfl) | exact rm2 hd (Nat.le_of_ble_eq_true rfl) | (dsimp only; (first | (law_clear; lia) | lia | omega)))) (by (first | exact ru1 hu (Nat.le_of_ble_eq_true rfl) | exact ru2 hu (Nat.le_of_ble_eq_true rfl) | (dsimp only; (first | (law_clear; lia) | lia | omega)))) ?_
      intro kQ kM
      rintro N36 tc ⟨inc, -, -, subc⟩ arc szc h36 tk36 F36 N36'
      clear F35 N35
      k_steps
      rename Fr _ _ _ _ => F37
      rename News _ _ _ _ => N37
      refine Tell.use (law_areas w n tc N36 szc inc) B2 F37 X2 N37 T2 rfl rfl (by (first | exact rm1 hd (Nat.le_of_ble_eq_true rfl) | exact rm2 hd (Nat.le_of_ble_eq_true rfl) | (dsimp only; (first | (law_clear; lia) | lia | omega)))) (by (first | exact ru1 hu (Nat.le_of_ble_eq_true rfl) | exact ru2 hu (Nat.le_of_ble_eq_true rfl) | (dsimp only; (first | (law_clear; lia) | lia | omega)))) ?_
      intro kQ kM
      intro N38 l38 its38 e38 hl38 har38 _ sub38 h38 tk38 F38 N38'
      clear F37 N37
      have up38 : ∀ q ∈ NS, q ∈ N38 := fun q hq => sub38 _ (subc _ (up33 _ hq))
      k_steps
      rename Fr _ _ _ _ => F39
      rename News _ _ _ _ => N39
      refine slice_led F39 N39 (up38 _ hnlS) (.int _ _) .none (pick_from _) ?_ (by with_unfolding_all rfl) (by kmk_pure) (by rw [sizeLine_eq]; (first | (law_clear; lia) | lia | omega))
      intro D40 h40 F40 N40 l40
      clear F39 N39
      (try dsimp only)
      k_steps
      rename Fr _ _ _ _ => F41
      rename News _ _ _ _ => N41
      refine slice_led F41 N41 (.tail _ (up38 _ hnlS)) .none (.int _ _) (pick_upto _) ?_ (by with_unfolding_all rfl) (by kmk_pure) (by rw [sizeLine_eq]; (first | (law_clear; lia) | lia | omega))
      intro D42 h42 F42 N42 l42
      clear F41 N41
      (try dsimp only)
      k_steps
      refine halt (add_led F42 N42 (.tail _ (.head _)) (.head _) (by simp only [List.length_drop, List.length_take, mn1, mn2]; rw [sizeLine_eq]; (first | (law_clear; lia) | lia | omega)) ?_)
      intro D43 h43 F43 N43 l43
      clear F42 N42
      (try dsimp only)
      k_steps
      rename Fr _ _ _ _ => F44
      rename News _ _ _ _ => N44
      have up44 : ∀ q ∈ NS, ∀ x y z, q ∈ x :: y :: z :: N38 := fun q hq _ _ _ => .tail _ (.tail _ (.tail _ (up38 _ hq)))
      have ups44 : ∀ q ∈ N38, ∀ x y z, q ∈ x :: y :: z :: N38 := fun q hq _ _ _ => .tail _ (.tail _ (.tail _ hq))
      refine Tell.use (law_numbered w _ al D43 its _ _ _ t.areas (rotL true t.panes) (up44 _ halS _ _ _) (hasS.all fun q hq => up44 q hq _ _ _) (.head _) ?_ (by rw [rotL_len]; (first | (law_clear; lia) | lia | omega))) B2 F44 X2 N44 T2 rfl rfl (by (first | exact rm1 hd (Nat.le_of_ble_eq_true rfl) | exact rm2 hd (Nat.le_of_ble_eq_true rfl) | (dsimp only; (first | (law_clear; lia) | lia | omega)))) (by (first | exact ru1 hu (Nat.le_of_ble_eq_true rfl) | exact ru2 hu (Nat.le_of_ble_eq_true rfl) | (dsimp only; (first | (law_clear; lia) | lia | omega)))) ?_
      · show IntsAre _ (t.panes.drop 1 ++ t.panes.take 1)
        exact (hys.drop _).append (hys.take _)
      intro kQ kM
      intro N45 l45 its45 e45 hl45 har45 _ sub45 h45 tk45 F45 N45'
      clear F44 N44
      rw [arc] at har38
      k_steps
      rename News _ _ _ _ => N46
      refine eq_areas N46 (sub45 _ (ups44 _ hl38 _ _ _)) hl45 (har38.all fun q hq => sub45 _ (ups44 _ hq _ _ _)) har45 (by ((try simp only [units_in1, units_deeper]); (try dsimp only); (first | (law_clear; lia) | lia | omega))) ?_
      k_steps
      exact ret _ (fun q hq e1 e2 => sub45 _ (up44 _ (up0 _ hq e1 e2) _ _ _)) _ _ (by k_asm) (by k_asm)
example : True := by
  k_with_none
  trivial
end
noncomputable def wipes (its N : Led) : Led := N.filter fun p => its.all fun q => p.1 != q.1
theorem wipes_off {its N : Led} : ∀ p ∈ wipes its N, ∀ q ∈ its, p.1 ≠ q.1 := by
  intro p hp q hq
  have := List.all_eq_true.mp (List.mem_filter.mp hp).2 q hq
  simpa using this
theorem mem_wipes {its N : Led} {p : Addr × Obj} (h : p ∈ N) (n : ∀ q ∈ its, p.1 ≠ q.1) : p ∈ wipes its N :=
  List.mem_filter.mpr ⟨h, List.all_eq_true.mpr fun q hq => by simpa using n q hq⟩
section
variable {prog : Program} {w : World} {A : Around} {E : Value → Shared → Prop} {s : Shared} {env : Env} {h₀ : Heap} {target : Expr} {body : List Stmt} {Q : Flow → Shared → Prop}
theorem PPost.intro {L : Addr} {its : Led} {S : List Str} {m₀ : Str → Option Value} {J : (Str → Option Value) → Led → Prop} {s₁ : Shared} {h' : Heap} {tk : Nat} {m' : Str → Option Value} {N : Led} (F : Fr h₀ L h' m') (N' : News h₀ L h' N) (hI : ∀ q ∈ its, q ∈ N)
    (hm : ∀ z, z ∉ S → m' z = m₀ z) (j : J m' (wipes its N)) :
    Halt (Ex4 fun h'' tk' m' N' => And6 (({ s₁ with heap := h', toks := tk } : Shared) = { s₁ with heap := h'', toks := tk' }) (Fr h₀ L h'' m') (News h₀ L h'' (its ++ N')) ((∀ p ∈ N', ∀ q ∈ its, p.1 ≠ q.1)) ((∀ z, z ∉ S → m' z = m₀ z)) (J m' N')) :=
  ⟨h', tk, m', wipes its N, rfl, F, fun p hp => (List.mem_append.mp hp).elim (fun h => N' _ (hI p h)) fun h => N' _ (List.mem_filter.mp h).1, wipes_off, hm, j⟩
theorem tup_led {L : Addr} {ax : Addr} {lo : Obj} {vs : List Value} {n : Nat} {m₀ : Str → Option Value} {news : Led}
    (F : Fr h₀ L s.heap m₀) (N : News h₀ L s.heap news) (hm : (ax, lo) ∈ news) (hL : env.locals = L) (hh : A.handled = none) (hc : lo.cls = .type "tuple") (hd : lo.data = .seq vs.toArray n)
    (S : List Str) (Inv : List (Option Value) → List Value → Led → Prop) (h0 : Inv (S.map m₀) vs news) (hin : ∀ a r N, Inv a r N → (ax, lo) ∈ N)
    (turn : ∀ a v r N its h tk, Inv a (v :: r) N → (∀ p ∈ N, ∀ q ∈ its, p.1 ≠ q.1) → Fr h₀ L h (ovl (S.zip a) m₀) → News h₀ L h (its ++ N) →
      wpAny (model prog w) A (assign target env v) (fun _ s₂ => wpAny (model prog w) A (execs body env) (PPost h₀ L { s with heap := h, toks := tk } S m₀ its (fun a N => Inv a r N) Q) E s₂) E { s with heap := h, toks := tk })
    (done : ∀ a N h tk, Inv a [] N → Fr h₀ L h (ovl (S.zip a) m₀) → News h₀ L h N → Q .next { s with heap := h, toks := tk }) :
    Halt (wpAny (model prog w) A (pyIter (.ref ax)) (fun it s₂ => TurnsAt prog w A h₀ env target body Q E it s₂) E s) := by
  subst hL
  refine iter_tupTurns hh F N hm hc hd fun I hI => ?_
  refine itemsRest_of rfl S m₀ (fun a xs N => ∃ r, xs = r.map Itm.val ∧ Inv a r N) (fun a r N h => ?_) ?_ ?_ _ m₀ news (fun _ _ => rfl) ⟨vs, rfl, h0⟩ ?_
  · refine letG ?_
    intro kG
    obtain ⟨r, _, h⟩ := h
    k_unfold
    clear kG
    exact ⟨hin _ _ _ h, trivial⟩
  · rintro a x r N v h tk its ⟨r', e, hI'⟩ hv hoff F' N'
    cases r' with
    | nil => simp at e
    | cons v' r' =>
      simp only [List.map_cons, List.cons.injEq] at e
      obtain ⟨rfl, rfl⟩ := e
      obtain rfl : v = v' := hv
      refine wpAny_mono (turn a v r' N its h tk hI' hoff F' N') (fun _ s₂ h₂ => wpAny_mono h₂ (fun f s₃ p => ?_) fun _ _ e => e) fun _ _ e => e
      cases f with
      | ret v => exact p
      | brk => exact p
      | next =>
        refine letG ?_
        intro kG
        obtain ⟨h', tk', m', N'', e, F'', N3, hne', hm', j⟩ := p
        k_unfold
        clear kG
        exact ⟨h', tk', m', N'', e, F'', N3, hne', hm', _, rfl, j⟩
      | cont =>
        refine letG ?_
        intro kG
        obtain ⟨h', tk', m', N'', e, F'', N3, hne', hm', j⟩ := p
        k_unfold
        clear kG
        exact ⟨h', tk', m', N'', e, F'', N3, hne', hm', _, rfl, j⟩
  · rintro a N h tk ⟨r', e, hI'⟩ F' N'
    cases r' with
    | nil => exact done a N h tk hI' F' N'
    | cons v' r' => simp at e
  · intro p hp q hq
    have := hI p hp
    rw [List.mem_singleton.mp hq]
    exact Nat.ne_of_lt this
end
namespace P
theorem AtP_mem {p x : Int} {B B' e e' : P} (a : AtP p B B' e e') : x ∈ B.panes → x ∈ e.panes := by
  induction a with
  | here => exact id
  | down h1 h2 h3 h4 ih =>
    intro h
    rw [panes_node h1, panesL_append, panesL]
    simp [ih h]
theorem leaf_mem {k : K} {w h wd ht p : Int} {dn rp : List P} (hk : k.isPane = false) : p ∈ (mk k w h (dn ++ leaf p wd ht :: rp)).panes := by
  rw [panes_node hk, panesL_append, panesL]
  simp [panes]
theorem Shut_mem {p : Int} {e e' : P} (s : Shut p e e') : p ∈ e.panes := by
  cases s with
  | many hk _ a => exact AtP_mem a (leaf_mem hk)
  | root hk => exact leaf_mem hk
  | two hg hk _ _ _ a =>
    refine AtP_mem a ?_
    rw [panes_node hg, panesL_append, panesL]
    simp [leaf_mem hk]
theorem split_leaf {p f a b wd ht m : Int} {r bb : Bool} {e e' : P} (s : Split p f r bb wd ht m e e') (he : leaf p a b = e) : wd = a ∧ ht = b ∧ e' = mk (sideK r) a b (two r bb p f a b m) := by
  cases s with
  | root =>
    injection he with e1 e2 e3
    subst e2 e3
    exact ⟨rfl, rfl, rfl⟩
  | same h =>
    have := AtP_kin h (sideK_pane r)
    rw [← he] at this
    cases this
  | deep h1 h2 h3 =>
    have := AtP_kin h3 h1
    rw [← he] at this
    cases this
theorem append_two {α : Type} {dn rp : List α} {x y z : α} (h : [x, y] = dn ++ z :: rp) : (dn = [] ∧ z = x ∧ rp = [y]) ∨ (dn = [x] ∧ z = y ∧ rp = []) := by
  match dn, h with
  | [], h => simp at h; exact .inl ⟨rfl, h.1.symm, h.2.symm⟩
  | [a], h => simp at h; exact .inr ⟨by rw [h.1], h.2.1.symm, h.2.2⟩
  | a :: b :: c, h => simp at h
theorem at_leaf {p q a b : Int} {B B' e' : P} (h : AtP p B B' (leaf q a b) e') (hb : B.kin.isPane = false) : False := by
  have := AtP_kin h hb
  cases this
theorem at_in_leaf {p q a b wd ht : Int} {B' e e' : P} (h : AtP p (leaf p wd ht) B' e e') (he : leaf q a b = e) : wd = a ∧ ht = b := by
  cases h with
  | here =>
    injection he with e1 e2 e3
    exact ⟨e2.symm, e3.symm⟩
  | down h1 =>
    injection he with e1 e2 e3 e4
    simp at e4
theorem at_in_row {wd ht : Int} {B' e e' : P} (h : AtP 5 (leaf 5 wd ht) B' e e') (he : mk .row 11 7 [leaf 4 5 7, leaf 5 5 7] = e) : wd = 5 ∧ ht = 7 := by
  cases h with
  | here =>
    injection he with e1
    cases e1
  | down h1 h2 h3 h4 =>
    injection he with e1 e2 e3 e4
    rcases append_two e4 with ⟨_, rfl, _⟩ | ⟨_, rfl, _⟩
    · exact at_in_leaf h4 rfl
    · exact at_in_leaf h4 rfl
theorem split_other {wd ht m : Int} {e e' : P} (s : Split 5 6 false false wd ht m e e') (he : mk .row 11 7 [leaf 4 5 7, leaf 5 5 7] = e) : wd = 5 ∧ ht = 7 ∧ e' = mk .row 11 7 [leaf 4 5 7, mk .col 5 7 (two false false 5 6 5 7 m)] := by
  cases s with
  | root =>
    injection he with e1
    cases e1
  | same h =>
    cases h with
    | here =>
      injection he with e1
      exact absurd e1 (by decide)
    | down h1 h2 h3 h4 =>
      injection he with e1 e2 e3 e4
      rcases append_two e4 with ⟨_, rfl, _⟩ | ⟨_, rfl, _⟩
      · exact (at_leaf h4 rfl).elim
      · exact (at_leaf h4 rfl).elim
  | deep hk hne h =>
    cases h with
    | here =>
      injection he with e1 e2 e3 e4
      rcases append_two e4 with ⟨rfl, e, rfl⟩ | ⟨rfl, e, rfl⟩
      · injection e with h1
        injection h1 with h1
        exact absurd h1 (by decide)
      · injection e with h1 h2 h3
        subst h2 h3 e1 e2 e3
        exact ⟨rfl, rfl, rfl⟩
    | down h1 h2 h3 h4 =>
      injection he with e1 e2 e3 e4
      rcases append_two e4 with ⟨_, rfl, _⟩ | ⟨_, rfl, _⟩
      · exact (at_leaf h4 hk).elim
      · exact (at_leaf h4 hk).elim
end P
namespace T
mutual
theorem leaves_pos : ∀ (t : T), t.er.G → ∀ q ∈ t.leaves, 1 ≤ q.wid ∧ 1 ≤ q.hei
  | mk a d l k w h x y ps, g, q, hq => by
    cases k with
    | pane p =>
      simp only [leaves, List.mem_singleton] at hq
      subst hq
      exact g.pos
    | row =>
      simp only [leaves] at hq
      rw [er] at g
      exact leavesL_pos ps (fun x hx => ((P.node_fit rfl).mp g).2.2.2.1 x hx |>.1) q hq
    | col =>
      simp only [leaves] at hq
      rw [er] at g
      exact leavesL_pos ps (fun x hx => ((P.node_fit rfl).mp g).2.2.2.1 x hx |>.1) q hq
theorem leavesL_pos : ∀ (ps : List T), (∀ x ∈ erL ps, x.G) → ∀ q ∈ leavesL ps, 1 ≤ q.wid ∧ 1 ≤ q.hei
  | [], _, q, hq => by simp [leavesL] at hq
  | p :: r, g, q, hq => by
    rw [leavesL] at hq
    rcases List.mem_append.mp hq with h | h
    · exact leaves_pos p (g _ (by simp [erL])) q h
    · exact leavesL_pos r (fun x hx => g x (by simp [erL, hx])) q h
end
theorem areas_pos {t : T} (g : t.er.G) : ∀ a ∈ t.areas, 1 ≤ a.w ∧ 1 ≤ a.h := by
  intro a ha
  rw [areas_eq] at ha
  refine letG ?_
  intro kG
  obtain ⟨q, hq, rfl⟩ := List.mem_map.mp ha
  k_unfold
  clear kG
  exact leaves_pos t g q hq
theorem areas_find {t c : T} {p : Int} (h : t.leaves.find? (fun q => decide (q.num = p)) = some c) : t.areas.find? (fun a => decide (a.pane = p)) = some c.area := by
  rw [areas_eq, List.find?_map]
  have : ((fun a : Area => decide (a.pane = p)) ∘ area) = fun q : T => decide (q.num = p) := rfl
  rw [this, h]
  rfl
end T
theorem other1 {w : World} {N N' : Led} {t : T} {v : Value} (ht : t.er = P.leaf 4 11 7) (h : SplitPost w N t 4 5 true .none false v N') :
    (∀ q ∈ N, q ∈ N') ∧ ∃ t' : T, v = .ref t'.adr ∧ t'.In w N' ∧ t'.At 0 0 ∧ t'.er = P.mk .row 11 7 [P.leaf 4 5 7, P.leaf 5 5 7] := by
  obtain ⟨sub, h⟩ := h
  refine ⟨sub, ?_⟩
  rw [ht] at h
  rcases h with ⟨_, h⟩ | ⟨t', wd, hh, m, rfl, ⟨hin, _⟩, hat, _, _, hm, _, s⟩
  · rcases h with h | h | ⟨wd, hh, a, hlt⟩
    · exact absurd (by simp [P.panes]) h
    · simp [P.panes] at h
    · obtain ⟨rfl, rfl⟩ := P.at_in_leaf a rfl
      simp at hlt
  · refine letG ?_
    intro kG
    obtain ⟨rfl, rfl, e⟩ := P.split_leaf s rfl
    k_unfold
    clear kG
    have hm := hm rfl
    have hm5 : m = 5 := by simp at hm; (first | (law_clear; lia) | lia | omega)
    subst hm5
    exact ⟨t', rfl, hin, hat, e⟩
theorem other2 {w : World} {N N' : Led} {t : T} {v : Value} (ht : t.er = P.mk .row 11 7 [P.leaf 4 5 7, P.leaf 5 5 7]) (h : SplitPost w N t 5 6 false .none false v N') :
    (∀ q ∈ N, q ∈ N') ∧ ∃ t' : T, v = .ref t'.adr ∧ t'.In w N' ∧ t'.At 0 0 ∧ t'.er = P.mk .row 11 7 [P.leaf 4 5 7, P.mk .col 5 7 [P.leaf 5 5 3, P.leaf 6 5 3]] := by
  obtain ⟨sub, h⟩ := h
  refine ⟨sub, ?_⟩
  rw [ht] at h
  rcases h with ⟨_, h⟩ | ⟨t', wd, hh, m, rfl, ⟨hin, _⟩, hat, _, _, hm, _, s⟩
  · rcases h with h | h | ⟨wd, hh, a, hlt⟩
    · exact absurd (by simp [P.panes, P.panesL]) h
    · simp [P.panes, P.panesL] at h
    · obtain ⟨rfl, rfl⟩ := P.at_in_row a rfl
      simp at hlt
  · refine letG ?_
    intro kG
    obtain ⟨rfl, rfl, e⟩ := P.split_other s rfl
    k_unfold
    clear kG
    have hm := hm rfl
    have hm3 : m = 3 := by simp at hm; (first | (law_clear; lia) | lia | omega)
    subst hm3
    exact ⟨t', rfl, hin, hat, e⟩
theorem other_areas {t : T} (hat : t.At 0 0) (he : t.er = P.mk .row 11 7 [P.leaf 4 5 7, P.mk .col 5 7 [P.leaf 5 5 3, P.leaf 6 5 3]]) : t.areas = [⟨4, 0, 0, 5, 7⟩, ⟨5, 6, 0, 5, 3⟩, ⟨6, 6, 4, 5, 3⟩] := by
  rw [T.areas_placed t 0 0 hat, he]
  simp [P.placed, P.placedL, P.wid, P.hei]
structure RootIn (w : World) (N : Led) (dk cl : Addr) (j : Nat) (i : Nat) (t : T) : Prop where
  tin : t.In w N
  tat : t.At 0 0
  good : t.er.G
  nd : t.er.panes.Nodup
  low : ∀ p ∈ t.er.panes, 0 ≤ p ∧ p ≤ (i : Int)
  wid : t.er.wid ≤ 100
  hei : t.er.hei ≤ 100
  sz : t.sz ≤ 1 + 2 * i
  odk : dk ∉ t.fp
  ocl : cl ∉ t.fp
  deck : DeckIn w N dk cl j
theorem DeckIn.adr {w : World} {N : Led} {dk cl : Addr} {j : Nat} (h : DeckIn w N dk cl j) : ∃ o o', (dk, o) ∈ N ∧ (cl, o') ∈ N := by
  refine letG ?_
  intro kG
  obtain ⟨o, tm, tt, mx, tu, its, e, h1, _, h3, _⟩ := h
  k_unfold
  clear kG
  exact ⟨o, _, h1, h3⟩
theorem DeckIn.all {w : World} {N N' : Led} {dk cl : Addr} {j : Nat} (h : DeckIn w N dk cl j) (s : ∀ p ∈ N, p ∈ N') : DeckIn w N' dk cl j := by
  refine letG ?_
  intro kG
  obtain ⟨o, tm, tt, mx, tu, cs, ce, h1, h2, h3, h4⟩ := h
  k_unfold
  clear kG
  exact ⟨o, tm, tt, mx, tu, cs, ce, s _ h1, h2, s _ h3, h4⟩
theorem T.In.past {w : World} {N N' : Led} {dk cl : Addr} {t : T} (h : t.In w N) (odk : dk ∉ t.fp) (ocl : cl ∉ t.fp) (s : ∀ p ∈ N, p.1 ≠ dk → p.1 ≠ cl → p ∈ N') : t.In w N' :=
  h.to fun _ ha _ ho => s _ ho (fun e => odk (e ▸ ha)) (fun e => ocl (e ▸ ha))
theorem DeckIn.wipe {w : World} {N : Led} {dk cl I : Addr} {j : Nat} (h : DeckIn w N dk cl j) (h1 : I ≠ dk) (h2 : I ≠ cl) : DeckIn w (wipe I N) dk cl j := by
  refine letG ?_
  intro kG
  obtain ⟨o, tm, tt, mx, tu, cs, ce, h3, h4, h5, h6⟩ := h
  k_unfold
  clear kG
  exact ⟨o, tm, tt, mx, tu, cs, ce, mem_wipe h3 (Ne.symm h1), h4, mem_wipe h5 (Ne.symm h2), h6⟩
theorem DeckIn.eq {w : World} {N : Led} {dk cl : Addr} {j k : Nat} (h : DeckIn w N dk cl j) (e : j = k) : DeckIn w N dk cl k := e ▸ h
theorem AreasAre.mem {N : Led} {v : Value} {vs : List Value} {as : List Area} (h : AreasAre N vs as) (hv : v ∈ vs) : Ex7 fun D t1 t2 t3 t4 t5 a => And3 (v = .ref D) ((D, tupA t1 t2 t3 t4 t5 a) ∈ N) (a ∈ as) := by
  induction h with
  | nil => cases hv
  | cons hm _ ih =>
    rcases List.mem_cons.mp hv with rfl | hv
    · exact ⟨_, _, _, _, _, _, _, rfl, hm, .head _⟩
    · refine letG ?_
      intro kG
      obtain ⟨D, t1, t2, t3, t4, t5, a, e, h1, h2⟩ := ih hv
      k_unfold
      clear kG
      exact ⟨D, t1, t2, t3, t4, t5, a, e, h1, .tail _ h2⟩
example : True := by
  k_with "subscriptTail" => (k_dflt (refine' item_tupleT ?t ?a ?b ?c ?d ?_; (case t => exact News.isTup (by k_asm) (by k_mem)); (case a => decide); (case b => decide); (case c => rfl); (case d => rfl); k_whole))
  k_with "exec For Name Tuple cons nil" => (k_dflt (refine For_turns (by k_asm) ?_))
  k_with "compareOp NotEq ref ref" => (refine halt ?_)
  k_with "compareOp Eq ref ref" => (refine halt ?_)
  trivial
local macro_rules | `(tactic| k_room) => `(tactic| ((try simp only [depth_deeper, depth_caller, recursionLimit] at *); (first | (law_clear; lia) | lia | omega)))
theorem lawHolds : PySem.Challenge.rw_og0246_01.Holds := hdO (by rfl) (by rfl) (by rfl) (by
  k_fill
  intro w s₀ s₁ mg mb G Y fa o pm cd doc dV kV ho hd hcd hD hmg hg args vals as hpre hlay hrd hwl hlo
  have KX := kIn_of Y
  have X := (Ground.X G).1
  have V := (Ground.X G).2
  have GL := glob_more (Ground.glob G (by decide +kernel) (by decide +kernel)) V
  refine Ground.open G ?_
  intro T B D TE TW
  refine guard_noD D (by decide +kernel) ?_
  clear D
  refine letG ?_
  intro kG
  obtain ⟨_, _, M⟩ := bmod_of_top T
  k_unfold
  clear kG
  have TA := at_of_top T
  refine letG ?_
  intro kG
  obtain ⟨_, _, he, B0⟩ := based_of_top T rfl hmg ho hd
  k_unfold
  clear kG
  have he' : cd = _ := he
  subst he'
  clear he
  clear hmg
  wrow_args hpre hlay hrd hwl hlo
  all_goals (
    first | refine callC_kw (enter_call ?_) | refine enter_call ?_
    w_top on
    try refine codeAny_mono ?_ (fun _ _ g => GoodW.toG g)
    have K0 := below_caller (Top.heap T)
    w_call any ho hd hcd hD T F
    clear hd TA
    k_drop
    skip)
  (all_goals (try (refine foldL ?_; intro kQ kE)))
  k_steps
  rename World => w
  rename Fr _ _ _ _ => F1
  rename News _ _ _ _ => N1
  rename Below _ _ _ _ => B2
  rename Frag.In _ _ => X2
  rename Top _ _ _ _ _ _ => T2
  rename IntsAre _ _ => hI
  rename ¬ _ < _ => hlen
  rename Heap.IsList _ _ _ => hL
  refine halt (law_deck _ [] _ _ (intsAre_mem hI) (by have := hI.length; (first | (law_clear; lia) | lia | omega)) _ _ _ _ _ _ _ _ _ _ _ _ _ _ _ _ hL B2 rfl rfl F1 X2 N1 T2 (Nat.le_of_ble_eq_true (by kernel_rfl)) (Nat.le_of_ble_eq_true (by kernel_rfl)) ?_)
  rintro r2 N2 h2 tk2 F2 N2' ⟨⟨dk, cl, rfl, hdk, -, -⟩, -⟩
  clear F1 N1
  k_steps
  rename Fr _ _ _ _ => F3
  rename News _ _ _ _ => N3
  refine Tell.use (law_draw w N2 dk cl 16 _ (by decide) (by decide) 0 (by decide) hdk) B2 F3 X2 N3 T2 rfl rfl (Nat.le_of_ble_eq_true (by kernel_rfl)) (Nat.le_of_ble_eq_true (by kernel_rfl)) ?_
  intro kQ kM
  intro N4 v1 tv1 hv1 hv1' hdk4 _ h4 tk4 F4 N4'
  clear F3 N3
  k_steps
  rename Fr _ _ _ _ => F5
  rename News _ _ _ _ => N5
  refine Tell.use (law_draw w N4 dk cl 11 _ (by decide) (by decide) 1 (by decide) hdk4) B2 F5 X2 N5 T2 rfl rfl (Nat.le_of_ble_eq_true (by kernel_rfl)) (Nat.le_of_ble_eq_true (by kernel_rfl)) ?_
  intro kQ kM
  intro N6 v2 tv2 hv2 hv2' hdk6 _ h6 tk6 F6 N6'
  clear F5 N5
  k_steps
  rename Fr _ _ _ _ => F7
  rename News _ _ _ _ => N7
  refine Tell.use (layout_leaf w 0 _ _ _ _ _ N6) B2 F7 X2 N7 T2 rfl rfl (Nat.le_of_ble_eq_true (by kernel_rfl)) (Nat.le_of_ble_eq_true (by kernel_rfl)) ?_
  intro kQ kM
  intro N8 a0 d0 l0 hin0 lt0 lt0' lt0'' sub8 h8 tk8 F8 N8'
  clear F7 N7
  have root0 : RootIn w N8 dk cl 2 0 (T.mk a0 d0 l0 (.pane 0) (3 + v1) (2 + v2) 0 0 []) := by
    refine letG ?_
    intro kG
    obtain ⟨o, o', h1, h2⟩ := hdk6.adr
    k_unfold
    clear kG
    have l1 := lt0 _ h1
    have l2 := lt0 _ h2
    have off : ∀ b : Addr, b < l0 → b ∉ (T.mk a0 d0 l0 (.pane 0) (3 + v1) (2 + v2) 0 0 []).fp := fun b hb h => by
      rw [T.fp, T.fpL] at h
      simp only [List.mem_cons, List.not_mem_nil, or_false] at h
      rcases h with rfl | rfl | rfl
      · exact Nat.lt_irrefl _ (Nat.lt_trans hb (Nat.lt_trans lt0' lt0''))
      · exact Nat.lt_irrefl _ (Nat.lt_trans hb lt0')
      · exact Nat.lt_irrefl _ hb
    refine ⟨hin0, ?_, ?_, ?_, ?_, ?_, ?_, ?_, off _ l1, off _ l2, ?_⟩
    · rw [T.At, T.AtL]; exact ⟨rfl, rfl, trivial⟩
    · rw [T.er, T.erL]; exact P.leaf_good (by (first | (law_clear; lia) | lia | omega)) (by (first | (law_clear; lia) | lia | omega))
    · rw [T.er, P.panes]; simp
    · intro p hp; rw [T.er, P.panes] at hp; simp at hp; (first | (law_clear; lia) | lia | omega)
    · rw [T.er]; simp only [P.wid]; (first | (law_clear; lia) | lia | omega)
    · rw [T.er]; simp only [P.hei]; (first | (law_clear; lia) | lia | omega)
    · rw [T.sz, T.szL]; (first | (law_clear; lia) | lia | omega)
    · refine letG ?_
      intro kG
      obtain ⟨o, tm, tt, mx, tu, cs, ce, h1, h2, h3, h4⟩ := hdk6
      k_unfold
      clear kG
      exact ⟨o, tm, tt, mx, tu, cs, ce, sub8 _ h1, h2, sub8 _ h3, h4⟩
  k_steps
  rename Fr _ _ _ _ => F9
  rename News _ _ _ _ => N9
  refine Tell.use (law_draw w N8 dk cl 6 _ (by decide) (by decide) 2 (by decide) root0.deck) B2 F9 X2 N9 T2 rfl rfl (Nat.le_of_ble_eq_true (by kernel_rfl)) (Nat.le_of_ble_eq_true (by kernel_rfl)) ?_
  intro kQ kM
  intro N10 v3 tv3 hv3 hv3' hdk10 sub10 h10 tk10 F10 N10'
  clear F9 N9
  have root1 : RootIn w N10 dk cl 3 0 (T.mk a0 d0 l0 (.pane 0) (3 + v1) (2 + v2) 0 0 []) :=
    { root0 with tin := root0.tin.to fun a ha o ho => sub10 _ ho (fun e => root0.odk (e ▸ ha)) (fun e => root0.ocl (e ▸ ha)), deck := hdk10 }
  obtain ⟨nn, rfl⟩ := Int.eq_ofNat_of_zero_le hv3
  k_steps
  rename IsRange _ _ _ _ _ _ _ _ => hr
  rename Fr _ _ _ _ => F11
  rename News _ _ _ _ => N11
  refine iter_rngS (n := nn) hr F11 N11 (range_small (a := 1) (n := nn) (by decide) (by decide) (by (first | (law_clear; lia) | lia | omega))) (range_size 1 nn) (by rfl) (by rfl) ["pane", "is_row", "size", "told", "root"] (fun av i N => Ex5 fun (u1 u2 u3 u4 : Option Value) (t : T) => av = [u1, u2, u3, u4, some (.ref t.adr)] ∧ RootIn w N dk cl (3 + 4 * i) i t)
    ⟨_, _, _, _, _, rfl, root1⟩ ?_ ?_
  · intro av i tk N I it h12 tk12 hi HI hne F12 N12
    (try (refine foldL ?_; intro kQ kE))
    refine letG ?_
    intro kG
    obtain ⟨u1, u2, u3, u4, t, rfl, rt⟩ := HI
    k_unfold
    clear kG
    clear F11 N11 hr
    refine letG ?_
    intro kG
    obtain ⟨odk, ocl, hdkm, hclm⟩ := rt.deck.adr
    k_unfold
    clear kG
    have hsz := rt.sz
    have hlv := T.leaves_len t
    have hlp : 1 ≤ t.leaves.length := by
      have := P.panes_pos t.er rt.good.1
      rw [T.panes_er, T.panes, List.length_map] at this
      exact this
    k_steps
    refine Tell.use (layout_leaves w 20 t _ (by (first | (law_clear; lia) | lia | omega)) (rt.tin.all fun p hp => .tail _ hp)) B2 F12 X2 N12 T2 rfl rfl (Nat.le_of_ble_eq_true (by kernel_rfl)) (Nat.le_of_ble_eq_true (by kernel_rfl)) ?_
    intro kQ kM
    intro N13 l2 e2 hl2 lt2 sub13 h13 tk13 F13 N13'
    clear F12 N12
    k_steps
    rename Fr _ _ _ _ => F14
    rename News _ _ _ _ => N14
    refine Tell.use (law_pick w N13 dk cl l2 _ e2 (3 + 4 * i) (by (first | (law_clear; lia) | lia | omega)) (rt.deck.all fun p hp => sub13 _ (.tail _ hp)) hl2 (Nat.ne_of_gt (lt2 _ (.tail _ hdkm))) (Nat.ne_of_gt (lt2 _ (.tail _ hclm))) (fun h => by
      simp only [List.map_eq_nil_iff] at h
      rw [h] at hlp
      simp at hlp) (by simp; (first | (law_clear; lia) | lia | omega))) B2 F14 X2 N14 T2 rfl rfl (Nat.le_of_ble_eq_true (by kernel_rfl)) (Nat.le_of_ble_eq_true (by kernel_rfl)) ?_
    intro kQ kM
    intro N15 r15 hr15 hdk15 sub15 h15 tk15 F15 N15'
    clear F14 N14
    refine letG ?_
    intro kG
    obtain ⟨qa, hqa, rfl⟩ := List.mem_map.mp hr15
    k_unfold
    clear kG
    refine letG ?_
    intro kG
    obtain ⟨q, hq, rfl⟩ := List.mem_map.mp hqa
    k_unfold
    clear kG
    have up15 : ∀ x ∈ (I, it) :: N, x.1 ≠ dk → x.1 ≠ cl → x ∈ N15 := fun x hx e1 e2 => sub15 _ (sub13 _ hx) e1 e2
    have hI1 : I ≠ dk := Ne.symm (hne _ hdkm)
    have hI2 : I ≠ cl := Ne.symm (hne _ hclm)
    have tin15 : t.In w N15 := (rt.tin.all (N' := (I, it) :: N) fun p hp => .tail _ hp).past rt.odk rt.ocl up15
    have hqp := T.leaves_pane t q hq
    unfold T.isPane at hqp
    refine letG ?_
    intro kG
    obtain ⟨s1, s2, s3, s4, s5, s6, s7, sk, sw, sh, sx, sy, sp, se, hq1, hq2, hq3⟩ := (T.leaves_in tin15 q hq).cell
    k_unfold
    clear kG
    rw [hqp] at hq2
    dsimp only [kindV, paneV] at hq2
    have hpin : q.num ∈ t.er.panes := by
      rw [T.panes_er, T.panes]
      exact List.mem_map.mpr ⟨q, hq, rfl⟩
    k_steps
    rename Fr _ _ _ _ => F16
    rename News _ _ _ _ => N16
    refine Tell.use (law_draw w N15 dk cl 2 _ (by decide) (by decide) _ (by (first | (law_clear; lia) | lia | omega)) hdk15) B2 F16 X2 N16 T2 rfl rfl (Nat.le_of_ble_eq_true (by kernel_rfl)) (Nat.le_of_ble_eq_true (by kernel_rfl)) ?_
    intro kQ kM
    intro N17 v4 tv4 hv4 hv4' hdk17 sub17 h17 tk17 F17 N17'
    clear F16 N16
    k_steps
    rename Fr _ _ _ _ => F18
    rename News _ _ _ (_ :: _) => N18
    rename ∀ p ∈ N17, p.1 < _ => lD
    refine letG ?_
    intro kG
    obtain ⟨odk17, ocl17, hdkm17, hclm17⟩ := hdk17.adr
    k_unfold
    clear kG
    refine Tell.use (law_pick w _ dk cl _ [.none, .none, .int 1 _, .int 2 _] 0 _ (by (first | (law_clear; lia) | lia | omega)) (hdk17.all fun p hp => .tail _ hp) (.head _) (Nat.ne_of_gt (lD _ hdkm17)) (Nat.ne_of_gt (lD _ hclm17)) (by first | exact mem_mid _ _ _ | exact .head _ | exact .tail _ (.head _) | exact .tail _ (.tail _ (.head _)) | simp) (by first | exact mem_mid _ _ _ | exact .head _ | exact .tail _ (.head _) | exact .tail _ (.tail _ (.head _)) | simp)) B2 F18 X2 N18 T2 rfl rfl (Nat.le_of_ble_eq_true (by kernel_rfl)) (Nat.le_of_ble_eq_true (by kernel_rfl)) ?_
    intro kQ kM
    intro N19 sv hr19 hdk19 sub19 h19 tk19 F19 N19'
    clear F18 N18
    have hsv : sv = .none ∨ ∃ s tk, sv = .int s tk := by
      simp only [List.mem_cons, List.not_mem_nil, or_false] at hr19
      rcases hr19 with h | h | h | h
      · exact .inl h
      · exact .inl h
      · exact .inr ⟨_, _, h⟩
      · exact .inr ⟨_, _, h⟩
    have hsvh : handedIn sv = true := by
      rcases hsv with h | ⟨_, _, h⟩ <;> rw [h] <;> rfl
    clear hr19
    k_steps
    rename Fr _ _ _ _ => F20
    rename News _ _ _ (_ :: _) => N20
    refine Tell.use (law_draw w _ dk cl 3 _ (by decide) (by decide) _ (by (first | (law_clear; lia) | lia | omega)) (hdk19.all fun p hp => .tail _ hp)) B2 F20 X2 N20 T2 rfl rfl (Nat.le_of_ble_eq_true (by kernel_rfl)) (Nat.le_of_ble_eq_true (by kernel_rfl)) ?_
    intro kQ kM
    intro N21 v5 tv5 hv5 hv5' hdk21 sub21 h21 tk21 F21 N21'
    clear F20 N20
    have up21 : ∀ x ∈ N15, x.1 ≠ dk → x.1 ≠ cl → x ∈ N21 := fun x hx e1 e2 => sub21 _ (.tail _ (sub19 _ (.tail _ (sub17 _ hx e1 e2)) e1 e2)) e1 e2
    have tin21 := tin15.past rt.odk rt.ocl up21
    have hit21 := up21 _ (up15 _ (.head _) hI1 hI2) hI1 hI2
    k_steps
    rename Fr _ _ _ _ => F22
    rename News _ _ _ _ => N22
    refine Tell.use (split_layout w 20 t N21 q.num (1 + (i : Int)) _ _ (v4 == 0) (v5 == 0) sv hsv (by (first | (law_clear; lia) | lia | omega)) tin21 rt.good.1 rt.nd) B2 F22 X2 N22 T2 rfl rfl (Nat.le_of_ble_eq_true (by kernel_rfl)) (Nat.le_of_ble_eq_true (by kernel_rfl)) ?_
    intro kQ kM
    rintro r23 N23 ⟨sub23, hr23⟩
    intro h23 tk23 F23 N23'
    clear F22 N22
    rcases hr23 with ⟨rfl, _⟩ | ⟨t', wd', ht', m', rfl, ⟨in', new', nd', _⟩, at', hm1, hm2, _, hf', spl⟩
    · k_steps
      rename Fr _ _ _ _ => F24
      rename News _ _ _ _ => N24
      refine LPostS.intro F24 N24 (sub23 _ hit21) ?_ ⟨_, _, _, _, t, rfl, ?_⟩
      · intro z hz1 hz2
        simp only [List.mem_cons, List.not_mem_nil, or_false, not_or] at hz2
        simp +zetaDelta [up, ovl, hz1, hz2]
      · exact { rt with
          tin := tin21.to fun a ha o ho => mem_wipe (sub23 _ ho) fun e => by
            obtain ⟨o', ho'⟩ := rt.tin.has a ha
            exact hne _ ho' e
          low := fun p hp => by have := rt.low p hp; (first | (law_clear; lia) | lia | omega)
          sz := by (first | (law_clear; lia) | lia | omega)
          deck := ((hdk21.all sub23).wipe hI1 hI2).eq (by (first | (law_clear; lia) | lia | omega)) }
    · k_steps
      rename Fr _ _ _ _ => F24
      rename News _ _ _ _ => N24
      have sg := P.Split_good spl rt.good hm1 hm2
      have ss := P.Split_sz spl
      rw [T.sz_er, T.sz_er] at ss
      refine letG ?_
      intro kG
      obtain ⟨od21, oc21, hdm21, hcm21⟩ := hdk21.adr
      k_unfold
      clear kG
      refine LPostS.intro F24 N24 (sub23 _ hit21) ?_ ⟨_, _, _, _, t', rfl, ?_⟩
      · intro z hz1 hz2
        simp only [List.mem_cons, List.not_mem_nil, or_false, not_or] at hz2
        simp +zetaDelta [up, ovl, hz1, hz2]
      · exact {
          tin := in'.to fun a ha o ho => mem_wipe ho fun e => new' a ha _ hit21 e.symm
          tat := at'
          good := sg.1
          nd := sg.2.2.2.nodup_iff.mpr (List.nodup_cons.mpr ⟨hf', rt.nd⟩)
          low := fun p hp => by
            rcases List.mem_cons.mp (sg.2.2.2.mem_iff.mp hp) with h | h
            · (first | (law_clear; lia) | lia | omega)
            · have := rt.low p h; (first | (law_clear; lia) | lia | omega)
          wid := by rw [sg.2.1]; exact rt.wid
          hei := by rw [sg.2.2.1]; exact rt.hei
          sz := by (first | (law_clear; lia) | lia | omega)
          odk := fun h => new' _ h _ hdm21 rfl
          ocl := fun h => new' _ h _ hcm21 rfl
          deck := ((hdk21.all sub23).wipe hI1 hI2).eq (by (first | (law_clear; lia) | lia | omega)) }
  · intro av u N h12 tk12 HI F12 N12
    (try (refine foldL ?_; intro kQ kE))
    refine letG ?_
    intro kG
    obtain ⟨u1, u2, u3, u4, t, rfl, rt⟩ := HI
    k_unfold
    clear kG
    clear F11 N11 hr
    have hsz := rt.sz
    have hszn : t.sz ≤ 20 := by (first | (law_clear; lia) | lia | omega)
    refine letG ?_
    intro kG
    obtain ⟨odk, ocl, hdkm, hclm⟩ := rt.deck.adr
    k_unfold
    clear kG
    have hap : t.areas.map Area.pane = t.panes := by rw [T.areas_eq, T.panes, List.map_map]; rfl
    have h5 : ∀ z : Int, 5 < z → z ∉ t.panes := fun z hz h => by
      have := rt.low z (by rw [T.panes_er]; exact h)
      (first | (law_clear; lia) | lia | omega)
    have hlp : 1 ≤ t.areas.length := by
      have := P.panes_pos t.er rt.good.1
      rw [T.panes_er, ← hap, List.length_map] at this
      exact this
    have hla : t.areas.length ≤ 20 := by
      have := T.leaves_len t
      rw [T.areas_eq, List.length_map]
      (first | (law_clear; lia) | lia | omega)
    k_steps
    refine Tell.use (law_areas w 20 t N hszn rt.tin) B2 F12 X2 N12 T2 rfl rfl (Nat.le_of_ble_eq_true (by kernel_rfl)) (Nat.le_of_ble_eq_true (by kernel_rfl)) ?_
    intro kQ kM
    intro N13 al its e13 hal har newal sub13 h13 tk13 F13 N13'
    clear F12 N12
    have hitl := har.length
    have hdk13 := rt.deck.all sub13
    k_steps
    rename Fr _ _ _ _ => F14
    rename News _ _ _ _ => N14
    refine Tell.use (law_pick w N13 dk cl al its e13 _ (by (first | (law_clear; lia) | lia | omega)) hdk13 hal (Ne.symm (newal _ hdkm)) (Ne.symm (newal _ hclm)) (fun h => by
      rw [h] at hitl
      simp at hitl
      (first | (law_clear; lia) | lia | omega)) (by (first | (law_clear; lia) | lia | omega))) B2 F14 X2 N14 T2 rfl rfl (Nat.le_of_ble_eq_true (by kernel_rfl)) (Nat.le_of_ble_eq_true (by kernel_rfl)) ?_
    intro kQ kM
    intro N15 r15 hr15 hdk15 sub15 h15 tk15 F15 N15'
    refine letG ?_
    intro kG
    obtain ⟨Dp, p1, p2, p3, p4, p5, ap, rfl, hDp, hapm⟩ := har.mem hr15
    k_unfold
    clear kG
    have tupNe : ∀ D o, o.cls = .type "tuple" → (D, o) ∈ N13 → D ≠ dk ∧ D ≠ cl := fun D o ho hm => by
      refine letG ?_
      intro kG
      obtain ⟨od, tm, tt, mx, tu, cs, ce, hd1, hd2, hd3, -⟩ := id hdk13
      k_unfold
      clear kG
      exact ⟨News.ne_of N14 hm hd1 (by rw [ho, StrD.cls hd2]; simp), News.ne_of N14 hm hd3 (by rw [ho]; simp)⟩
    clear F14 N14
    have tin15 : t.In w N15 := (rt.tin.all sub13).past rt.odk rt.ocl sub15
    have hal15 := sub15 _ hal (Ne.symm (newal _ hdkm)) (Ne.symm (newal _ hclm))
    have har15 : AreasAre N15 its t.areas := har.to fun D o ho hm => sub15 _ hm (tupNe D o ho hm).1 (tupNe D o ho hm).2
    have hDp15 := sub15 _ hDp (tupNe Dp _ rfl hDp).1 (tupNe Dp _ rfl hDp).2
    have hpin : ap.pane ∈ t.panes := by rw [← hap]; exact List.mem_map.mpr ⟨ap, hapm, rfl⟩
    k_steps
    rename Fr _ _ _ _ => F16
    rename News _ _ _ (_ :: _) => N16
    refine letG ?_
    intro kG
    obtain ⟨NF, N17, htu, subF⟩ := open_led0 N16
    k_unfold
    clear kG
    clear N16
    have tinF : t.In w NF := tin15.all subF
    have halF := subF _ hal15
    have harF := har15.all subF
    refine tup_led F16 N17 htu (by rfl) (by rfl) (by rfl) (by rfl) ["word"] (fun a r M => ∃ (u : Option Value), And3 (a = [u]) ((∀ v ∈ r, ∃ (wd : W4) (tw : Tok), v = .str wd.str tw)) (∀ q ∈ NF, q ∈ M))
      ⟨_, rfl, ?_, fun q hq => hq⟩ (fun a r M h => by obtain ⟨u, h1, h2, h3⟩ := h; exact h3 _ htu) ?_ ?_
    · intro v hv
      simp only [List.mem_cons, List.not_mem_nil, or_false] at hv
      rcases hv with rfl | rfl | rfl | rfl
      · exact ⟨.left, _, rfl⟩
      · exact ⟨.right, _, rfl⟩
      · exact ⟨.up, _, rfl⟩
      · exact ⟨.down, _, rfl⟩
    · intro a v r M is h18 tk18 HI off F18 N18
      (try (refine foldL ?_; intro kQ kE))
      refine letG ?_
      intro kG
      obtain ⟨u, rfl, hws, hM⟩ := HI
      k_unfold
      clear kG
      clear F16 N17
      refine letG ?_
      intro kG
      obtain ⟨wd, tw, rfl⟩ := hws v (.head _)
      k_unfold
      clear kG
      have upI : ∀ q ∈ NF, q ∈ is ++ M := fun q hq => List.mem_append_right _ (hM _ hq)
      k_steps
      rename Fr _ _ _ _ => F19
      rename News _ _ _ _ => N19
      refine Tell.use (neighbours w 20 t _ ap.pane _ wd _ hszn (tinF.all upI)) B2 F19 X2 N19 T2 rfl rfl (Nat.le_of_ble_eq_true (by kernel_rfl)) (Nat.le_of_ble_eq_true (by kernel_rfl)) ?_
      intro kQ kM
      rintro r20 N20 ⟨sub20, hr20⟩
      intro h20 tk20 F20 N20'
      rw [if_pos hpin] at hr20
      refine letG ?_
      intro kG
      obtain ⟨l20, n20, e20, c, rfl, hl20, hfind, hints20, -⟩ := hr20
      k_unfold
      clear kG
      clear F19 N19
      have up20 : ∀ q ∈ NF, q ∈ N20 := fun q hq => sub20 _ (upI _ hq)
      k_steps
      rename Fr _ _ _ _ => F21
      rename News _ _ _ _ => N21
      refine Tell.use (law_beside w N20 al its e13 t.areas c.area ap.pane _ wd _ (up20 _ halF) (harF.all up20) (by (first | (law_clear; lia) | lia | omega)) (T.areas_find hfind) (T.areas_pos rt.good)) B2 F21 X2 N21 T2 rfl rfl (Nat.le_of_ble_eq_true (by kernel_rfl)) (Nat.le_of_ble_eq_true (by kernel_rfl)) ?_
      intro kQ kM
      intro N22 l22 n22 e22 hl22 hints22 _ sub22 h22 tk22 F22 N22'
      clear F21 N21
      k_steps
      rename News _ _ _ _ => N23
      refine ne_ints N23 (sub22 _ hl20) hl22 hints20 hints22 (by simp only [units_deeper, units_caller]; decide) ?_
      rw [decide_eq_true rfl, Bool.not_true]
      have up22 : ∀ q ∈ NF, q ∈ N22 := fun q hq => sub22 _ (up20 _ hq)
      k_steps
      rename Fr _ _ _ _ => F24
      rename News _ _ _ _ => N24
      refine Tell.use (neighbours w 20 t N22 88 _ wd _ hszn (tinF.all up22)) B2 F24 X2 N24 T2 rfl rfl (Nat.le_of_ble_eq_true (by kernel_rfl)) (Nat.le_of_ble_eq_true (by kernel_rfl)) ?_
      intro kQ kM
      rintro r25 N25 ⟨sub25, hr25⟩
      intro h25 tk25 F25 N25'
      rw [if_neg (h5 88 (by decide))] at hr25
      subst hr25
      clear F24 N24
      k_steps
      rename Fr _ _ _ _ => F26
      rename News _ _ _ _ => N26
      refine PPost.intro F26 N26 (fun q hq => sub25 _ (sub22 _ (sub20 _ (List.mem_append_left _ hq)))) ?_ ⟨_, rfl, fun v hv => hws v (.tail _ hv), fun q hq => mem_wipes (sub25 _ (up22 _ hq)) (off _ (hM _ hq))⟩
      intro z hz
      simp only [List.mem_cons, List.not_mem_nil, or_false] at hz
      simp +zetaDelta [up, ovl, hz]
    · intro a M h18 tk18 HI F18 N18
      (try (refine foldL ?_; intro kQ kE))
      refine letG ?_
      intro kG
      obtain ⟨u, rfl, -, hM⟩ := HI
      k_unfold
      clear kG
      clear F16 N17
      have tinM := tinF.all hM
      have hdkM : DeckIn w M dk cl (3 + 4 * nn + 1) := (hdk15.all subF).all hM
      k_steps
      rename Fr _ _ _ _ => F19
      rename News _ _ _ _ => N19
      refine Tell.use (is_tiling w 20 t M hszn tinM rt.tat rt.good.1 rt.good.2) B2 F19 X2 N19 T2 rfl rfl (Nat.le_of_ble_eq_true (by kernel_rfl)) (Nat.le_of_ble_eq_true (by kernel_rfl)) ?_
      intro kQ kM
      intro N20 sub20 h20 tk20 F20 N20'
      clear F19 N19
      have up20 : ∀ q ∈ NF, q ∈ N20 := fun q hq => sub20 _ (hM _ hq)
      k_steps
      rename Fr _ _ _ _ => F21
      rename News _ _ _ _ => N21
      refine Tell.use (law_exchanged_right w 20 t N20 dk cl al its e13 (3 + 4 * nn + 1) hszn (tinM.all sub20) (up20 _ halF) (harF.all up20) (by (first | (law_clear; lia) | lia | omega)) (hdkM.all sub20) (h5 77 (by decide)) (fun h => by
        rw [← hap, List.map_eq_nil_iff] at h
        rw [h] at hlp
        simp at hlp) rt.odk rt.ocl (Ne.symm (newal _ hclm))) B2 F21 X2 N21 T2 rfl rfl (Nat.le_of_ble_eq_true (by kernel_rfl)) (Nat.le_of_ble_eq_true (by kernel_rfl)) ?_
      intro kQ kM
      intro N22 sub22 h22 tk22 F22 N22'
      clear F21 N21
      have tin22 : t.In w N22 := (tinM.all sub20).past rt.odk rt.ocl sub22
      have hal22 := sub22 _ (up20 _ halF) (Ne.symm (newal _ hdkm)) (Ne.symm (newal _ hclm))
      have har22 : AreasAre N22 its t.areas := har.to fun D o ho hm => by
        have h1 := tupNe D o ho hm
        exact sub22 _ (up20 _ (subF _ (sub15 _ hm h1.1 h1.2))) h1.1 h1.2
      have hwt : t.er.wid = t.wid := by cases t; rfl
      have hht : t.er.hei = t.hei := by cases t; rfl
      have hwid := rt.wid
      have hhei := rt.hei
      k_steps
      rename Fr _ _ _ _ => F23
      rename News _ _ _ _ => N23
      refine Tell.use (law_closed_right w 20 t N22 al its e13 ap.pane _ hszn tin22 rt.good rt.nd (by rw [T.panes_er]; exact hpin) (by (first | (law_clear; lia) | lia | omega)) (by (first | (law_clear; lia) | lia | omega)) hal22 har22) B2 F23 X2 N23 T2 rfl rfl (Nat.le_of_ble_eq_true (by kernel_rfl)) (Nat.le_of_ble_eq_true (by kernel_rfl)) ?_
      intro kQ kM
      intro N24 sub24 h24 tk24 F24 N24'
      clear F23 N23
      have tin24 := tin22.all sub24
      have hal24 := sub24 _ hal22
      have har24 := har22.all sub24
      k_steps
      rename Fr _ _ _ _ => F25
      rename News _ _ _ _ => N25
      refine Tell.use (layout_leaf w 4 11 7 _ _ _ N24) B2 F25 X2 N25 T2 rfl rfl (Nat.le_of_ble_eq_true (by kernel_rfl)) (Nat.le_of_ble_eq_true (by kernel_rfl)) ?_
      intro kQ kM
      intro N26 a1 d1 l1 in1 _ _ _ sub26 h26 tk26 F26 N26'
      clear F25 N25
      k_steps
      rename Fr _ _ _ _ => F27
      rename News _ _ _ _ => N27
      have er1 : (T.mk a1 d1 l1 (.pane 4) 11 7 0 0 []).er = P.leaf 4 11 7 := by rw [T.er, T.erL]
      have g1 : (P.leaf 4 11 7).G := P.leaf_good (by decide) (by decide)
      refine Tell.use (split_layout4 w 20 (T.mk a1 d1 l1 (.pane 4) 11 7 0 0 []) N26 4 5 _ _ true (by rw [T.sz, T.szL]; (first | (law_clear; lia) | lia | omega)) in1 (by rw [er1]; exact g1.1) (by rw [er1]; simp [P.panes])) B2 F27 X2 N27 T2 rfl rfl (Nat.le_of_ble_eq_true (by kernel_rfl)) (Nat.le_of_ble_eq_true (by kernel_rfl)) ?_
      intro kQ kM
      rintro r28 N28 ho1
      intro h28 tk28 F28 N28'
      clear F27 N27
      refine letG ?_
      intro kG
      obtain ⟨sub28, o1, rfl, ino1, ato1, ero1⟩ := other1 er1 ho1
      k_unfold
      clear kG
      clear ho1
      k_steps
      rename Fr _ _ _ _ => F29
      rename News _ _ _ _ => N29
      have og1 : (P.mk .row 11 7 [P.leaf 4 5 7, P.leaf 5 5 7]).Ok := by
        rw [P.Ok, P.OkL, P.OkL, P.OkL]
        exact ⟨⟨by decide, fun q hq => by simp at hq; rcases hq with rfl | rfl <;> simp [P.kin]⟩, (P.leaf_good (p := 4) (w := 5) (h := 7) (by decide) (by decide)).1, (P.leaf_good (p := 5) (w := 5) (h := 7) (by decide) (by decide)).1, trivial⟩
      refine Tell.use (split_layout4 w 20 o1 N28 5 6 _ _ false (by rw [← T.sz_er, ero1]; simp [P.sz, P.szL]) ino1 (by rw [ero1]; exact og1) (by rw [ero1]; simp [P.panes, P.panesL])) B2 F29 X2 N29 T2 rfl rfl (Nat.le_of_ble_eq_true (by kernel_rfl)) (Nat.le_of_ble_eq_true (by kernel_rfl)) ?_
      intro kQ kM
      rintro r30 N30 ho2
      intro h30 tk30 F30 N30'
      clear F29 N29
      refine letG ?_
      intro kG
      obtain ⟨sub30, o2, rfl, ino2, ato2, ero2⟩ := other2 ero1 ho2
      k_unfold
      clear kG
      clear ho2
      have sub26' : ∀ q ∈ N24, q ∈ N30 := fun q hq => sub30 _ (sub28 _ (sub26 _ hq))
      have aro := other_areas ato2 ero2
      have pno : o2.panes = [4, 5, 6] := by
        have : o2.areas.map Area.pane = o2.panes := by rw [T.areas_eq, T.panes, List.map_map]; rfl
        rw [← this, aro]
        rfl
      have so2 : o2.sz ≤ 20 := by rw [← T.sz_er, ero2]; simp [P.sz, P.szL]
      k_steps
      rename Fr _ _ _ _ => F31
      rename News _ _ _ _ => N31
      refine Tell.use (neighbours w 20 o2 N30 4 _ .right _ so2 ino2) B2 F31 X2 N31 T2 rfl rfl (Nat.le_of_ble_eq_true (by kernel_rfl)) (Nat.le_of_ble_eq_true (by kernel_rfl)) ?_
      intro kQ kM
      rintro r32 N32 ⟨sub32, hr32⟩
      intro h32 tk32 F32 N32'
      rw [if_pos (by rw [pno]; decide)] at hr32
      refine letG ?_
      intro kG
      obtain ⟨l32, n32, e32, c32, rfl, hl32, hf32, hints32, -⟩ := hr32
      k_unfold
      clear kG
      have hc32 := T.areas_find hf32
      rw [aro] at hc32
      have hc32' : c32.area = ⟨4, 0, 0, 5, 7⟩ := by simpa using hc32.symm
      rw [hc32', aro] at hints32
      have hints32' : IntsAre n32 [5, 6] := hints32
      clear F31 N31
      k_steps
      rename News _ _ _ (_ :: _) => N33
      refine ne_ints (ys := [.int 5 _, .int 6 _]) N33 (.tail _ hl32) (.head _) hints32' (.cons _ _ (.cons _ _ .nil)) (by simp only [units_deeper, units_caller]; decide) ?_
      rw [decide_eq_true rfl, Bool.not_true]
      k_steps
      rename Fr _ _ _ _ => F34
      rename News _ _ _ (_ :: _) => N34
      refine Tell.use (neighbours w 20 o2 _ 6 _ .left _ so2 (ino2.all fun q hq => .tail _ (sub32 _ hq))) B2 F34 X2 N34 T2 rfl rfl (Nat.le_of_ble_eq_true (by kernel_rfl)) (Nat.le_of_ble_eq_true (by kernel_rfl)) ?_
      intro kQ kM
      rintro r35 N35 ⟨sub35, hr35⟩
      intro h35 tk35 F35 N35'
      rw [if_pos (by rw [pno]; decide)] at hr35
      refine letG ?_
      intro kG
      obtain ⟨l35, n35, e35, c35, rfl, hl35, hf35, hints35, -⟩ := hr35
      k_unfold
      clear kG
      have hc35 := T.areas_find hf35
      rw [aro] at hc35
      have hc35' : c35.area = ⟨6, 6, 4, 5, 3⟩ := by simpa using hc35.symm
      rw [hc35', aro] at hints35
      have hints35' : IntsAre n35 [4] := hints35
      clear F34 N34
      have up35 : ∀ q ∈ N24, q ∈ N35 := fun q hq => sub35 _ (.tail _ (sub32 _ (sub26' _ hq)))
      k_steps
      rename News _ _ _ (_ :: _) => N36
      refine ne_ints (ys := [.int 4 _]) N36 (.tail _ hl35) (.head _) hints35' (.cons _ _ .nil) (by simp only [units_deeper, units_caller]; decide) ?_
      rw [decide_eq_true rfl, Bool.not_true]
      k_steps
      rename Fr _ _ _ _ => F37
      rename News _ _ _ (_ :: _) => N37
      refine Tell.use (close_pane w 20 t _ 99 _ hszn (tin24.all fun q hq => .tail _ (up35 _ hq)) rt.good.1 rt.nd ?_) B2 F37 X2 N37 T2 rfl rfl (Nat.le_of_ble_eq_true (by kernel_rfl)) (Nat.le_of_ble_eq_true (by kernel_rfl)) ?_
      · intro wd ht a
        have h1 := P.AtP_sub a rt.good
        have h2 := h1.1.pos
        have e1 : (P.leaf 99 wd ht).wid = wd := rfl
        have e2 : (P.leaf 99 wd ht).hei = ht := rfl
        rw [e1, e2] at h1 h2
        (first | (law_clear; lia) | lia | omega)
      intro kQ kM
      rintro r38 N38 ⟨sub38, hr38⟩
      intro h38 tk38 F38 N38'
      obtain rfl : r38 = .none := by
        rcases hr38 with ⟨h, _⟩ | ⟨t', _, _, _, sh⟩
        · exact h
        · exact absurd (by rw [← T.panes_er]; exact P.Shut_mem sh) (h5 99 (by decide))
      clear F37 N37
      have up38 : ∀ q ∈ N24, q ∈ N38 := fun q hq => sub38 _ (.tail _ (up35 _ hq))
      k_steps
      rename Fr _ _ _ _ => F39
      rename News _ _ _ _ => N39
      refine Tell.use (law_areas w 20 t N38 hszn (tin24.all up38)) B2 F39 X2 N39 T2 rfl rfl (Nat.le_of_ble_eq_true (by kernel_rfl)) (Nat.le_of_ble_eq_true (by kernel_rfl)) ?_
      intro kQ kM
      intro N40 l40 n40 e40 hl40 har40 _ sub40 h40 tk40 F40 N40'
      clear F39 N39
      k_steps
      rename News _ _ _ _ => N41
      refine eq_areas N41 hl40 (sub40 _ (up38 _ hal24)) har40 (har24.all fun q hq => sub40 _ (up38 _ hq)) (by simp only [units_deeper, units_caller]; decide) ?_
      k_steps)
end Mine
theorem PySem.Challenge.cw_og0246_01_holds : PySem.Challenge.rw_og0246_01.Holds :=
  Mine.lawHolds
