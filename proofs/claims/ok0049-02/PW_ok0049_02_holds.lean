import PyProof.Rows.All
import Wide.All
import OpenK.AllK
import Wide.FinOn
import PyProof.AttrMissHeap
import PySem.Challenge.RW_ok0049_02
open PySem PySem.W PySem.Calls PyProof.Rows PySem.Spec PyProof.V
set_option Elab.async false
set_option linter.unusedVariables false
set_option maxRecDepth 100000
set_option maxHeartbeats 8000000
namespace Lap

/-! the head -/
noncomputable def fnO (i : Nat) (m : Value) (c : Addr) : Obj :=
  match PySem.Challenge.pw_ok0049_02.main.body.drop i with
  | .FunctionDef n ps b _ _ _ sc _ _ _ :: _ => { cls := .type "function", data := .func { name := n, qualname := n, params := ps, body := .stmts b, scope := sc, globals := 3, closure := [], defaults := .none, kwdefaults := .none, pyModule := m, code := .ref c } }
  | _ => { cls := .none, data := .dict #[] }
noncomputable def heapK (P : Params) : Frag :=
  [(nat_lit 2, { cls := Value.none, data := Data.dict #[] }),
   (nat_lit 3, { cls := Value.type "dict", data := Data.dict #[{ hash := PyData.keyHash P (Str.ofString "__name__"), key := Value.str (Str.ofString "__name__") 165, val := Value.str (Str.ofString "law_ok0049_02") 443 }, { hash := PyData.keyHash P (Str.ofString "__doc__"), key := Value.str (Str.ofString "__doc__") 166, val := Value.none }, { hash := PyData.keyHash P (Str.ofString "__package__"), key := Value.str (Str.ofString "__package__") 167, val := Value.none }, { hash := PyData.keyHash P (Str.ofString "__loader__"), key := Value.str (Str.ofString "__loader__") 168, val := Value.builtin "__main__.__loader__#opaque" }, { hash := PyData.keyHash P (Str.ofString "__spec__"), key := Value.str (Str.ofString "__spec__") 169, val := Value.none }, { hash := PyData.keyHash P (Str.ofString "__annotations__"), key := Value.str (Str.ofString "__annotations__") 170, val := Value.ref 6 }, { hash := PyData.keyHash P (Str.ofString "__builtins__"), key := Value.str (Str.ofString "__builtins__") 171, val := Value.ref 4 }, { hash := PyData.keyHash P (Str.ofString "__file__"), key := Value.str (Str.ofString "__file__") 173, val := Value.str (Str.ofString "/claim/cut.py") 172 }, { hash := PyData.keyHash P (Str.ofString "__cached__"), key := Value.str (Str.ofString "__cached__") 174, val := Value.none }, { hash := PyData.keyHash P (Str.ofString "CONSTANT"), key := Value.str (Str.ofString "CONSTANT") 190, val := Value.str (Str.ofString "constant") 189 }, { hash := PyData.keyHash P (Str.ofString "SYMBOL"), key := Value.str (Str.ofString "SYMBOL") 192, val := Value.str (Str.ofString "symbol") 191 }, { hash := PyData.keyHash P (Str.ofString "COUNT"), key := Value.str (Str.ofString "COUNT") 194, val := Value.str (Str.ofString "count") 193 }, { hash := PyData.keyHash P (Str.ofString "PLACE"), key := Value.str (Str.ofString "PLACE") 196, val := Value.str (Str.ofString "place") 195 }, { hash := PyData.keyHash P (Str.ofString "PLAIN"), key := Value.str (Str.ofString "PLAIN") 198, val := Value.str (Str.ofString "plain") 197 }, { hash := PyData.keyHash P (Str.ofString "NONE"), key := Value.str (Str.ofString "NONE") 200, val := Value.str (Str.ofString "none") 199 }, { hash := PyData.keyHash P (Str.ofString "ENDS"), key := Value.str (Str.ofString "ENDS") 203, val := Value.ref 15 }, { hash := PyData.keyHash P (Str.ofString "ROWS"), key := Value.str (Str.ofString "ROWS") 343, val := Value.ref 16 }, { hash := PyData.keyHash P (Str.ofString "is_jump"), key := Value.str (Str.ofString "is_jump") 350, val := Value.ref 47 }, { hash := PyData.keyHash P (Str.ofString "label_places"), key := Value.str (Str.ofString "label_places") 363, val := Value.ref 54 }, { hash := PyData.keyHash P (Str.ofString "assembled"), key := Value.str (Str.ofString "assembled") 374, val := Value.ref 61 }, { hash := PyData.keyHash P (Str.ofString "met_places"), key := Value.str (Str.ofString "met_places") 384, val := Value.ref 68 }, { hash := PyData.keyHash P (Str.ofString "labelled"), key := Value.str (Str.ofString "labelled") 396, val := Value.ref 75 }, { hash := PyData.keyHash P (Str.ofString "labels_used"), key := Value.str (Str.ofString "labels_used") 406, val := Value.ref 82 }, { hash := PyData.keyHash P (Str.ofString "without_unused"), key := Value.str (Str.ofString "without_unused") 412, val := Value.ref 87 }, { hash := PyData.keyHash P (Str.ofString "line_behind"), key := Value.str (Str.ofString "line_behind") 420, val := Value.ref 94 }, { hash := PyData.keyHash P (Str.ofString "label_lines"), key := Value.str (Str.ofString "label_lines") 431, val := Value.ref 101 }, { hash := PyData.keyHash P (Str.ofString "lines_error"), key := Value.str (Str.ofString "lines_error") 442, val := Value.ref 108 }, { hash := PyData.keyHash P (Str.ofString "_law_draw"), key := Value.str (Str.ofString "_law_draw") 452, val := Value.ref 115 }, { hash := PyData.keyHash P (Str.ofString "_law_pick"), key := Value.str (Str.ofString "_law_pick") 460, val := Value.ref 122 }, { hash := PyData.keyHash P (Str.ofString "_law_lines"), key := Value.str (Str.ofString "_law_lines") 472, val := Value.ref 129 }, { hash := PyData.keyHash P (Str.ofString "_law_behind"), key := Value.str (Str.ofString "_law_behind") 478, val := Value.ref 134 }, { hash := PyData.keyHash P (Str.ofString "_law_faulty"), key := Value.str (Str.ofString "_law_faulty") 484, val := Value.ref 139 }, { hash := PyData.keyHash P (Str.ofString "law"), key := Value.str (Str.ofString "law") 490, val := Value.ref 144 }] 33 }),
   (nat_lit 15, { cls := Value.type "tuple", data := Data.seq #[Value.str (Str.ofString "goto") 201, Value.str (Str.ofString "return") 202] }),
   (nat_lit 16, { cls := Value.type "dict", data := Data.dict #[{ hash := PyData.keyHash P (Str.ofString "const"), key := Value.str (Str.ofString "const") 204, val := Value.ref 17 }, { hash := PyData.keyHash P (Str.ofString "varref"), key := Value.str (Str.ofString "varref") 210, val := Value.ref 18 }, { hash := PyData.keyHash P (Str.ofString "varset"), key := Value.str (Str.ofString "varset") 216, val := Value.ref 19 }, { hash := PyData.keyHash P (Str.ofString "varbind"), key := Value.str (Str.ofString "varbind") 222, val := Value.ref 20 }, { hash := PyData.keyHash P (Str.ofString "unbind"), key := Value.str (Str.ofString "unbind") 228, val := Value.ref 21 }, { hash := PyData.keyHash P (Str.ofString "dup"), key := Value.str (Str.ofString "dup") 234, val := Value.ref 22 }, { hash := PyData.keyHash P (Str.ofString "discard"), key := Value.str (Str.ofString "discard") 240, val := Value.ref 23 }, { hash := PyData.keyHash P (Str.ofString "stackref"), key := Value.str (Str.ofString "stackref") 246, val := Value.ref 24 }, { hash := PyData.keyHash P (Str.ofString "call"), key := Value.str (Str.ofString "call") 252, val := Value.ref 25 }, { hash := PyData.keyHash P (Str.ofString "plain"), key := Value.str (Str.ofString "plain") 258, val := Value.ref 26 }, { hash := PyData.keyHash P (Str.ofString "return"), key := Value.str (Str.ofString "return") 264, val := Value.ref 27 }, { hash := PyData.keyHash P (Str.ofString "goto"), key := Value.str (Str.ofString "goto") 270, val := Value.ref 28 }, { hash := PyData.keyHash P (Str.ofString "gotoifnil"), key := Value.str (Str.ofString "gotoifnil") 276, val := Value.ref 29 }, { hash := PyData.keyHash P (Str.ofString "gotoifnonnil"), key := Value.str (Str.ofString "gotoifnonnil") 282, val := Value.ref 30 }, { hash := PyData.keyHash P (Str.ofString "gotoifnilelsepop"), key := Value.str (Str.ofString "gotoifnilelsepop") 288, val := Value.ref 31 }, { hash := PyData.keyHash P (Str.ofString "gotoifnonnilelsepop"), key := Value.str (Str.ofString "gotoifnonnilelsepop") 294, val := Value.ref 32 }, { hash := PyData.keyHash P (Str.ofString "pushcatch"), key := Value.str (Str.ofString "pushcatch") 300, val := Value.ref 33 }, { hash := PyData.keyHash P (Str.ofString "pushcondition"), key := Value.str (Str.ofString "pushcondition") 306, val := Value.ref 35 }, { hash := PyData.keyHash P (Str.ofString "pophandler"), key := Value.str (Str.ofString "pophandler") 311, val := Value.ref 36 }, { hash := PyData.keyHash P (Str.ofString "protect"), key := Value.str (Str.ofString "protect") 317, val := Value.ref 37 }, { hash := PyData.keyHash P (Str.ofString "saveexcursion"), key := Value.str (Str.ofString "saveexcursion") 322, val := Value.ref 38 }, { hash := PyData.keyHash P (Str.ofString "saverestriction"), key := Value.str (Str.ofString "saverestriction") 327, val := Value.ref 39 }, { hash := PyData.keyHash P (Str.ofString "savecurrentbuffer"), key := Value.str (Str.ofString "savecurrentbuffer") 332, val := Value.ref 40 }] 23 }),
   (nat_lit 17, { cls := Value.type "tuple", data := Data.seq #[Value.str (Str.ofString "constant") 189, Value.int 0 205, Value.int 1 206, Value.int 0 207, Value.int 0 208] }),
   (nat_lit 18, { cls := Value.type "tuple", data := Data.seq #[Value.str (Str.ofString "symbol") 191, Value.int 0 211, Value.int 1 212, Value.int 0 213, Value.int 0 214] }),
   (nat_lit 19, { cls := Value.type "tuple", data := Data.seq #[Value.str (Str.ofString "symbol") 191, Value.int 1 217, Value.int 0 218, Value.int 0 219, Value.int 0 220] }),
   (nat_lit 20, { cls := Value.type "tuple", data := Data.seq #[Value.str (Str.ofString "symbol") 191, Value.int 1 223, Value.int 0 224, Value.int 1 225, Value.int 0 226] }),
   (nat_lit 21, { cls := Value.type "tuple", data := Data.seq #[Value.str (Str.ofString "count") 193, Value.int 0 229, Value.int 0 230, Value.int 0 231, Value.int 0 232] }),
   (nat_lit 22, { cls := Value.type "tuple", data := Data.seq #[Value.str (Str.ofString "none") 199, Value.int 1 235, Value.int 2 236, Value.int 0 237, Value.int 0 238] }),
   (nat_lit 23, { cls := Value.type "tuple", data := Data.seq #[Value.str (Str.ofString "none") 199, Value.int 1 241, Value.int 0 242, Value.int 0 243, Value.int 0 244] }),
   (nat_lit 24, { cls := Value.type "tuple", data := Data.seq #[Value.str (Str.ofString "count") 193, Value.int 0 247, Value.int 1 248, Value.int 0 249, Value.int 0 250] }),
   (nat_lit 25, { cls := Value.type "tuple", data := Data.seq #[Value.str (Str.ofString "count") 193, Value.int 0 253, Value.int 0 254, Value.int 0 255, Value.int 0 256] }),
   (nat_lit 26, { cls := Value.type "tuple", data := Data.seq #[Value.str (Str.ofString "plain") 197, Value.int 0 259, Value.int 0 260, Value.int 0 261, Value.int 0 262] }),
   (nat_lit 27, { cls := Value.type "tuple", data := Data.seq #[Value.str (Str.ofString "none") 199, Value.int 1 265, Value.int 0 266, Value.int 0 267, Value.int 0 268] }),
   (nat_lit 28, { cls := Value.type "tuple", data := Data.seq #[Value.str (Str.ofString "place") 195, Value.int 0 271, Value.int 0 272, Value.int 0 273, Value.int 0 274] }),
   (nat_lit 29, { cls := Value.type "tuple", data := Data.seq #[Value.str (Str.ofString "place") 195, Value.int 1 277, Value.int 0 278, Value.int 0 279, Value.int 0 280] }),
   (nat_lit 30, { cls := Value.type "tuple", data := Data.seq #[Value.str (Str.ofString "place") 195, Value.int 1 283, Value.int 0 284, Value.int 0 285, Value.int 0 286] }),
   (nat_lit 31, { cls := Value.type "tuple", data := Data.seq #[Value.str (Str.ofString "place") 195, Value.int 1 289, Value.int 0 290, Value.int 0 291, Value.int 0 292] }),
   (nat_lit 32, { cls := Value.type "tuple", data := Data.seq #[Value.str (Str.ofString "place") 195, Value.int 1 295, Value.int 0 296, Value.int 0 297, Value.int 0 298] }),
   (nat_lit 33, { cls := Value.type "tuple", data := Data.seq #[Value.str (Str.ofString "place") 195, Value.int 1 301, Value.int 0 302, Value.int 0 303, Value.int 1 304] }),
   (nat_lit 35, { cls := Value.type "tuple", data := Data.seq #[Value.str (Str.ofString "place") 195, Value.int 1 307, Value.int 0 308, Value.int 0 309, Value.int 1 310] }),
   (nat_lit 36, { cls := Value.type "tuple", data := Data.seq #[Value.str (Str.ofString "none") 199, Value.int 0 312, Value.int 0 313, Value.int 0 314, Value.int (-1) 316] }),
   (nat_lit 37, { cls := Value.type "tuple", data := Data.seq #[Value.str (Str.ofString "none") 199, Value.int 2 318, Value.int 1 319, Value.int 0 320, Value.int 0 321] }),
   (nat_lit 38, { cls := Value.type "tuple", data := Data.seq #[Value.str (Str.ofString "none") 199, Value.int 0 323, Value.int 0 324, Value.int 1 325, Value.int 0 326] }),
   (nat_lit 39, { cls := Value.type "tuple", data := Data.seq #[Value.str (Str.ofString "none") 199, Value.int 0 328, Value.int 0 329, Value.int 1 330, Value.int 0 331] }),
   (nat_lit 40, { cls := Value.type "tuple", data := Data.seq #[Value.str (Str.ofString "none") 199, Value.int 0 333, Value.int 0 334, Value.int 1 335, Value.int 0 336] }),
   (nat_lit 46, { cls := Value.type "code", data := Data.fields #[Value.str (Str.ofString "is_jump") 344, Value.str (Str.ofString "is_jump") 345, Value.str (Str.ofString "/claim/cut.py") 346, Value.int 10 0, Value.int 1 0, Value.int 0 0, Value.int 0 0, Value.int 3 0, Value.ref 41, Value.bool true, Value.int 181 0, Value.ref 42, Value.none, Value.ref 43, Value.ref 44, Value.ref 45, Value.int 348 0, Value.int 10 0, Value.str (Str.ofString "/claim/cut.py") 349] }),
   (nat_lit 47, fnO 9 (Value.str (Str.ofString "emacs.bytecode") 187) 46),
   (nat_lit 53, { cls := Value.type "code", data := Data.fields #[Value.str (Str.ofString "label_places") 353, Value.str (Str.ofString "label_places") 354, Value.str (Str.ofString "/claim/cut.py") 355, Value.int 13 0, Value.int 1 0, Value.int 0 0, Value.int 0 0, Value.int 3 0, Value.ref 48, Value.bool true, Value.int 181 0, Value.ref 49, Value.none, Value.ref 50, Value.ref 51, Value.ref 52, Value.int 361 0, Value.int 13 0, Value.str (Str.ofString "/claim/cut.py") 362] }),
   (nat_lit 54, fnO 11 (Value.str (Str.ofString "emacs.lap") 351) 53),
   (nat_lit 60, { cls := Value.type "code", data := Data.fields #[Value.str (Str.ofString "assembled") 364, Value.str (Str.ofString "assembled") 365, Value.str (Str.ofString "/claim/cut.py") 366, Value.int 22 0, Value.int 1 0, Value.int 0 0, Value.int 0 0, Value.int 3 0, Value.ref 55, Value.bool true, Value.int 181 0, Value.ref 56, Value.none, Value.ref 57, Value.ref 58, Value.ref 59, Value.int 372 0, Value.int 22 0, Value.str (Str.ofString "/claim/cut.py") 373] }),
   (nat_lit 61, fnO 12 (Value.str (Str.ofString "emacs.lap") 351) 60),
   (nat_lit 67, { cls := Value.type "code", data := Data.fields #[Value.str (Str.ofString "met_places") 375, Value.str (Str.ofString "met_places") 376, Value.str (Str.ofString "/claim/cut.py") 377, Value.int 29 0, Value.int 1 0, Value.int 0 0, Value.int 0 0, Value.int 3 0, Value.ref 62, Value.bool true, Value.int 181 0, Value.ref 63, Value.none, Value.ref 64, Value.ref 65, Value.ref 66, Value.int 382 0, Value.int 29 0, Value.str (Str.ofString "/claim/cut.py") 383] }),
   (nat_lit 68, fnO 13 (Value.str (Str.ofString "emacs.lap") 351) 67),
   (nat_lit 74, { cls := Value.type "code", data := Data.fields #[Value.str (Str.ofString "labelled") 385, Value.str (Str.ofString "labelled") 386, Value.str (Str.ofString "/claim/cut.py") 387, Value.int 35 0, Value.int 1 0, Value.int 0 0, Value.int 0 0, Value.int 3 0, Value.ref 69, Value.bool true, Value.int 181 0, Value.ref 70, Value.none, Value.ref 71, Value.ref 72, Value.ref 73, Value.int 394 0, Value.int 35 0, Value.str (Str.ofString "/claim/cut.py") 395] }),
   (nat_lit 75, fnO 14 (Value.str (Str.ofString "emacs.lap") 351) 74),
   (nat_lit 81, { cls := Value.type "code", data := Data.fields #[Value.str (Str.ofString "labels_used") 397, Value.str (Str.ofString "labels_used") 398, Value.str (Str.ofString "/claim/cut.py") 399, Value.int 43 0, Value.int 1 0, Value.int 0 0, Value.int 0 0, Value.int 3 0, Value.ref 76, Value.bool true, Value.int 181 0, Value.ref 77, Value.none, Value.ref 78, Value.ref 79, Value.ref 80, Value.int 404 0, Value.int 43 0, Value.str (Str.ofString "/claim/cut.py") 405] }),
   (nat_lit 82, fnO 15 (Value.str (Str.ofString "emacs.lap") 351) 81),
   (nat_lit 86, { cls := Value.type "code", data := Data.fields #[Value.str (Str.ofString "without_unused") 407, Value.str (Str.ofString "without_unused") 408, Value.str (Str.ofString "/claim/cut.py") 409, Value.int 49 0, Value.int 1 0, Value.int 0 0, Value.int 0 0, Value.int 3 0, Value.ref 83, Value.bool true, Value.int 181 0, Value.ref 84, Value.none, Value.none, Value.none, Value.ref 85, Value.int 410 0, Value.int 49 0, Value.str (Str.ofString "/claim/cut.py") 411] }),
   (nat_lit 87, fnO 16 (Value.str (Str.ofString "emacs.lap") 351) 86),
   (nat_lit 93, { cls := Value.type "code", data := Data.fields #[Value.str (Str.ofString "line_behind") 413, Value.str (Str.ofString "line_behind") 414, Value.str (Str.ofString "/claim/cut.py") 415, Value.int 52 0, Value.int 2 0, Value.int 0 0, Value.int 0 0, Value.int 3 0, Value.ref 88, Value.bool true, Value.int 181 0, Value.ref 89, Value.none, Value.ref 90, Value.ref 91, Value.ref 92, Value.int 418 0, Value.int 52 0, Value.str (Str.ofString "/claim/cut.py") 419] }),
   (nat_lit 94, fnO 17 (Value.str (Str.ofString "emacs.lap") 351) 93),
   (nat_lit 100, { cls := Value.type "code", data := Data.fields #[Value.str (Str.ofString "label_lines") 421, Value.str (Str.ofString "label_lines") 422, Value.str (Str.ofString "/claim/cut.py") 423, Value.int 56 0, Value.int 1 0, Value.int 0 0, Value.int 0 0, Value.int 3 0, Value.ref 95, Value.bool true, Value.int 181 0, Value.ref 96, Value.none, Value.ref 97, Value.ref 98, Value.ref 99, Value.int 429 0, Value.int 56 0, Value.str (Str.ofString "/claim/cut.py") 430] }),
   (nat_lit 101, fnO 18 (Value.str (Str.ofString "emacs.lap") 351) 100),
   (nat_lit 107, { cls := Value.type "code", data := Data.fields #[Value.str (Str.ofString "lines_error") 432, Value.str (Str.ofString "lines_error") 433, Value.str (Str.ofString "/claim/cut.py") 434, Value.int 62 0, Value.int 1 0, Value.int 0 0, Value.int 0 0, Value.int 3 0, Value.ref 102, Value.bool true, Value.int 181 0, Value.ref 103, Value.none, Value.ref 104, Value.ref 105, Value.ref 106, Value.int 440 0, Value.int 62 0, Value.str (Str.ofString "/claim/cut.py") 441] }),
   (nat_lit 108, fnO 19 (Value.str (Str.ofString "emacs.lap") 351) 107),
   (nat_lit 114, { cls := Value.type "code", data := Data.fields #[Value.str (Str.ofString "_law_draw") 445, Value.str (Str.ofString "_law_draw") 446, Value.str (Str.ofString "/claim/cut.py") 447, Value.int 79 0, Value.int 2 0, Value.int 0 0, Value.int 0 0, Value.int 3 0, Value.ref 109, Value.bool true, Value.int 181 0, Value.ref 110, Value.none, Value.ref 111, Value.ref 112, Value.ref 113, Value.int 450 0, Value.int 79 0, Value.str (Str.ofString "/claim/cut.py") 451] }),
   (nat_lit 115, fnO 21 (Value.str (Str.ofString "law_ok0049_02") 443) 114),
   (nat_lit 121, { cls := Value.type "code", data := Data.fields #[Value.str (Str.ofString "_law_pick") 453, Value.str (Str.ofString "_law_pick") 454, Value.str (Str.ofString "/claim/cut.py") 455, Value.int 84 0, Value.int 2 0, Value.int 0 0, Value.int 0 0, Value.int 3 0, Value.ref 116, Value.bool true, Value.int 181 0, Value.ref 117, Value.none, Value.ref 118, Value.ref 119, Value.ref 120, Value.int 458 0, Value.int 84 0, Value.str (Str.ofString "/claim/cut.py") 459] }),
   (nat_lit 122, fnO 22 (Value.str (Str.ofString "law_ok0049_02") 443) 121),
   (nat_lit 128, { cls := Value.type "code", data := Data.fields #[Value.str (Str.ofString "_law_lines") 461, Value.str (Str.ofString "_law_lines") 462, Value.str (Str.ofString "/claim/cut.py") 463, Value.int 86 0, Value.int 1 0, Value.int 0 0, Value.int 0 0, Value.int 3 0, Value.ref 123, Value.bool true, Value.int 181 0, Value.ref 124, Value.none, Value.ref 125, Value.ref 126, Value.ref 127, Value.int 470 0, Value.int 86 0, Value.str (Str.ofString "/claim/cut.py") 471] }),
   (nat_lit 129, fnO 23 (Value.str (Str.ofString "law_ok0049_02") 443) 128),
   (nat_lit 133, { cls := Value.type "code", data := Data.fields #[Value.str (Str.ofString "_law_behind") 473, Value.str (Str.ofString "_law_behind") 474, Value.str (Str.ofString "/claim/cut.py") 475, Value.int 97 0, Value.int 2 0, Value.int 0 0, Value.int 0 0, Value.int 3 0, Value.ref 130, Value.bool true, Value.int 181 0, Value.ref 131, Value.none, Value.none, Value.none, Value.ref 132, Value.int 476 0, Value.int 97 0, Value.str (Str.ofString "/claim/cut.py") 477] }),
   (nat_lit 134, fnO 24 (Value.str (Str.ofString "law_ok0049_02") 443) 133),
   (nat_lit 138, { cls := Value.type "code", data := Data.fields #[Value.str (Str.ofString "_law_faulty") 479, Value.str (Str.ofString "_law_faulty") 480, Value.str (Str.ofString "/claim/cut.py") 481, Value.int 100 0, Value.int 2 0, Value.int 0 0, Value.int 0 0, Value.int 3 0, Value.ref 135, Value.bool true, Value.int 181 0, Value.ref 136, Value.none, Value.none, Value.none, Value.ref 137, Value.int 482 0, Value.int 100 0, Value.str (Str.ofString "/claim/cut.py") 483] }),
   (nat_lit 139, fnO 25 (Value.str (Str.ofString "law_ok0049_02") 443) 138),
   (nat_lit 143, { cls := Value.type "code", data := Data.fields #[Value.str (Str.ofString "law") 485, Value.str (Str.ofString "law") 486, Value.str (Str.ofString "/claim/cut.py") 487, Value.int 112 0, Value.int 1 0, Value.int 0 0, Value.int 0 0, Value.int 3 0, Value.ref 140, Value.bool true, Value.int 181 0, Value.ref 141, Value.none, Value.none, Value.none, Value.ref 142, Value.int 488 0, Value.int 112 0, Value.str (Str.ofString "/claim/cut.py") 489] }),
   (nat_lit 144, fnO 26 (Value.str (Str.ofString "law_ok0049_02") 443) 143)]
noncomputable def heapA : List Addr := [nat_lit 2, nat_lit 3, nat_lit 15, nat_lit 16, nat_lit 17, nat_lit 18, nat_lit 19, nat_lit 20, nat_lit 21, nat_lit 22, nat_lit 23, nat_lit 24, nat_lit 25, nat_lit 26, nat_lit 27, nat_lit 28, nat_lit 29, nat_lit 30, nat_lit 31, nat_lit 32, nat_lit 33, nat_lit 35, nat_lit 36, nat_lit 37, nat_lit 38, nat_lit 39, nat_lit 40, nat_lit 46, nat_lit 47, nat_lit 53, nat_lit 54, nat_lit 60, nat_lit 61, nat_lit 67, nat_lit 68, nat_lit 74, nat_lit 75, nat_lit 81, nat_lit 82, nat_lit 86, nat_lit 87, nat_lit 93, nat_lit 94, nat_lit 100, nat_lit 101, nat_lit 107, nat_lit 108, nat_lit 114, nat_lit 115, nat_lit 121, nat_lit 122, nat_lit 128, nat_lit 129, nat_lit 133, nat_lit 134, nat_lit 138, nat_lit 139, nat_lit 143, nat_lit 144]
theorem heapA_eq (P : Params) : heapA = (heapK P).map (·.1) := rfl
abbrev viewQ : Program := view PySem.Challenge.pw_ok0049_02 [1, 2, 3, 4, 5, 6, 7, 8, 9, 11, 12, 13, 14, 15, 16, 17, 18, 19, 21, 22, 23, 24, 25, 26]

theorem left_of_boot {p q : Program} {loose : List Str} {Xt : Shared → Bool} {α : Type} {Yf : Shared → α} {Ya : World → α} {N : Nat} (row : String)
    (e : opening p = plainProg p.main.scope.names) (hN : Nat.ble 600 N = true) (f : ∀ s, fenceModules? p s = some s)
    (h : ∀ (b : Bool) (w : World) (os : OsState), (topFrom treeTable p (w.withFollow row b) N ⟨boot_heap (w.withFollow row b).params, #[], boot_drawn, boot_toks, os⟩).map (fun s => (openSeen q loose (importedModules p.main.body) Xt true s, Yf s)) =
      some (openGood q loose, Ya (w.withFollow row b))) : LeftO p q loose Xt Yf Ya N := by
  intro w
  obtain ⟨⟨hp, gs, d, k, os⟩, a, b⟩ := Option.map_eq_some_iff.mp (boot_open e hN f w)
  obtain ⟨rfl, rfl, rfl, rfl⟩ : hp = boot_heap w.params ∧ gs = #[] ∧ d = boot_drawn ∧ k = boot_toks := by simpa using b
  unfold openEnds
  rw [a]
  have := h (w.params.followText row) w os
  rw [World.withFollow_self] at this
  exact this

noncomputable abbrev xtK : Shared → Bool := fun s => xlAt viewQ [] s && recOk (RowW.records PySem.Challenge.rw_ok0049_02.row.toRowW) s
def TopAt (b : Bool) : Prop := ∀ (w : World) (os : OsState), (topFrom treeTable PySem.Challenge.pw_ok0049_02 (w.withFollow "special-get-raises" b) 2610 ⟨boot_heap (w.withFollow "special-get-raises" b).params, #[], boot_drawn, boot_toks, os⟩).map
  (fun s => (openSeen viewQ [Str.ofString "ROWS"] (importedModules PySem.Challenge.pw_ok0049_02.main.body) xtK true s, (kHook heapK heapA heapA_eq).obs s)) = some (openGood viewQ [Str.ofString "ROWS"], (kHook heapK heapA heapA_eq).val (w.withFollow "special-get-raises" b))
theorem top_f : TopAt false := by unfold TopAt; intro w os; kernel_rfl
theorem top_t : TopAt true := by unfold TopAt; intro w os; kernel_rfl
theorem top_left : LeftO PySem.Challenge.pw_ok0049_02 viewQ [Str.ofString "ROWS"] xtK (kHook heapK heapA heapA_eq).obs (kHook heapK heapA heapA_eq).val 2610 :=
  left_of_boot "special-get-raises" (by kernel_rfl) (by decide) (fun _ => by kernel_rfl) fun b => by
    cases b
    · exact top_f
    · exact top_t
theorem hd (d : DefRec) (kwd : List (Str × Expr)) (hdef : defOf viewQ PySem.Challenge.rw_ok0049_02.row.name = some (d, kwd)) (hp : PySem.Challenge.rw_ok0049_02.row.prog.theDef PySem.Challenge.rw_ok0049_02.row.name = some (d.params, d.body, d.scope)) (hk : kwWritten? d.params.kwonlyargs d.params.kw_defaults = some kwd)
    (h : WalkO viewQ [Str.ofString "ROWS"] (XL viewQ []) (kHook heapK heapA heapA_eq).says PySem.Challenge.rw_ok0049_02.row.toRowW d kwd fun f vs => PySem.call f vs) : PySem.Challenge.rw_ok0049_02.Holds :=
  holds_law (by kernel_rfl) fun said => holds_open (q := viewQ) (loose := [Str.ofString "ROWS"]) (Xt := xtK) (XP := XL viewQ []) (Yf := (kHook heapK heapA heapA_eq).obs) (Ya := (kHook heapK heapA heapA_eq).val) (YP := (kHook heapK heapA heapA_eq).says) (N := 2610)
    top_left (Hook.of (kHook heapK heapA heapA_eq)) (Hook.keeps (kHook heapK heapA heapA_eq)) (fun s e => xl_of s (Bool.and_eq_true_iff.mp e).1) XL.keeps hdef hp hk (fun s e => recFacts_of (Bool.and_eq_true_iff.mp e).2) rfl said (by decide +kernel) ⟨rfl, rfl, rfl, rfl, rfl, by decide +kernel⟩
    ⟨[.list []], by decide +kernel, by decide +kernel⟩ h

/-! part L1 -/

inductive D where
  | none
  | bool (b : Bool)
  | int (i : Int)
  | str (x : Str)
  | list (l : List D)
  | tup (l : List D)
  | dict (l : List (Int × D))
  | deck (k : Nat)

structure Wd where
  prog : Program
  w : World
  hb : Heap
  main : ∃ o, hb.get? mainNs = some o
  mg : Str → Option Value
  mb : Str → Option Value
  hg : hb.Ns mainGlobals mg
  hbb : hb.Ns builtinsNs mb
  lim : hb.NoLimit
  root : Nat → Addr
  da : List Addr
  Δ : Type
  rel : Heap → Δ → Prop
  stable : ∀ h h' δ, (∀ a ∈ da, ∀ o, h.get? a = some o → h'.get? a = some o) → rel h δ → rel h' δ

mutual
inductive Rep (W : Wd) (H : List Addr) (h : Heap) : Value → D → Prop
  | none : Rep W H h Value.none D.none
  | bool (b : Bool) : Rep W H h (.bool b) (.bool b)
  | int (i : Int) (t : Tok) : Rep W H h (.int i t) (.int i)
  | str (x : Str) (t : Tok) : Rep W H h (.str x t) (.str x)
  | list {a : Addr} {vs : List Value} {ds : List D} : a ∉ H → PlainL h a vs.toArray → RepAll W H h vs ds → Rep W H h (.ref a) (.list ds)
  | tup {a : Addr} {vs : List Value} {ds : List D} : a ∉ H → IsTup h a vs.toArray → RepAll W H h vs ds → Rep W H h (.ref a) (.tup ds)
  | dict {a : Addr} {kvs : List (Int × Value)} {ds : List (Int × D)} : a ∉ H → (a == sysModules) = false → h.DictOf (intKind W.prog W.w) a kvs → kvs.map (·.1) = ds.map (·.1) →
      RepAll W H h (kvs.map (·.2)) (ds.map (·.2)) → Rep W H h (.ref a) (.dict ds)
  | deck (k : Nat) : Rep W H h (.ref (W.root k)) (.deck k)
inductive RepAll (W : Wd) (H : List Addr) (h : Heap) : List Value → List D → Prop
  | nil : RepAll W H h [] []
  | cons {v : Value} {vs : List Value} {d : D} {ds : List D} : Rep W H h v d → RepAll W H h vs ds → RepAll W H h (v :: vs) (d :: ds)
end

section
variable {W : Wd} {H : List Addr} {h : Heap} {v : Value}
theorem rep_int {i : Int} (r : Rep W H h v (.int i)) : ∃ t, v = .int i t := by cases r; exact ⟨_, rfl⟩
theorem rep_list {ds : List D} (r : Rep W H h v (.list ds)) : ∃ a vs, v = .ref a ∧ a ∉ H ∧ PlainL h a (List.toArray vs) ∧ RepAll W H h vs ds := by cases r; exact ⟨_, _, rfl, ‹_›, ‹_›, ‹_›⟩
theorem rep_tup {ds : List D} (r : Rep W H h v (.tup ds)) : ∃ a vs, v = .ref a ∧ a ∉ H ∧ IsTup h a (List.toArray vs) ∧ RepAll W H h vs ds := by cases r; exact ⟨_, _, rfl, ‹_›, ‹_›, ‹_›⟩
theorem rep_dict {ds : List (Int × D)} (r : Rep W H h v (.dict ds)) : ∃ a kvs, v = .ref a ∧ (a == sysModules) = false ∧ h.DictOf (intKind W.prog W.w) a kvs ∧ kvs.map (·.1) = ds.map (·.1) ∧ RepAll W H h (kvs.map (·.2)) (ds.map (·.2)) := by cases r; exact ⟨_, _, rfl, ‹_›, ‹_›, ‹_›, ‹_›⟩
theorem reps_one {vs : List Value} {d : D} (r : RepAll W H h vs [d]) : ∃ v, vs = [v] ∧ Rep W H h v d := by
  cases r with
  | cons a b => cases b; exact ⟨_, rfl, a⟩
end

def Trans (H : List Addr) (h : Heap) (H' : List Addr) (h' : Heap) : Prop := ∀ b o, h.get? b = some o → b ∉ H → h'.get? b = some o ∧ b ∉ H'

theorem Trans.refl {H h} : Trans H h H h := fun _ _ e n => ⟨e, n⟩
theorem Trans.trans {H h H' h' H'' h''} (x : Trans H h H' h') (y : Trans H' h' H'' h'') : Trans H h H'' h'' := fun b o e n => let ⟨a, c⟩ := x b o e n; y b o a c

section
variable {W : Wd} {H H' : List Addr} {h h' : Heap}
theorem isList_at {h h' : Heap} {a : Addr} {items : Array Value} (x : h.IsList a items) (e : ∀ o, h.get? a = some o → h'.get? a = some o) : h'.IsList a items := let ⟨o, ho, r⟩ := x; ⟨o, e _ ho, r⟩
theorem plainL_at {h h' : Heap} {a : Addr} {items : Array Value} (x : PlainL h a items) (e : ∀ o, h.get? a = some o → h'.get? a = some o) : PlainL h' a items := let ⟨o, n, ho, r⟩ := x; ⟨o, n, e _ ho, r⟩
theorem isTup_at {h h' : Heap} {a : Addr} {items : Array Value} (x : IsTup h a items) (e : ∀ o, h.get? a = some o → h'.get? a = some o) : IsTup h' a items := let ⟨o, ho, r⟩ := x; ⟨o, e _ ho, r⟩
theorem dictOf_at {h h' : Heap} {a : Addr} {kvs : List (Int × Value)} (x : h.DictOf (intKind W.prog W.w) a kvs) (e : ∀ o, h.get? a = some o → h'.get? a = some o) : h'.DictOf (intKind W.prog W.w) a kvs :=
  let ⟨o, es, ep, ho, r⟩ := x; ⟨o, es, ep, e _ ho, r⟩
mutual
theorem Rep.mono (T : Trans H h H' h') : ∀ {v : Value} {d : D}, Rep W H h v d → Rep W H' h' v d
  | _, _, .none => .none
  | _, _, .bool b => .bool b
  | _, _, .int i t => .int i t
  | _, _, .str x t => .str x t
  | _, _,   .list n l r => .list (let ⟨_, _, ho, _⟩ := l; (T _ _ ho n).2) (plainL_at l fun o e => (T _ _ e n).1) (RepAll.mono T r)
  | _, _, .tup n l r => .tup (let ⟨_, ho, _⟩ := l; (T _ _ ho n).2) (isTup_at l fun o e => (T _ _ e n).1) (RepAll.mono T r)
  | _, _, .dict n s l k r => .dict (let ⟨_, _, _, ho, _⟩ := l; (T _ _ ho n).2) s (dictOf_at l fun o e => (T _ _ e n).1) k (RepAll.mono T r)
  | _, _, .deck k => .deck k
theorem RepAll.mono (T : Trans H h H' h') : ∀ {vs : List Value} {ds : List D}, RepAll W H h vs ds → RepAll W H' h' vs ds
  | _, _, .nil => .nil
  | _, _, .cons a r => .cons (Rep.mono T a) (RepAll.mono T r)
end
theorem RepAll.length : ∀ {vs : List Value} {ds : List D}, RepAll W H h vs ds → vs.length = ds.length
  | _, _, .nil => rfl
  | _, _, .cons _ r => by rw [List.length_cons, List.length_cons, r.length]
theorem RepAll.append : ∀ {vs ws : List Value} {ds es : List D}, RepAll W H h vs ds → RepAll W H h ws es → RepAll W H h (vs ++ ws) (ds ++ es)
  | _, _, _, _, .nil, k => k
  | _, _, _, _, .cons a r, k => .cons a (r.append k)
theorem RepAll.get : ∀ {vs : List Value} {ds : List D} {k : Nat} {d : D}, RepAll W H h vs ds → ds[k]? = some d → ∃ v, vs[k]? = some v ∧ Rep W H h v d
  | _, _, _, _, .nil, hk => by simp at hk
  | _, _, 0, _, .cons a r, hk => ⟨_, rfl, by simp at hk; exact hk ▸ a⟩
  | _, _, k + 1, _, .cons a r, hk => r.get (k := k) (by simpa using hk)
theorem RepAll.get' : ∀ {vs : List Value} {ds : List D} {k : Nat} {v : Value}, RepAll W H h vs ds → vs[k]? = some v → ∃ d, ds[k]? = some d ∧ Rep W H h v d
  | _, _, _, _, .nil, hk => by simp at hk
  | _, _, 0, _, .cons a r, hk => ⟨_, rfl, by simp at hk; exact hk ▸ a⟩
  | _, _, k + 1, _, .cons a r, hk => r.get' (k := k) (by simpa using hk)
theorem RepAll.take : ∀ {vs : List Value} {ds : List D} (k : Nat), RepAll W H h vs ds → RepAll W H h (vs.take k) (ds.take k)
  | _, _, _, .nil => by simp; exact .nil
  | _, _, 0, .cons a r => .nil
  | _, _, k + 1, .cons a r => .cons a (r.take k)
theorem RepAll.drop : ∀ {vs : List Value} {ds : List D} (k : Nat), RepAll W H h vs ds → RepAll W H h (vs.drop k) (ds.drop k)
  | _, _, _, .nil => by simp; exact .nil
  | _, _, 0, .cons a r => .cons a r
  | _, _, k + 1, .cons a r => r.drop k
end

/-- the state as the whole of the call sees it -/
structure GS (W : Wd) (H : List Addr) (δ : W.Δ) (s : Shared) : Prop where
  base : ∀ b o, W.hb.get? b = some o → s.heap.get? b = some o ∧ b ∉ H
  deck : W.rel s.heap δ
  dh : ∀ a ∈ W.da, a ∈ H
  hex : ∀ a ∈ H, ∃ o, s.heap.get? a = some o

def Like (s s' : Shared) : Prop := s'.gens = s.gens ∧ s'.drawn = s.drawn ∧ s'.os = s.os
theorem Like.refl {s} : Like s s := ⟨rfl, rfl, rfl⟩
theorem Like.trans {s s' s''} (x : Like s s') (y : Like s' s'') : Like s s'' := ⟨y.1.trans x.1, y.2.1.trans x.2.1, y.2.2.trans x.2.2⟩

/-- nothing that stood is changed -/
def KeepA (s s' : Shared) : Prop := Like s s' ∧ ∀ b o, s.heap.get? b = some o → s'.heap.get? b = some o
/-- nothing that stood is changed but the deck's -/
def KeepX (W : Wd) (s s' : Shared) : Prop := Like s s' ∧ ∀ b o, s.heap.get? b = some o → b ∉ W.da → s'.heap.get? b = some o
theorem KeepA.refl {s} : KeepA s s := ⟨.refl, fun _ _ e => e⟩
theorem KeepA.tok {s : Shared} {n} : KeepA s { s with toks := n } := ⟨.refl, fun _ _ e => e⟩
theorem KeepA.trans {s s' s''} (x : KeepA s s') (y : KeepA s' s'') : KeepA s s'' := ⟨x.1.trans y.1, fun b o e => y.2 b o (x.2 b o e)⟩
theorem KeepA.x {W s s'} (k : KeepA s s') : KeepX W s s' := ⟨k.1, fun b o e _ => k.2 b o e⟩
theorem KeepX.refl {W s} : KeepX W s s := ⟨.refl, fun _ _ e _ => e⟩
theorem KeepX.trans {W s s' s''} (x : KeepX W s s') (y : KeepX W s' s'') : KeepX W s s'' := ⟨x.1.trans y.1, fun b o e n => y.2 b o (x.2 b o e n) n⟩
theorem KeepA.push {s : Shared} {o : Obj} {n : Nat} : KeepA s { s with heap := s.heap.push o, toks := n } := ⟨.refl, fun _ _ e => Heap.get?_push_of_some _ e⟩

section
variable {W : Wd} {H : List Addr} {δ : W.Δ} {s s' : Shared} {v : Value} {d : D}
theorem KeepX.tr (k : KeepX W s s') (G : GS W H δ s) : Trans H s.heap H s'.heap := fun b o e n => ⟨k.2 b o e fun m => n (G.dh b m), n⟩
theorem KeepA.tr (k : KeepA s s') : Trans H s.heap H s'.heap := fun b o e n => ⟨k.2 b o e, n⟩
theorem GS.keep (G : GS W H δ s) (k : KeepA s s') : GS W H δ s' :=
  ⟨fun b o e => ⟨k.2 b o (G.base b o e).1, (G.base b o e).2⟩, W.stable _ _ _ (fun a _ o e => k.2 a o e) G.deck, G.dh, fun a m => let ⟨o, e⟩ := G.hex a m; ⟨o, k.2 a o e⟩⟩
theorem GS.fresh (G : GS W H δ s) : s.heap.objs.size ∉ H := fun m => let ⟨_, e⟩ := G.hex _ m; Nat.lt_irrefl _ (Heap.lt_size e)
theorem GS.big (G : GS W H δ s) : (s.heap.objs.size == sysModules) = false := by
  obtain ⟨o, e⟩ := W.main
  have := Heap.lt_size (G.base _ _ e).1
  have h3 : (sysModules : Nat) ≤ mainNs := by decide
  apply beq_eq_false_iff_ne.mpr
  intro e2
  rw [e2] at this
  exact absurd (Nat.lt_of_le_of_lt h3 this) (Nat.lt_irrefl _)
theorem fresh_none {h : Heap} : h.get? h.objs.size = Option.none := by
  cases e : h.get? h.objs.size with
  | none => rfl
  | some o => exact absurd (Heap.lt_size e) (Nat.lt_irrefl _)
end

inductive Ent where
  | val (d : D)
  | own (a : Addr) (d : D)

def EntIs (W : Wd) (H : List Addr) (h : Heap) : Ent → Value → Prop
  | .val d, v => Rep W H h v d
  | .own a (.list ds), v => v = .ref a ∧ ∃ vs : List Value, PlainL h a vs.toArray ∧ RepAll W H h vs ds
  | .own a (.dict ds), v => v = .ref a ∧ (a == sysModules) = false ∧ ∃ kvs : List (Int × Value), h.DictOf (intKind W.prog W.w) a kvs ∧ kvs.map (·.1) = ds.map (·.1) ∧ RepAll W H h (kvs.map (·.2)) (ds.map (·.2))
  | .own _ _, _ => False

theorem EntIs.mono {W : Wd} {H H' : List Addr} {h h' : Heap} (T : Trans H h H' h') {e : Ent} {v : Value} (x : EntIs W H h e v) (ho : ∀ a d, e = .own a d → ∀ o, h.get? a = some o → h'.get? a = some o) : EntIs W H' h' e v := by
  cases e with
  | val d => exact Rep.mono T x
  | own a d =>
    have ho' := ho a d rfl
    cases d with
    | list ds => obtain ⟨e, vs, l, r⟩ := x; exact ⟨e, vs, plainL_at l ho', r.mono T⟩
    | dict ds => obtain ⟨e, q, kvs, l, k, r⟩ := x; exact ⟨e, q, kvs, dictOf_at l ho', k, r.mono T⟩
    | _ => exact x.elim

structure FC where
  A : Around
  env : Env
  cw : List Addr
  n : Nat

def At (W : Wd) (C : FC) (H : List Addr) (h : Heap) (mm : Str → Option Value) (x : Str) (v : Value) : Prop :=
  (C.env.kindOf x = some .local ∧ mm x = some v) ∨
  ((C.env.kindOf x = some .cell ∨ C.env.kindOf x = some .free ∧ (x == ("__classdict__" : Str)) = false) ∧ ∃ c, C.env.cells.lookup x = some c ∧ h.IsCell c (some v) ∧ c ∈ H ∧ c ∉ W.da)

abbrev Map := Str → Option Ent

structure Rel (W : Wd) (C : FC) (H : List Addr) (m : Map) (δ : W.Δ) (s : Shared) : Prop where
  gs : GS W H δ s
  fn : C.env.scope.kind = .function
  gl : C.env.globals = mainGlobals
  bl : C.env.builtins = builtinsNs
  hh : C.A.handled = Option.none
  room : C.A.depth + C.n < recursionLimit
  units : C.A.units + 8 * C.n + 80 < cLine
  gd : C.A.guards = some []
  loc : ∃ mm, s.heap.Ns C.env.locals mm ∧ ∀ x e, m x = some e → ∃ v, At W C H s.heap mm x v ∧ EntIs W H s.heap e v
  lh : C.env.locals ∈ H
  ld : C.env.locals ∉ W.da
  cw : ∀ c ∈ C.cw, c ∈ H ∧ c ∉ W.da ∧ c ≠ C.env.locals
  cx : ∀ x c, C.env.kindOf x = some .cell → C.env.cells.lookup x = some c → c ∈ C.cw → ∃ v₀, s.heap.IsCell c v₀
  ci : ∀ x y c, C.env.cells.lookup x = some c → C.env.cells.lookup y = some c → x = y
  own : ∀ x a d, m x = some (.own a d) → a ∈ H ∧ a ∉ W.da ∧ a ≠ C.env.locals ∧ a ∉ C.cw
  oi : ∀ x y a d e, m x = some (.own a d) → m y = some (.own a e) → x = y

def Md (W : Wd) (C : FC) (m : Map) (b : Addr) : Prop := b = C.env.locals ∨ b ∈ C.cw ∨ b ∈ W.da ∨ ∃ x d, m x = some (.own b d)

structure Fm (W : Wd) (C : FC) (m : Map) (H : List Addr) (s : Shared) (m' : Map) (H' : List Addr) (s' : Shared) : Prop where
  like : Like s s'
  one : ∀ b o, s.heap.get? b = some o → ¬ Md W C m b → s'.heap.get? b = some o ∧ ¬ Md W C m' b
  two : ∀ b o, s.heap.get? b = some o → b ∉ H → b ∉ H'
  three : ∀ b o, s.heap.get? b = some o → b ∈ H → (b ∈ H' ∨ ∃ x d, m x = some (.own b d))

section
variable {W : Wd} {C : FC} {H H' H'' : List Addr} {m m' m'' : Map} {δ δ' δ'' : W.Δ} {s s' s'' : Shared}
theorem Rel.md (R : Rel W C H m δ s) {b : Addr} (x : Md W C m b) : b ∈ H := by
  rcases x with rfl | x | x | ⟨x, d, e⟩
  · exact R.lh
  · exact (R.cw b x).1
  · exact R.gs.dh b x
  · exact (R.own x b d e).1
theorem Fm.tr (F : Fm W C m H s m' H' s') (R : Rel W C H m δ s) : Trans H s.heap H' s'.heap := fun b o e n => ⟨(F.one b o e fun x => n (R.md x)).1, F.two b o e n⟩
theorem Fm.refl : Fm W C m H s m H s := ⟨.refl, fun _ _ e n => ⟨e, n⟩, fun _ _ _ n => n, fun _ _ _ n => .inl n⟩
theorem Fm.trans (R : Rel W C H m δ s) (R' : Rel W C H' m' δ' s') (F : Fm W C m H s m' H' s') (F' : Fm W C m' H' s' m'' H'' s'') : Fm W C m H s m'' H'' s'' := by
  refine ⟨F.like.trans F'.like, fun b o e n => ?_, fun b o e n => ?_, fun b o e n => ?_⟩
  · obtain ⟨a, c⟩ := F.one b o e n
    exact F'.one b o a c
  · exact F'.two b o (F.one b o e fun x => n (R.md x)).1 (F.two b o e n)
  · rcases F.three b o e n with q | q
    · obtain ⟨o', e'⟩ := R'.gs.hex b q
      rcases F'.three b o' e' q with q | ⟨x, d, q⟩
      · exact .inl q
      · have hm : Md W C m b := by
          apply Classical.byContradiction
          intro hn
          exact (F.one b o e hn).2 (.inr (.inr (.inr ⟨x, d, q⟩)))
        have P := R'.own x b d q
        rcases hm with z | z | z | z
        · exact absurd z P.2.2.1
        · exact absurd z P.2.2.2
        · exact absurd z P.2.1
        · exact .inr z
    · exact .inr q

theorem Rel.keepX (R : Rel W C H m δ s) (k : KeepX W s s') (G : GS W H δ' s') : Rel W C H m δ' s' := by
  refine { R with gs := G, loc := ?_, cx := ?_ }
  · obtain ⟨mm, hn, hm⟩ := R.loc
    obtain ⟨o, es, ep, ho, r⟩ := hn
    refine ⟨mm, ⟨o, es, ep, k.2 _ _ ho R.ld, r⟩, fun x e hx => ?_⟩
    obtain ⟨v, a, b⟩ := hm x e hx
    refine ⟨v, ?_, b.mono (k.tr R.gs) fun a' d' ea o e' => k.2 _ _ e' (R.own x a' d' (ea ▸ hx)).2.1⟩
    rcases a with a | ⟨a, c, hc, ⟨o, ho, hd⟩, hH, hd'⟩
    · exact .inl a
    · exact .inr ⟨a, c, hc, ⟨o, k.2 _ _ ho hd', hd⟩, hH, hd'⟩
  · intro x c hk hc hw
    obtain ⟨v₀, o, ho, hd⟩ := R.cx x c hk hc hw
    exact ⟨v₀, o, k.2 _ _ ho (R.cw c hw).2.1, hd⟩
theorem Rel.keep (R : Rel W C H m δ s) (k : KeepA s s') : Rel W C H m δ s' := R.keepX k.x (R.gs.keep k)
end

inductive EvP (W : Wd) (H : List Addr) (s : Shared) (K : D → W.Δ → Prop) (v : Value) (s' : Shared) : Prop
  | mk (d : D) (δ' : W.Δ) (k : KeepX W s s') (g : GS W H δ' s') (r : Rep W H s'.heap v d) (h : K d δ') : EvP W H s K v s'
inductive EvsP (W : Wd) (H : List Addr) (s : Shared) (K : List D → W.Δ → Prop) (vs : List Value) (s' : Shared) : Prop
  | mk (ds : List D) (δ' : W.Δ) (k : KeepX W s s') (g : GS W H δ' s') (r : RepAll W H s'.heap vs ds) (h : K ds δ') : EvsP W H s K vs s'
inductive TeP (W : Wd) (H : List Addr) (s : Shared) (K : Bool → W.Δ → Prop) (b : Bool) (s' : Shared) : Prop
  | mk (δ' : W.Δ) (k : KeepX W s s') (g : GS W H δ' s') (h : K b δ') : TeP W H s K b s'
inductive OpP (W : Wd) (H : List Addr) (s : Shared) (K : D → Prop) (v : Value) (s' : Shared) : Prop
  | mk (d : D) (k : KeepA s s') (r : Rep W H s'.heap v d) (h : K d) : OpP W H s K v s'

/-- what an expression gives -/
def evW (W : Wd) (C : FC) (e : Expr) (K : D → W.Δ → Prop) (m : Map) (δ : W.Δ) : Prop :=
  ∀ (E : Value → Shared → Prop) (s : Shared) (H : List Addr), Rel W C H m δ s →
    wpAny (model W.prog W.w) C.A (eval e C.env) (EvP W H s K) E s

def teW (W : Wd) (C : FC) (e : Expr) (K : Bool → W.Δ → Prop) (m : Map) (δ : W.Δ) : Prop :=
  ∀ (E : Value → Shared → Prop) (s : Shared) (H : List Addr), Rel W C H m δ s →
    wpAny (model W.prog W.w) C.A (isTrue e C.env (eval e C.env)) (TeP W H s K) E s

/-- an operation on values that changes nothing -/
def opW (W : Wd) (A : Around) (t : Value → Sem Value) (a : D) (K : D → Prop) : Prop :=
  ∀ (E : Value → Shared → Prop) (s : Shared) (H : List Addr) (δ : W.Δ) (v : Value), A.handled = Option.none → A.units + 80 < cLine → GS W H δ s → Rep W H s.heap v a →
    wpAny (model W.prog W.w) A (t v) (OpP W H s K) E s
def op2W (W : Wd) (A : Around) (t : Value → Value → Sem Value) (a b : D) (K : D → Prop) : Prop :=
  ∀ (E : Value → Shared → Prop) (s : Shared) (H : List Addr) (δ : W.Δ) (v u : Value), A.handled = Option.none → A.units + 80 < cLine → GS W H δ s → Rep W H s.heap v a → Rep W H s.heap u b →
    wpAny (model W.prog W.w) A (t v u) (OpP W H s K) E s

inductive Fl where
  | next
  | ret (d : D)

def FlOK (W : Wd) (H : List Addr) (h : Heap) (P : Fl → Map → W.Δ → Prop) (m : Map) (δ : W.Δ) : Flow → Prop
  | .next => P .next m δ
  | .ret v => ∃ d, Rep W H h v d ∧ P (.ret d) m δ
  | _ => False

inductive StP (W : Wd) (C : FC) (m : Map) (H : List Addr) (s : Shared) (P : Fl → Map → W.Δ → Prop) (f : Flow) (s' : Shared) : Prop
  | mk (H' : List Addr) (m' : Map) (δ' : W.Δ) (F : Fm W C m H s m' H' s') (R : Rel W C H' m' δ' s') (h : FlOK W H' s'.heap P m' δ' f) : StP W C m H s P f s'

def stW (W : Wd) (C : FC) (body : List Stmt) (P : Fl → Map → W.Δ → Prop) (m : Map) (δ : W.Δ) : Prop :=
  ∀ (E : Value → Shared → Prop) (s : Shared) (H : List Addr), Rel W C H m δ s →
    wpAny (model W.prog W.w) C.A (execs body C.env) (StP W C m H s P) E s
def exW (W : Wd) (C : FC) (st : Stmt) (P : Fl → Map → W.Δ → Prop) (m : Map) (δ : W.Δ) : Prop :=
  ∀ (E : Value → Shared → Prop) (s : Shared) (H : List Addr), Rel W C H m δ s →
    wpAny (model W.prog W.w) C.A (exec st C.env) (StP W C m H s P) E s

def upd (m : Map) (x : Str) (e : Ent) : Map := fun y => if y = x then some e else m y

/-! part L2 -/
section
variable {W : Wd} {C : FC} {m : Map} {δ : W.Δ} {K : D → W.Δ → Prop}

theorem Rel.u80 {H s} (R : Rel W C H m δ s) : C.A.units + 80 < cLine := by have := R.units; omega

theorem ev_mono {e : Expr} {K' : D → W.Δ → Prop} (h : evW W C e K m δ) (k : ∀ d δ', K d δ' → K' d δ') : evW W C e K' m δ := fun E s H R =>
  wpAny_mono (h E s H R) (fun v s' ⟨d, δ', a, b, c, z⟩ => ⟨d, δ', a, b, c, k _ _ z⟩) fun _ _ e => e

theorem ev_int {i : Int} {k : Nat} {pos : Pos} (h : K (.int i) δ) : evW W C (.Constant (.int i) k pos) K m δ := fun E s H R =>
  wpAny_Constant_int ⟨_, δ, KeepA.tok.x, R.gs.keep .tok, .int _ _, h⟩
theorem ev_str {x : Str} {k : Nat} {pos : Pos} (h : K (.str x) δ) : evW W C (.Constant (.str x) k pos) K m δ := fun E s H R =>
  Constant_str ⟨_, δ, KeepA.tok.x, R.gs.keep .tok, .str _ _, h⟩
theorem ev_none {k : Nat} {pos : Pos} (h : K .none δ) : evW W C (.Constant .none k pos) K m δ := fun E s H R =>
  wpAny_pure (a := Value.none) ⟨_, δ, .refl, R.gs, .none, h⟩
theorem ev_boolc {b : Bool} {k : Nat} {pos : Pos} (h : K (.bool b) δ) : evW W C (.Constant (.bool b) k pos) K m δ := fun E s H R =>
  wpAny_pure (a := Value.bool b) ⟨_, δ, .refl, R.gs, .bool b, h⟩

theorem ev_load {x : Str} {H s E} {Q : Value → Shared → Prop} (R : Rel W C H m δ s) {e : Ent} (hx : m x = some e) (h : ∀ v, EntIs W H s.heap e v → Q v s) : wpAny (model W.prog W.w) C.A (loadName C.env x) Q E s := by
  obtain ⟨mm, hn, hm⟩ := R.loc
  obtain ⟨v, a, b⟩ := hm x e hx
  rcases a with ⟨hk, hv⟩ | ⟨hk | ⟨hk, hc⟩, c, hc', hi, _⟩
  · exact wpAny_loadName_local R.fn hk hn hv (h v b)
  · exact wpAny_loadName_cell R.fn hk hc' hi (h v b)
  · exact wpAny_loadName_free R.fn hk hc' hi (h v b) hc

theorem ev_name {x : Str} {pos : Pos} {d : D} (hx : m x = some (.val d)) (h : K d δ) (hd : (x == ("__debug__" : Str)) = false := by decide) : evW W C (.Name x pos) K m δ := fun E s H R =>
  wpAny_Name (ev_load R hx fun v hv => ⟨d, δ, .refl, R.gs, hv, h⟩) hd

theorem ev_bin {op : Operator} {l r : Expr} {pos : Pos} (h : evW W C l (fun a δ₁ => evW W C r (fun b δ₂ => op2W W C.A (binaryOp op) a b (fun d => K d δ₂)) m δ₁) m δ) : evW W C (.BinOp l op r pos) K m δ := fun E s H R => by
  refine wpAny_BinOp (wpAny_mono (h E s H R) ?_ fun _ _ e => e)
  rintro v s1 ⟨a, δ1, k1, G1, r1, h1⟩
  refine wpAny_mono (h1 E s1 H (R.keepX k1 G1)) ?_ fun _ _ e => e
  rintro u s2 ⟨b, δ2, k2, G2, r2, h2⟩
  refine wpAny_mono (h2 E s2 H δ2 v u R.hh R.u80 G2 (r1.mono (k2.tr G1)) r2) ?_ fun _ _ e => e
  rintro r s3 ⟨d, k3, r3, h3⟩
  exact ⟨d, δ2, (k1.trans k2).trans k3.x, G2.keep k3, r3, h3⟩

theorem ev_un {op : UnaryOp} {l : Expr} {pos : Pos} (h : evW W C l (fun a δ₁ => opW W C.A (unaryOp op) a (fun d => K d δ₁)) m δ) : evW W C (.UnaryOp op l pos) K m δ := fun E s H R => by
  refine wpAny_UnaryOp (wpAny_mono (h E s H R) ?_ fun _ _ e => e)
  rintro v s1 ⟨a, δ1, k1, G1, r1, h1⟩
  refine wpAny_mono (h1 E s1 H δ1 v R.hh R.u80 G1 r1) ?_ fun _ _ e => e
  rintro r s3 ⟨d, k3, r3, h3⟩
  exact ⟨d, δ1, k1.trans k3.x, G1.keep k3, r3, h3⟩

theorem ev_cmp {op : CmpOp} {l r : Expr} {pos : Pos} (h : evW W C l (fun a δ₁ => evW W C r (fun b δ₂ => op2W W C.A (compareOp op) a b (fun d => K d δ₂)) m δ₁) m δ)
    (hm : behindInMarks op r = false := by with_unfolding_all rfl) : evW W C (.Compare l [op] [r] pos) K m δ := fun E s H R => by
  refine wpAny_Compare1 (wpAny_mono (h E s H R) ?_ fun _ _ e => e) hm
  rintro v s1 ⟨a, δ1, k1, G1, r1, h1⟩
  refine wpAny_mono (h1 E s1 H (R.keepX k1 G1)) ?_ fun _ _ e => e
  rintro u s2 ⟨b, δ2, k2, G2, r2, h2⟩
  refine wpAny_mono (h2 E s2 H δ2 v u R.hh R.u80 G2 (r1.mono (k2.tr G1)) r2) ?_ fun _ _ e => e
  rintro r s3 ⟨d, k3, r3, h3⟩
  exact ⟨d, δ2, (k1.trans k2).trans k3.x, G2.keep k3, r3, h3⟩

theorem te_cmp {op : CmpOp} {l r : Expr} {pos : Pos} {K : Bool → W.Δ → Prop} (h : evW W C l (fun a δ₁ => evW W C r (fun b δ₂ => op2W W C.A (compareOp op) a b (fun d => ∃ c, d = .bool c ∧ K c δ₂)) m δ₁) m δ)
    (hm : behindInMarks op r = false := by with_unfolding_all rfl) : teW W C (.Compare l [op] [r] pos) K m δ := fun E s H R => by
  refine wpAny_isTrue_Compare1 (wpAny_mono (h E s H R) ?_ fun _ _ e => e) hm
  rintro v s1 ⟨a, δ1, k1, G1, r1, h1⟩
  refine wpAny_mono (h1 E s1 H (R.keepX k1 G1)) ?_ fun _ _ e => e
  rintro u s2 ⟨b, δ2, k2, G2, r2, h2⟩
  refine wpAny_mono (h2 E s2 H δ2 v u R.hh R.u80 G2 (r1.mono (k2.tr G1)) r2) ?_ fun _ _ e => e
  rintro r s3 ⟨d, k3, r3, c, rfl, h3⟩
  cases r3
  exact wpAny_truthy_bool ⟨δ2, (k1.trans k2).trans k3.x, G2.keep k3, h3⟩

theorem te_not {x : Expr} {pos : Pos} {K : Bool → W.Δ → Prop} (h : teW W C x (fun b => K (!b)) m δ) : teW W C (.UnaryOp .Not x pos) K m δ := fun E s H R =>
  isTrue_not (wpAny_mono (h E s H R) (fun _ _ ⟨a, b, c, d⟩ => ⟨a, b, c, d⟩) fun _ _ e => e)

theorem te_and_nil {pos : Pos} {K : Bool → W.Δ → Prop} (h : K true δ) : teW W C (.BoolOp .And [] pos) K m δ := fun E s H R => isTrue_and_nil ⟨δ, .refl, R.gs, h⟩
theorem te_or_nil {pos : Pos} {K : Bool → W.Δ → Prop} (h : K false δ) : teW W C (.BoolOp .Or [] pos) K m δ := fun E s H R => isTrue_or_nil ⟨δ, .refl, R.gs, h⟩
theorem te_and {x : Expr} {r : List Expr} {pos : Pos} {K : Bool → W.Δ → Prop} (h : teW W C x (fun b δ₁ => if b = true then teW W C (.BoolOp .And r pos) K m δ₁ else K false δ₁) m δ) : teW W C (.BoolOp .And (x :: r) pos) K m δ := fun E s H R => by
  refine isTrue_and (wpAny_mono (h E s H R) ?_ fun _ _ e => e)
  rintro b s1 ⟨δ1, k1, G1, h1⟩
  cases b with
  | false => exact ⟨δ1, k1, G1, by simpa using h1⟩
  | true =>
    simp only [if_true] at h1 ⊢
    refine wpAny_mono (h1 E s1 H (R.keepX k1 G1)) ?_ fun _ _ e => e
    rintro b s2 ⟨δ2, k2, G2, h2⟩
    exact ⟨δ2, k1.trans k2, G2, h2⟩
theorem te_or {x : Expr} {r : List Expr} {pos : Pos} {K : Bool → W.Δ → Prop} (h : teW W C x (fun b δ₁ => if b = true then K true δ₁ else teW W C (.BoolOp .Or r pos) K m δ₁) m δ) : teW W C (.BoolOp .Or (x :: r) pos) K m δ := fun E s H R => by
  refine isTrue_or (wpAny_mono (h E s H R) ?_ fun _ _ e => e)
  rintro b s1 ⟨δ1, k1, G1, h1⟩
  cases b with
  | true => exact ⟨δ1, k1, G1, by simpa using h1⟩
  | false =>
    simp only [Bool.false_eq_true, if_false] at h1 ⊢
    refine wpAny_mono (h1 E s1 H (R.keepX k1 G1)) ?_ fun _ _ e => e
    rintro b s2 ⟨δ2, k2, G2, h2⟩
    exact ⟨δ2, k1.trans k2, G2, h2⟩

theorem te_bool {e : Expr} {K : Bool → W.Δ → Prop} (h : evW W C e (fun a δ₁ => ∃ c, a = .bool c ∧ K c δ₁) m δ)
    (hp : ∀ whole, isTrue e C.env whole = (do let v ← whole; standAt e.pos; holding [v] (truthy v)) := by intro _; rfl) : teW W C e K m δ := fun E s H R => by
  refine isTrue_plain (wpAny_mono (h E s H R) ?_ fun _ _ e => e) (hp _)
  rintro v s1 ⟨a, δ1, k1, G1, r1, c, rfl, h1⟩
  cases r1
  exact wpAny_truthy_bool ⟨δ1, k1, G1, h1⟩

theorem ev_if {t b o : Expr} {pos : Pos} (h : teW W C t (fun c δ₁ => if c = true then evW W C b K m δ₁ else evW W C o K m δ₁) m δ) : evW W C (.IfExp t b o pos) K m δ := fun E s H R => by
  refine wpAny_IfExp (wpAny_mono (h E s H R) ?_ fun _ _ e => e)
  rintro c s1 ⟨δ1, k1, G1, h1⟩
  cases c with
  | true =>
    simp only [if_true] at h1 ⊢
    exact wpAny_mono (h1 E s1 H (R.keepX k1 G1)) (fun v s2 ⟨d, δ2, k2, G2, r2, h2⟩ => ⟨d, δ2, k1.trans k2, G2, r2, h2⟩) fun _ _ e => e
  | false =>
    simp only [Bool.false_eq_true, if_false] at h1 ⊢
    exact wpAny_mono (h1 E s1 H (R.keepX k1 G1)) (fun v s2 ⟨d, δ2, k2, G2, r2, h2⟩ => ⟨d, δ2, k1.trans k2, G2, r2, h2⟩) fun _ _ e => e

/-- `x and y` as a value, both bools -/
theorem ev_and {x y : Expr} {pos : Pos} (h : evW W C x (fun a δ₁ => ∃ c, a = .bool c ∧ if c = true then evW W C y K m δ₁ else K (.bool false) δ₁) m δ) : evW W C (.BoolOp .And [x, y] pos) K m δ := fun E s H R => by
  refine BoolOp_and (wpAny_mono (h E s H R) ?_ fun _ _ e => e)
  rintro v s1 ⟨a, δ1, k1, G1, r1, c, rfl, h1⟩
  cases r1
  refine wpAny_truthy_bool ?_
  cases c with
  | false => exact ⟨_, δ1, k1, G1, .bool false, by simpa using h1⟩
  | true =>
    simp only [if_true] at h1 ⊢
    exact BoolOp_one (wpAny_mono (h1 E s1 H (R.keepX k1 G1)) (fun v s2 ⟨d, δ2, k2, G2, r2, h2⟩ => ⟨d, δ2, k1.trans k2, G2, r2, h2⟩) fun _ _ e => e)

/-- rows of expressions -/
def evsW (W : Wd) (C : FC) : List Expr → (List D → W.Δ → Prop) → Map → W.Δ → Prop
  | [], K, _, δ => K [] δ
  | e :: r, K, m, δ => evW W C e (fun d δ₁ => evsW W C r (fun ds δ₂ => K (d :: ds) δ₂) m δ₁) m δ

def noStar : List Expr → Bool
  | [] => true
  | .Starred .. :: _ => false
  | _ :: r => noStar r
theorem starEach_plain (env : Env) : ∀ es : List Expr, noStar es = true → starEach es env = es.map fun e => (false, eval e env)
  | [], _ => rfl
  | e :: r, h => by
    cases e with
    | Starred a b => cases h
    | _ => rw [List.map_cons, ← starEach_plain env r h]; rfl
theorem backTo_plain (env : Env) (pos : Pos) : ∀ es : List Expr, backTo pos (es.map fun e => (false, eval e env)) = es.map fun e => (false, eval e env)
  | [] => rfl
  | e :: r => by
    have ih := backTo_plain env pos r
    unfold backTo at ih ⊢
    rw [List.map_cons, List.map_cons, ih]
    rfl

theorem evs_spliced : ∀ (es : List Expr) {K : List D → W.Δ → Prop} {δ : W.Δ} (h : evsW W C es K m δ) (E : Value → Shared → Prop) (s : Shared) (H : List Addr), Rel W C H m δ s →
    wpAny (model W.prog W.w) C.A (spliced (es.map fun e => (false, eval e C.env))) (EvsP W H s K) E s
  | [], _, _, h, E, s, H, R => spliced_nil ⟨[], _, .refl, R.gs, .nil, h⟩
  | e :: r, K, δ, h, E, s, H, R => by
    rw [List.map_cons]
    refine spliced_cons (wpAny_mono (h E s H R) ?_ fun _ _ e => e)
    rintro v s1 ⟨d, δ1, k1, G1, r1, h1⟩
    refine wpAny_mono (evs_spliced r h1 E s1 H (R.keepX k1 G1)) ?_ fun _ _ e => e
    rintro vs s2 ⟨ds, δ2, k2, G2, r2, h2⟩
    exact ⟨d :: ds, δ2, k1.trans k2, G2, .cons (r1.mono (k2.tr G1)) r2, h2⟩

theorem rep_newTup {H : List Addr} {s : Shared} (G : GS W H δ s) {vs : List Value} {ds : List D} (r : RepAll W H s.heap vs ds) :
    KeepA s { s with heap := s.heap.push { cls := .type "tuple", data := .seq vs.toArray } } ∧ Rep W H (s.heap.push { cls := .type "tuple", data := .seq vs.toArray }) (.ref s.heap.objs.size) (.tup ds) :=
  ⟨.push, .tup G.fresh ⟨_, Heap.get?_push_size _ rfl, rfl, _, rfl⟩ (r.mono fun b o e n => ⟨Heap.get?_push_of_some _ e, n⟩)⟩
theorem rep_newList {H : List Addr} {s : Shared} (G : GS W H δ s) {vs : List Value} {ds : List D} (r : RepAll W H s.heap vs ds) :
    KeepA s { s with heap := s.heap.push { cls := .type "list", data := .seq vs.toArray } } ∧ Rep W H (s.heap.push { cls := .type "list", data := .seq vs.toArray }) (.ref s.heap.objs.size) (.list ds) :=
  ⟨.push, .list G.fresh ⟨_, _, Heap.get?_push_size _ rfl, rfl, rfl, rfl⟩ (r.mono fun b o e n => ⟨Heap.get?_push_of_some _ e, n⟩)⟩

theorem evs_len : ∀ (es : List Expr) {K : List D → W.Δ → Prop} {δ : W.Δ}, evsW W C es K m δ → evsW W C es (fun ds δ' => ds.length = es.length ∧ K ds δ') m δ
  | [], _, _, h => ⟨rfl, h⟩
  | e :: r, K, δ, h => by
    refine ev_mono h fun d δ' h' => ?_
    have := evs_len r h'
    exact (evs_mono' r this fun ds δ'' q => ⟨by simp [q.1], q.2⟩)
where
  evs_mono' : ∀ (es : List Expr) {K K' : List D → W.Δ → Prop} {δ : W.Δ}, evsW W C es K m δ → (∀ d δ', K d δ' → K' d δ') → evsW W C es K' m δ
  | [], _, _, _, h, k => k _ _ h
  | e :: r, _, _, _, h, k => ev_mono h fun d δ' h' => evs_mono' r h' fun ds δ'' q => k _ _ q

theorem ev_tuple {es : List Expr} {k : Nat} {pos : Pos} (h : evsW W C es (fun ds δ' => K (.tup ds) δ') m δ) (hs : noStar es = true := by rfl) (hl : es.length ≤ sizeLine := by size_fits) : evW W C (.Tuple es k pos) K m δ := fun E s H R => by
  refine Tuple_ ?_
  rw [starEach_plain _ _ hs, backTo_plain]
  refine wpAny_mono (evs_spliced es (evs_len es h) E s H R) ?_ fun _ _ e => e
  rintro vs s1 ⟨ds, δ1, k1, G1, r1, hlen, h1⟩
  refine wpAny_newTuple ?_ (by rw [r1.length, hlen]; exact hl)
  obtain ⟨a, b⟩ := rep_newTup G1 r1
  exact ⟨_, δ1, k1.trans a.x, G1.keep a, b, h1⟩
theorem ev_list {es : List Expr} {pos : Pos} (h : evsW W C es (fun ds δ' => K (.list ds) δ') m δ) (hs : noStar es = true := by rfl) (hl : es.length ≤ sizeLine := by size_fits) : evW W C (.List es pos) K m δ := fun E s H R => by
  refine List_ ?_
  rw [starEach_plain _ _ hs, backTo_plain]
  refine wpAny_mono (evs_spliced es (evs_len es h) E s H R) ?_ fun _ _ e => e
  rintro vs s1 ⟨ds, δ1, k1, G1, r1, hlen, h1⟩
  refine wpAny_newList ?_ (by rw [r1.length, hlen]; exact hl)
  obtain ⟨a, b⟩ := rep_newList G1 r1
  exact ⟨_, δ1, k1.trans a.x, G1.keep a, b, h1⟩
end
/-! part L3 -/

mutual
def D.py : D → PyData
  | .none => .none
  | .bool b => .bool b
  | .int i => .int i
  | .str x => .str x
  | .list l => .list (pys l)
  | .tup l => .tuple (pys l)
  | .dict _ => .none
  | .deck _ => .none
def pys : List D → List PyData
  | [] => []
  | d :: r => d.py :: pys r
end
def Ok : Nat → D → Prop
  | _, .none => True
  | _, .bool _ => True
  | _, .int _ => True
  | _, .str x => PyData.strOk x = true
  | n + 1, .list l => ∀ d ∈ l, Ok n d
  | n + 1, .tup l => ∀ d ∈ l, Ok n d
  | _, _ => False
def deq (a b : D) : Bool := PyData.eqv a.py b.py

section
variable {W : Wd} {H : List Addr} {h : Heap}
mutual
theorem rep_reads : ∀ {v : Value} {d : D} (n : Nat), Rep W H h v d → Ok n d → ∃ as, Reads h v d.py as
  | _, _, _, .none, _ => ⟨_, .none⟩
  | _, _, _, .bool b, _ => ⟨_, .bool b⟩
  | _, _, _, .int i t, _ => ⟨_, .int i t⟩
  | _, _, _, .str x t, _ => ⟨_, .str x t⟩
  | _, _, 0, .list _ _ _, k => by simp [Ok] at k
  | _, _, 0, .tup _ _ _, k => by simp [Ok] at k
  | _, _, n + 1, .list _ l r, k => by
    obtain ⟨as, q⟩ := repAll_reads n r (by simpa [Ok] using k)
    obtain ⟨o, e, ho, hc, _, hd⟩ := l
    exact ⟨_, Reads.list ho hc hd (by simpa using q)⟩
  | _, _, n + 1, .tup _ l r, k => by
    obtain ⟨as, q⟩ := repAll_reads n r (by simpa [Ok] using k)
    obtain ⟨o, ho, hc, e, hd⟩ := l
    exact ⟨_, Reads.tuple ho hc hd (by simpa using q)⟩
  | _, _, n, .dict .., k => by cases n <;> simp [Ok] at k
  | _, _, n, .deck _, k => by cases n <;> simp [Ok] at k
theorem repAll_reads : ∀ {vs : List Value} {ds : List D} (n : Nat), RepAll W H h vs ds → (∀ d ∈ ds, Ok n d) → ∃ as, ReadsAll h vs (pys ds) as
  | _, _, _, .nil, _ => ⟨_, .nil⟩
  | _, _, n, .cons a r, k => by
    obtain ⟨as, q⟩ := rep_reads n a (k _ (.head _))
    obtain ⟨bs, q'⟩ := repAll_reads n r fun d hd => k d (.tail _ hd)
    exact ⟨_, .cons q q'⟩
end
end
theorem ok_lay : ∀ (n : Nat) (d : D), Ok n d → d.py.canLay0 = true ∧ d.py.depth ≤ n := by
  have all : ∀ (n : Nat), (∀ d, Ok n d → d.py.canLay0 = true ∧ d.py.depth ≤ n) → ∀ ds : List D, (∀ d ∈ ds, Ok n d) → PyData.canLayAll0 (pys ds) = true ∧ PyData.depthAll (pys ds) ≤ n := by
    intro n ih ds
    induction ds with
    | nil => intro _; simp [pys, PyData.canLayAll0, PyData.depthAll]
    | cons d ds hi =>
      intro h
      have h1 := ih d (h d (.head _))
      have h2 := hi fun e he => h e (.tail _ he)
      have a1 := h1.2
      have a2 := h2.2
      simp only [pys, PyData.canLayAll0, PyData.depthAll, h1.1, h2.1, Bool.and_self, true_and]
      omega
  intro n
  induction n with
  | zero => intro d h; cases d <;> simp_all [Ok, D.py, PyData.canLay0, PyData.depth]
  | succ n ih =>
    intro d h
    cases d with
    | list ds =>
      have q := all n ih ds (by simpa [Ok] using h)
      have q2 := q.2
      simp only [D.py, PyData.canLay0, PyData.depth, q.1, true_and]; omega
    | tup ds =>
      have q := all n ih ds (by simpa [Ok] using h)
      have q2 := q.2
      simp only [D.py, PyData.canLay0, PyData.depth, q.1, true_and]; omega
    | _ => simp_all [Ok, D.py, PyData.canLay0, PyData.depth]
theorem ok_all (n : Nat) (ds : List D) (h : ∀ d ∈ ds, Ok n d) : PyData.canLayAll0 (pys ds) = true ∧ PyData.depthAll (pys ds) ≤ n := by
  have := ok_lay (n + 1) (.list ds) (by simpa [Ok] using h)
  simp only [D.py, PyData.canLay0, PyData.depth] at this
  exact ⟨this.1, by omega⟩

section
variable {W : Wd} {A : Around} {K : D → Prop} {i j : Int} {x y : Str}

theorem op2_int {t : Value → Value → Sem Value} (h : ∀ (E : Value → Shared → Prop) (s : Shared) (u v : Tok), wpAny (model W.prog W.w) A (t (.int i u) (.int j v)) (fun r s' => ∃ d, KeepA s s' ∧ (∀ H, Rep W H s'.heap r d) ∧ K d) E s) : op2W W A t (.int i) (.int j) K := fun E s H δ v u _ _ G r1 r2 => by
  cases r1; cases r2
  exact wpAny_mono (h E s _ _) (fun r s' ⟨d, a, b, c⟩ => ⟨d, a, b H, c⟩) fun _ _ e => e
theorem op2_str {t : Value → Value → Sem Value} (h : ∀ (E : Value → Shared → Prop) (s : Shared) (u v : Tok), wpAny (model W.prog W.w) A (t (.str x u) (.str y v)) (fun r s' => ∃ d, KeepA s s' ∧ (∀ H, Rep W H s'.heap r d) ∧ K d) E s) : op2W W A t (.str x) (.str y) K := fun E s H δ v u _ _ G r1 r2 => by
  cases r1; cases r2
  exact wpAny_mono (h E s _ _) (fun r s' ⟨d, a, b, c⟩ => ⟨d, a, b H, c⟩) fun _ _ e => e
theorem o_add (h : K (.int (i + j))) : op2W W A (binaryOp .Add) (.int i) (.int j) K := op2_int fun E s _ _ => add_int ⟨_, .tok, fun _ => .int _ _, h⟩
theorem o_sub (h : K (.int (i - j))) : op2W W A (binaryOp .Sub) (.int i) (.int j) K := op2_int fun E s _ _ => sub_int ⟨_, .tok, fun _ => .int _ _, h⟩
theorem o_mul (h : K (.int (i * j))) (hm : IntMulOk i j) : op2W W A (binaryOp .Mult) (.int i) (.int j) K := op2_int fun E s _ _ => mul_int ⟨_, .tok, fun _ => .int _ _, h⟩ hm
theorem o_mod (hj : 0 < j) (h : K (.int (i % j))) : op2W W A (binaryOp .Mod) (.int i) (.int j) K := by
  rw [← Int.fmod_eq_emod_of_nonneg _ (by omega : 0 ≤ j)] at h
  exact op2_int fun E s _ _ => mod_int' (by omega) ⟨_, .tok, fun _ => .int _ _, h⟩
theorem o_fdiv (hj : 0 < j) (h : K (.int (i / j))) (hp : Builtin.divisionGoesByPylong i j = false) : op2W W A (binaryOp .FloorDiv) (.int i) (.int j) K := by
  rw [← Int.fdiv_eq_ediv_of_nonneg _ (by omega : 0 ≤ j)] at h
  exact op2_int fun E s _ _ => floordiv_int (by omega) ⟨_, .tok, fun _ => .int _ _, h⟩ (.inl hp)
theorem o_pow (hj : 0 ≤ j) (hb : (Builtin.Int.intBits i : Int) * j ≤ 2 ^ 27) (h : K (.int (i ^ j.toNat))) : op2W W A (binaryOp .Pow) (.int i) (.int j) K := op2_int fun E s _ _ => pow_int hj hb ⟨_, .tok, fun _ => .int _ _, h⟩
theorem o_neg (h : K (.int (-i))) : opW W A (unaryOp .USub) (.int i) K := fun E s H δ v _ _ G r1 => by
  cases r1; exact neg_int ⟨_, .tok, .int _ _, h⟩
theorem o_lt (h : K (.bool (decide (i < j)))) : op2W W A (compareOp .Lt) (.int i) (.int j) K := op2_int fun E s _ _ => lt_int ⟨_, .refl, fun _ => .bool _, h⟩
theorem o_le (h : K (.bool (decide (i ≤ j)))) : op2W W A (compareOp .LtE) (.int i) (.int j) K := op2_int fun E s _ _ => le_int ⟨_, .refl, fun _ => .bool _, h⟩
theorem o_eqi (h : K (.bool (i == j))) : op2W W A (compareOp .Eq) (.int i) (.int j) K := op2_int fun E s _ _ => eq_int ⟨_, .refl, fun _ => .bool _, h⟩
theorem o_nei (h : K (.bool (i != j))) : op2W W A (compareOp .NotEq) (.int i) (.int j) K := op2_int fun E s _ _ => ne_int ⟨_, .refl, fun _ => .bool _, h⟩
theorem o_eqs (h : K (.bool (x == y))) : op2W W A (compareOp .Eq) (.str x) (.str y) K := op2_str fun E s _ _ => eq_str ⟨_, .refl, fun _ => .bool _, h⟩
theorem o_nes (h : K (.bool (x != y))) : op2W W A (compareOp .NotEq) (.str x) (.str y) K := op2_str fun E s _ _ => ne_str ⟨_, .refl, fun _ => .bool _, h⟩
theorem o_eq {a b : D} (ha : Ok 8 a) (hb : Ok 8 b) (h : K (.bool (deq a b))) : op2W W A (compareOp .Eq) a b K := fun E s H δ v u _ hu G r1 r2 => by
  obtain ⟨as, q1⟩ := rep_reads 8 r1 ha
  obtain ⟨bs, q2⟩ := rep_reads 8 r2 hb
  obtain ⟨l1, d1⟩ := ok_lay 8 a ha
  obtain ⟨l2, d2⟩ := ok_lay 8 b hb
  exact cmp_ofEq (SeqAt.eqOverData _ _ _ _ _ _ _ _ _ _ _ _ q1 q2 l1 l2 (by have : min a.py.depth b.py.depth ≤ 8 := Nat.le_trans (Nat.min_le_left _ _) d1; omega) ⟨_, .refl, .bool _, h⟩)
theorem o_ne {a b : D} (ha : Ok 8 a) (hb : Ok 8 b) (h : K (.bool (!deq a b))) : op2W W A (compareOp .NotEq) a b K := fun E s H δ v u _ hu G r1 r2 => by
  obtain ⟨as, q1⟩ := rep_reads 8 r1 ha
  obtain ⟨bs, q2⟩ := rep_reads 8 r2 hb
  obtain ⟨l1, d1⟩ := ok_lay 8 a ha
  obtain ⟨l2, d2⟩ := ok_lay 8 b hb
  exact cmp_ofNotEq (SeqAt.neOverData _ _ _ _ _ _ _ _ _ _ _ _ q1 q2 l1 l2 (by have : min a.py.depth b.py.depth ≤ 8 := Nat.le_trans (Nat.min_le_left _ _) d1; omega) ⟨_, .refl, .bool _, h⟩)

def isN : D → Bool
  | .none => true
  | _ => false
theorem rep_isN {W : Wd} {H : List Addr} {h : Heap} {v : Value} {d : D} (r : Rep W H h v d) : (v == Value.none) = isN d := by
  cases r <;> first | rfl | (simp [isN])
theorem o_is {a : D} (h : K (.bool (isN a))) : op2W W A (compareOp .Is) a .none K := fun E s H δ v u _ hu G r1 r2 => by
  cases r2; exact is_none_gen (by rw [rep_isN r1]; exact ⟨_, .refl, .bool _, h⟩)
theorem o_isnot {a : D} (h : K (.bool (!isN a))) : op2W W A (compareOp .IsNot) a .none K := fun E s H δ v u _ hu G r1 r2 => by
  cases r2; exact isnot_none_gen (by rw [rep_isN r1]; exact ⟨_, .refl, .bool _, h⟩)

theorem pys_any (l : List D) (d : D) : ((pys l).any fun y => PyData.eqv y d.py) = l.any fun y => deq y d := by
  induction l with
  | nil => rfl
  | cons a r ih => simp only [pys, List.any_cons, ih, deq]
theorem in_core {l : List D} {a : D} {s : Shared} {H : List Addr} {u v : Value} {E : Value → Shared → Prop} {Q : Value → Shared → Prop} (hl : ∀ d ∈ l, Ok 7 d) (ha : Ok 8 a) (hu : A.units + 80 < cLine) (r1 : Rep W H s.heap v a)
    (r2 : Rep W H s.heap u (.list l)) (h : Q (.bool (l.any fun y => deq y a)) s) : wpAny (model W.prog W.w) A (compareOp .In v u) Q E s := by
  obtain ⟨as, q1⟩ := rep_reads 8 r1 ha
  obtain ⟨bs, q2⟩ := rep_reads 8 r2 (by simpa [Ok] using hl)
  obtain ⟨l1, d1⟩ := ok_lay 8 a ha
  obtain ⟨l2, d2⟩ := ok_all 7 l hl
  exact SeqAt.in_list_reads q2 q1 l2 l1 (by have := Nat.min_le_right (PyData.depthAll (pys l)) a.py.depth; omega) (by rw [pys_any]; exact h)
theorem notin_core {l : List D} {a : D} {s : Shared} {H : List Addr} {u v : Value} {E : Value → Shared → Prop} {Q : Value → Shared → Prop} (hl : ∀ d ∈ l, Ok 7 d) (ha : Ok 8 a) (hu : A.units + 80 < cLine) (r1 : Rep W H s.heap v a)
    (r2 : Rep W H s.heap u (.list l)) (h : Q (.bool (!l.any fun y => deq y a)) s) : wpAny (model W.prog W.w) A (compareOp .NotIn v u) Q E s := by
  obtain ⟨as, q1⟩ := rep_reads 8 r1 ha
  obtain ⟨bs, q2⟩ := rep_reads 8 r2 (by simpa [Ok] using hl)
  obtain ⟨l1, d1⟩ := ok_lay 8 a ha
  obtain ⟨l2, d2⟩ := ok_all 7 l hl
  exact SeqAt.notIn_list_reads q2 q1 l2 l1 (by have := Nat.min_le_right (PyData.depthAll (pys l)) a.py.depth; omega) (by rw [pys_any]; exact h)
theorem o_in {l : List D} {a : D} (hl : ∀ d ∈ l, Ok 7 d) (ha : Ok 8 a) (h : K (.bool (l.any fun y => deq y a))) : op2W W A (compareOp .In) a (.list l) K := fun E s H δ v u _ hu G r1 r2 =>
  in_core hl ha hu r1 r2 ⟨_, .refl, .bool _, h⟩
theorem o_notin {l : List D} {a : D} (hl : ∀ d ∈ l, Ok 7 d) (ha : Ok 8 a) (h : K (.bool (!l.any fun y => deq y a))) : op2W W A (compareOp .NotIn) a (.list l) K := fun E s H δ v u _ hu G r1 r2 =>
  notin_core hl ha hu r1 r2 ⟨_, .refl, .bool _, h⟩
theorem o_notint {l : List D} {a : D} (hl : ∀ d ∈ l, Ok 7 d) (ha : Ok 8 a) (h : K (.bool (!l.any fun y => deq y a))) : op2W W A (compareOp .NotIn) a (.tup l) K := fun E s H δ v u _ hu G r1 r2 => by
  obtain ⟨as, q1⟩ := rep_reads 8 r1 ha
  obtain ⟨bs, q2⟩ := rep_reads 8 r2 (by simpa [Ok] using hl)
  obtain ⟨l1, d1⟩ := ok_lay 8 a ha
  obtain ⟨l2, d2⟩ := ok_all 7 l hl
  exact SeqAt.notIn_tuple_reads q2 q1 l2 l1 (by have := Nat.min_le_right (PyData.depthAll (pys l)) a.py.depth; omega) (by rw [pys_any]; exact ⟨_, .refl, .bool _, h⟩)

/-- dicts of ints -/
def dget (l : List (Int × D)) (k : Int) : Option D := (l.find? fun p => p.1 = k).map (·.2)
def dset (l : List (Int × D)) (k : Int) (d : D) : List (Int × D) := if l.any (fun p => p.1 = k) then l.map (fun p => if p.1 = k then (p.1, d) else p) else l ++ [(k, d)]

theorem dget_rep {W : Wd} {H : List Addr} {h : Heap} {k : Int} : ∀ {kvs : List (Int × Value)} {ds : List (Int × D)}, kvs.map (·.1) = ds.map (·.1) → RepAll W H h (kvs.map (·.2)) (ds.map (·.2)) →
    (match dget ds k with | some d => ∃ v, valueAt kvs k = some v ∧ Rep W H h v d | none => valueAt kvs k = Option.none)
  | [], [], _, _ => rfl
  | [], _ :: _, e, _ => by simp at e
  | _ :: _, [], e, _ => by simp at e
  | (a, v) :: kvs, (b, d) :: ds, e, r => by
    simp only [List.map_cons, List.cons.injEq] at e
    obtain ⟨rfl, e⟩ := e
    cases r with
    | cons r1 r2 =>
      have ih := dget_rep (k := k) e r2
      by_cases hk : a = k
      · subst hk
        simp only [dget, List.find?_cons, decide_true, Option.map_some, valueAt]
        exact ⟨v, rfl, r1⟩
      · simp only [dget, valueAt, List.find?_cons, decide_eq_false hk] at ih ⊢
        exact ih
theorem dget_some {W : Wd} {H : List Addr} {h : Heap} {k : Int} {kvs : List (Int × Value)} {ds : List (Int × D)} (e : kvs.map (·.1) = ds.map (·.1)) (r : RepAll W H h (kvs.map (·.2)) (ds.map (·.2))) : (valueAt kvs k).isSome = (dget ds k).isSome := by
  have := dget_rep (k := k) e r
  cases q : dget ds k with
  | none => rw [q] at this; rw [this]; rfl
  | some d => rw [q] at this; obtain ⟨v, e, _⟩ := this; rw [e]; rfl
theorem o_ind {l : List (Int × D)} (h : K (.bool (dget l i).isSome)) : op2W W A (compareOp .In) (.int i) (.dict l) K := fun E s H δ v u _ hu G r1 r2 => by
  obtain ⟨t, rfl⟩ := rep_int r1
  obtain ⟨a, kvs, rfl, q, hd, e, r⟩ := rep_dict r2
  exact wpAny_in_of (intKind_is _ _ _ _) q hd.mapOf (by rw [dget_some e r]; exact ⟨_, .tok, .bool _, h⟩)
theorem o_notind {l : List (Int × D)} (h : K (.bool (!(dget l i).isSome))) : op2W W A (compareOp .NotIn) (.int i) (.dict l) K := fun E s H δ v u _ hu G r1 r2 => by
  obtain ⟨t, rfl⟩ := rep_int r1
  obtain ⟨a, kvs, rfl, q, hd, e, r⟩ := rep_dict r2
  exact wpAny_notIn_of (intKind_is _ _ _ _) q hd.mapOf (by rw [dget_some e r]; exact ⟨_, .tok, .bool _, h⟩)

theorem o_addl {l r : List D} (hz : l.length + r.length ≤ sizeLine) (h : K (.list (l ++ r))) : op2W W A (binaryOp .Add) (.list l) (.list r) K := fun E s H δ v u _ _ G r1 r2 => by
  cases r1 with
  | list n1 hl q1 =>
    cases r2 with
    | list n2 hb q2 =>
      rename_i a vs b ws
      obtain ⟨⟨cls, dd, data, sl⟩, ho, hc, n, hd⟩ := id hl.isList
      obtain ⟨⟨cls2, dd2, data2, sl2⟩, ho2, hc2, n2, hd2⟩ := id hb.isList
      simp only at hc hd hc2 hd2
      subst hc hd hc2 hd2
      have e : vs.toArray ++ ws.toArray = (vs ++ ws).toArray := by simp
      refine concat_meets ⟨_, ho, rfl⟩ ⟨_, ho2, rfl⟩ noFill_list_add seq_list_add PySem.F.slot_list_add PySem.F.entry_list_add (PySem.F.args_list_add_2 _ _) (list_addW a b vs.toArray ws.toArray n n2 dd dd2 sl sl2 (by simpa [q1.length, q2.length] using hz)) ⟨ho, ho2, ?_⟩
      rw [e]
      obtain ⟨x, y⟩ := rep_newList G (q1.append q2)
      exact ⟨_, x, y, h⟩
end
/-! part L4 -/
section
variable {W : Wd} {C : FC} {m : Map} {δ : W.Δ} {K : D → W.Δ → Prop}

/-! subscripts -/
theorem ev_sub {value slice : Expr} {pos : Pos} (h : evW W C value (fun a δ₁ => evW W C slice (fun b δ₂ => op2W W C.A (subscriptTail value slice) a b (fun d => K d δ₂)) m δ₁) m δ) : evW W C (.Subscript value slice pos) K m δ := fun E s H R => by
  refine Subscript_ (wpAny_mono (h E s H R) ?_ fun _ _ e => e)
  rintro v s1 ⟨a, δ1, k1, G1, r1, h1⟩
  refine wpAny_mono (h1 E s1 H (R.keepX k1 G1)) ?_ fun _ _ e => e
  rintro u s2 ⟨b, δ2, k2, G2, r2, h2⟩
  refine wpAny_mono (h2 E s2 H δ2 v u R.hh R.u80 G2 (r1.mono (k2.tr G1)) r2) ?_ fun _ _ e => e
  rintro r s3 ⟨d, k3, r3, h3⟩
  exact ⟨d, δ2, (k1.trans k2).trans k3.x, G2.keep k3, r3, h3⟩

theorem o_item {value slice : Expr} {l : List D} {i : Int} {d : D} {A : Around} {K : D → Prop} (h0 : 0 ≤ i) (hi : i < 2 ^ 63) (hd : l[i.toNat]? = some d) (h : K d)
    (hs : ∀ o j, subscripted slice false o j = operate [o, j] (getItem o j) := by intro _ _; with_unfolding_all rfl) : op2W W A (subscriptTail value slice) (.list l) (.int i) K := fun E s H δ v u _ _ G r1 r2 => by
  cases r2
  cases r1 with
  | list n hl q =>
    obtain ⟨x, hx, rx⟩ := q.get hd
    exact tail_any hl.isList.typeIs slot_list_getitem.lookup (wpAny_getItem_list hl.isList h0 hi (by simpa using hx) ⟨d, .refl, rx, h⟩) (hs _ _)
theorem o_itemNeg {value slice : Expr} {l : List D} {i : Int} {d : D} {A : Around} {K : D → Prop} (h0 : i < 0) (hi : -(2 ^ 63) ≤ i) (hb : -(l.length : Int) ≤ i) (hd : l[(i + l.length).toNat]? = some d) (h : K d)
    (hs : ∀ o j, subscripted slice false o j = operate [o, j] (getItem o j) := by intro _ _; with_unfolding_all rfl) : op2W W A (subscriptTail value slice) (.list l) (.int i) K := fun E s H δ v u _ _ G r1 r2 => by
  cases r2
  cases r1 with
  | list n hl q =>
    obtain ⟨x, hx, rx⟩ := q.get hd
    exact tail_any hl.isList.typeIs slot_list_getitem.lookup (wpAny_getItem_list_neg hl.isList h0 (by simpa [q.length] using hb) hi (by simpa [q.length] using hx) ⟨d, .refl, rx, h⟩) (hs _ _)
theorem o_itemT {value slice : Expr} {l : List D} {i : Int} {d : D} {A : Around} {K : D → Prop} (h0 : 0 ≤ i) (hi : i < 2 ^ 63) (hd : l[i.toNat]? = some d) (h : K d)
    (hs : ∀ o j, subscripted slice false o j = operate [o, j] (getItem o j) := by intro _ _; with_unfolding_all rfl) : op2W W A (subscriptTail value slice) (.tup l) (.int i) K := fun E s H δ v u _ _ G r1 r2 => by
  cases r2
  cases r1 with
  | tup n hl q =>
    obtain ⟨x, hx, rx⟩ := q.get hd
    have hlt : i.toNat < l.length := (List.getElem?_eq_some_iff.mp hd).1
    refine item_tupleT hl (by omega) hi (j := i.toNat) ?_ hx ⟨d, .refl, rx, h⟩ (hs _ _)
    rw [q.length]
    unfold seqIndex?
    simp only [show ¬ i < 0 by omega, if_false]
    rw [if_pos (by simp only [Bool.and_eq_true, decide_eq_true_eq]; omega)]
theorem o_itemD {value slice : Expr} {l : List (Int × D)} {i : Int} {d : D} {A : Around} {K : D → Prop} (hd : dget l i = some d) (h : K d)
    (hs : ∀ o j, subscripted slice false o j = operate [o, j] (getItem o j) := by intro _ _; with_unfolding_all rfl) : op2W W A (subscriptTail value slice) (.dict l) (.int i) K := fun E s H δ v u _ _ G r1 r2 => by
  cases r2
  cases r1 with
  | dict n q hD e r =>
    have := dget_rep (k := i) e r
    rw [hd] at this
    obtain ⟨x, hx, rx⟩ := this
    refine tail_any hD.typeIs slot_dict_getitem.lookup (wpAny_getItem_of (intKind_is _ _ _ _) hD.mapOf hx ⟨d, .tok, rx.mono ?_, h⟩) (hs _ _)
    exact KeepA.tr (s := s) .tok

theorem ev_slice {value : Expr} {lo hi : Option Expr} {p pos : Pos}
    (h : evW W C value (fun a δ₁ => ∃ l : List D, a = .list l ∧ l.length ≤ sizeLine ∧ (match lo, hi with
      | some e, none => evW W C e (fun b δ₂ => ∃ i : Int, b = .int i ∧ 0 ≤ i ∧ K (.list (l.drop i.toNat)) δ₂) m δ₁
      | none, some e => evW W C e (fun b δ₂ => ∃ i : Int, b = .int i ∧ ((0 ≤ i ∧ K (.list (l.take i.toNat)) δ₂) ∨ (i < 0 ∧ K (.list (l.take (l.length - (-i).toNat))) δ₂))) m δ₁
      | _, _ => False)) m δ)
    (hl : ∀ o r, letTemporaryGo value o r = pure () := by intro _ _; rfl) : evW W C (.Subscript value (.Slice lo hi none p) pos) K m δ := fun E s H R => by
  refine wpAny_Subscript_list_slice (wpAny_mono (h E s H R) ?_ fun _ _ e => e) hl
  rintro v s1 ⟨a, δ1, k1, G1, r1, l, rfl, hz, h1⟩
  have two : ∀ (s3 : Shared) (δ3 : W.Δ) (vl vu : Value) (items : Array Value) (l' : List D) (vs' : List Value), GS W H δ3 s3 → items = vs'.toArray → RepAll W H s3.heap vs' l' →
      KeepA s3 { s3 with heap := (s3.heap.push { cls := .type "slice", data := .fields #[vl, vu, .none] }).push { cls := .type "list", data := .seq items } } ∧
      Rep W H ((s3.heap.push { cls := .type "slice", data := .fields #[vl, vu, .none] }).push { cls := .type "list", data := .seq items }) (.ref (s3.heap.objs.size + 1)) (.list l') := by
    rintro s3 δ3 vl vu items l' vs' G3 rfl r
    have e : (s3.heap.push { cls := .type "slice", data := .fields #[vl, vu, .none] }).objs.size = s3.heap.objs.size + 1 := Heap.size_push ..
    have G4 : GS W H δ3 { s3 with heap := s3.heap.push { cls := .type "slice", data := .fields #[vl, vu, .none] } } := G3.keep .push
    obtain ⟨x, y⟩ := rep_newList G4 (r.mono fun b o e n => ⟨Heap.get?_push_of_some _ e, n⟩)
    refine ⟨KeepA.trans (s' := { s3 with heap := s3.heap.push { cls := .type "slice", data := .fields #[vl, vu, .none] } }) .push x, ?_⟩
    rw [← e]; exact y
  cases r1 with
  | list n1 hL q1 =>
    rename_i al vs
    have hvz : vs.toArray.size ≤ sizeLine := by simp only [List.size_toArray, q1.length]; exact hz
    match lo, hi, h1 with
    | some e, none, h1 =>
      refine wpAny_mono (h1 E s1 H (R.keepX k1 G1)) ?_ fun _ _ e => e
      rintro u s2 ⟨b, δ2, k2, G2, r2, i, rfl, h0, h2⟩
      cases r2
      refine wpAny_pure (a := Value.none) ⟨al, vs.toArray, some i, none, rfl, (plainL_at hL fun o eo => k2.2 _ _ eo fun hm => n1 (G1.dh _ hm)).isList, hvz, .int _ _, .none, ?_⟩
      have e1 : slicePick vs.toArray (some i) none none = (vs.drop i.toNat).toArray := by
        have := slicePick_from' vs.toArray i.toNat
        rw [Int.toNat_of_nonneg h0] at this
        simpa using this
      obtain ⟨x, y⟩ := two s2 δ2 (.int i _) .none _ _ _ G2 e1 ((q1.mono (k2.tr G1)).drop i.toNat)
      exact ⟨_, δ2, (k1.trans k2).trans x.x, G2.keep x, y, h2⟩
    | none, some e, h1 =>
      refine wpAny_pure (a := Value.none) ?_
      refine wpAny_mono (h1 E s1 H (R.keepX k1 G1)) ?_ fun _ _ e => e
      rintro u s2 ⟨b, δ2, k2, G2, r2, i, rfl, h2⟩
      cases r2
      refine ⟨al, vs.toArray, none, some i, rfl, (plainL_at hL fun o eo => k2.2 _ _ eo fun hm => n1 (G1.dh _ hm)).isList, hvz, .none, .int _ _, ?_⟩
      rcases h2 with ⟨h0, h2⟩ | ⟨h0, h2⟩
      · have e1 : slicePick vs.toArray none (some i) none = (vs.take i.toNat).toArray := by
          have := slicePick_upto' vs.toArray i.toNat
          rw [Int.toNat_of_nonneg h0] at this
          simpa using this
        obtain ⟨x, y⟩ := two s2 δ2 .none (.int i _) _ _ _ G2 e1 ((q1.mono (k2.tr G1)).take i.toNat)
        exact ⟨_, δ2, (k1.trans k2).trans x.x, G2.keep x, y, h2⟩
      · have e1 : slicePick vs.toArray none (some i) none = (vs.take (l.length - (-i).toNat)).toArray := by
          have := slicePick_butLast vs.toArray (-i).toNat (by omega)
          rw [Int.toNat_of_nonneg (by omega), Int.neg_neg] at this
          simpa [q1.length] using this
        obtain ⟨x, y⟩ := two s2 δ2 .none (.int i _) _ _ _ G2 e1 ((q1.mono (k2.tr G1)).take (l.length - (-i).toNat))
        exact ⟨_, δ2, (k1.trans k2).trans x.x, G2.keep x, y, h2⟩
    | some _, some _, h1 => exact h1.elim
    | none, none, h1 => exact h1.elim

/-! calls -/
def CallOK (W : Wd) (fa : Addr) (n : Nat) (ds : List D) (K : D → W.Δ → Prop) (δ : W.Δ) : Prop :=
  ∀ (A : Around) (E : Value → Shared → Prop) (s : Shared) (H : List Addr) (vs : List Value), A.handled = Option.none → A.depth + n < recursionLimit → A.units + 8 * n + 80 < cLine → A.guards = some [] →
    GS W H δ s → RepAll W H s.heap vs ds →
    wpAny (model W.prog W.w) A (call (.ref fa) vs) (EvP W H s K) E s
def BltOK (W : Wd) (f : Value) (A : Around) (ds : List D) (K : D → Prop) : Prop :=
  ∀ (E : Value → Shared → Prop) (s : Shared) (H : List Addr) (δ : W.Δ) (vs : List Value), A.handled = Option.none → A.units + 80 < cLine → A.guards = some [] → GS W H δ s → RepAll W H s.heap vs ds →
    wpAny (model W.prog W.w) A (call f vs) (OpP W H s K) E s

theorem CallOK.weaken {fa : Addr} {n n' : Nat} {ds : List D} (h : CallOK W fa n ds K δ) (hn : n ≤ n') : CallOK W fa n' ds K δ := fun A E s H vs a b c d e f =>
  h A E s H vs a (by omega) (by omega) d e f
theorem CallOK.mono {fa : Addr} {n : Nat} {ds : List D} {K' : D → W.Δ → Prop} (h : CallOK W fa n ds K δ) (k : ∀ d δ', K d δ' → K' d δ') : CallOK W fa n ds K' δ := fun A E s H vs a b c d e f =>
  wpAny_mono (h A E s H vs a b c d e f) (fun v s' ⟨d, δ', p, q, r, t⟩ => ⟨d, δ', p, q, r, k _ _ t⟩) fun _ _ e => e

theorem global_name {f : Str} {fp : Pos} {v : Value} {E : Value → Shared → Prop} {s : Shared} {H : List Addr} {Q : Value → Shared → Prop} (R : Rel W C H m δ s) (hk : C.env.kindOf f = some .globalImplicit) (hf : W.mg f = some v) (h : Q v s)
    (hd : (f == ("__debug__" : Str)) = false := by decide) : wpAny (model W.prog W.w) C.A (eval (.Name f fp) C.env) Q E s :=
  Name_function_global R.fn hk (loadGlobal_global (by rw [R.gl]; exact W.hg.keeps fun b o e => (R.gs.base b o e).1) hf h) hd
theorem builtin_name {f : Str} {fp : Pos} {v : Value} {E : Value → Shared → Prop} {s : Shared} {H : List Addr} {Q : Value → Shared → Prop} (R : Rel W C H m δ s) (hk : C.env.kindOf f = some .globalImplicit) (hg : W.mg f = none) (hf : W.mb f = some v) (h : Q v s)
    (hd : (f == ("__debug__" : Str)) = false := by decide) : wpAny (model W.prog W.w) C.A (eval (.Name f fp) C.env) Q E s :=
  Name_function_global R.fn hk (loadGlobal_builtin (by rw [R.gl]; exact W.hg.keeps fun b o e => (R.gs.base b o e).1) hg (by rw [R.bl]; exact W.hbb.keeps fun b o e => (R.gs.base b o e).1) hf h) hd

theorem evalArgs_all {f : Value} {es : List Expr} {E : Value → Shared → Prop} {s : Shared} {Q : Args → Shared → Prop} {M : Model} {A : Around} {env : Env}
    (h : wpAny M A (spliced (es.map fun e => (false, eval e env))) (fun vs s' => Q { pos := vs } s') E s) : wpAny M A (evalArgs f true (es.map fun e => (false, eval e env)) []) Q E s := by
  cases es with
  | nil =>
    unfold evalArgs
    show wpAny M A (spliced [] >>= _) Q E s
    refine wpAny_bind (wpAny_mono h (fun vs s1 h1 => wpAny_bind (wpAny_pure ?_)) fun _ _ e => e)
    refine wpAny_holding ?_
    exact wpAny_bind (wpAny_pure (wpAny_bind (wpAny_pure (wpAny_pure h1))))
  | cons e r => exact evalArgs_plain h

theorem ev_call {f : Str} {fp pos : Pos} {args : List Expr} {fa : Addr} {fd : FuncData} {o : Obj} (hf : W.mg f = some (.ref fa)) (ho : W.hb.get? fa = some o) (hd : o.data = .func fd)
    (h : evsW W C args (fun ds δ' => CallOK W fa C.n ds K δ') m δ) (hk : C.env.kindOf f = some .globalImplicit := by rfl) (hs : noStar args = true := by rfl) (hd' : (f == ("__debug__" : Str)) = false := by decide) :
    evW W C (.Call (.Name f fp) args [] pos) K m δ := fun E s H R => by
  refine Call_ (global_name R hk hf ?_ hd')
  rw [starEach_plain _ _ hs, backTo_plain]
  refine callWith_function (o := o) (fd := fd) (evalArgs_all (wpAny_mono (evs_spliced args h E s H R) ?_ fun _ _ e => e))
  rintro vs s1 ⟨ds, δ1, k1, G1, r1, h1⟩
  refine ⟨⟨(G1.base _ _ ho).1, hd⟩, ?_⟩
  refine wpAny_mono (h1 C.A E s1 H vs R.hh R.room R.units R.gd G1 r1) ?_ fun _ _ e => e
  rintro v s2 ⟨d, δ2, k2, G2, r2, h2⟩
  exact ⟨d, δ2, k1.trans k2, G2, r2, h2⟩

theorem plain_args {es : List Expr} {env : Env} : (List.any (es.map fun e => (false, eval e env)) fun x => x.fst) = false := by
  induction es with
  | nil => rfl
  | cons e r ih => rw [List.map_cons, List.any_cons, ih]; rfl

theorem ev_callb {f : Str} {id : String} {fp pos : Pos} {args : List Expr} (hg : W.mg f = none) (hf : W.mb f = some (.builtin id))
    (h : evsW W C args (fun ds δ' => BltOK W (.builtin id) C.A ds (fun d => K d δ')) m δ) (hk : C.env.kindOf f = some .globalImplicit := by rfl) (hs : noStar args = true := by rfl) (hd' : (f == ("__debug__" : Str)) = false := by decide) :
    evW W C (.Call (.Name f fp) args [] pos) K m δ := fun E s H R => by
  refine Call_ (builtin_name R hk hg hf ?_ hd')
  rw [starEach_plain _ _ hs, backTo_plain]
  refine callWith_builtin plain_args (evalArgs_all (wpAny_mono (evs_spliced args h E s H R) ?_ fun _ _ e => e))
  rintro vs s1 ⟨ds, δ1, k1, G1, r1, h1⟩
  refine wpAny_mono (h1 E s1 H δ1 vs R.hh R.u80 R.gd G1 r1) ?_ fun _ _ e => e
  rintro v s2 ⟨d, k2, r2, h2⟩
  exact ⟨d, δ1, k1.trans k2.x, G1.keep k2, r2, h2⟩
theorem ev_callt {f : Str} {id : String} {fp pos : Pos} {args : List Expr} (hg : W.mg f = none) (hf : W.mb f = some (.type id))
    (h : evsW W C args (fun ds δ' => BltOK W (.type id) C.A ds (fun d => K d δ')) m δ) (hk : C.env.kindOf f = some .globalImplicit := by rfl) (hs : noStar args = true := by rfl) (hd' : (f == ("__debug__" : Str)) = false := by decide) :
    evW W C (.Call (.Name f fp) args [] pos) K m δ := fun E s H R => by
  refine Call_ (builtin_name R hk hg hf ?_ hd')
  rw [starEach_plain _ _ hs, backTo_plain]
  refine PyProof.Rows.callWith_type plain_args (evalArgs_all (wpAny_mono (evs_spliced args h E s H R) ?_ fun _ _ e => e))
  rintro vs s1 ⟨ds, δ1, k1, G1, r1, h1⟩
  refine wpAny_mono (h1 E s1 H δ1 vs R.hh R.u80 R.gd G1 r1) ?_ fun _ _ e => e
  rintro v s2 ⟨d, k2, r2, h2⟩
  exact ⟨d, δ1, k1.trans k2.x, G1.keep k2, r2, h2⟩
end
/-! part L5 -/

theorem keepA_ext {s : Shared} {h' : Heap} {n : Nat} (e : Heap.ExtBut s.heap.objs.size s.heap h') : KeepA s { s with heap := h', toks := n } :=
  ⟨.refl, fun b o x => e b o (Nat.ne_of_lt (Heap.lt_size x)) x⟩
theorem upd_self {m : Map} {x : Str} {e : Ent} : upd m x e x = some e := by simp [upd]
theorem upd_ne {m : Map} {x y : Str} {e : Ent} (h : y ≠ x) : upd m x e y = m y := by simp [upd, h]

section
variable {W : Wd} {C : FC} {H : List Addr} {m : Map} {δ : W.Δ} {s : Shared}

theorem Fm.ofX {s' : Shared} (k : KeepX W s s') : Fm W C m H s m H s' :=
  ⟨k.1, fun b o e n => ⟨k.2 b o e fun q => n (.inr (.inr (.inl q))), n⟩, fun _ _ _ n => n, fun _ _ _ n => .inl n⟩

/-- a name that is new or changes: the general step. `own`: the addresses that x's new entry owns -/
theorem Rel.setLocal (R : Rel W C H m δ s) {x : Str} {v : Value} {e : Ent} {h' : Heap} {tk : Nat} {mm : Str → Option Value} (hk : C.env.kindOf x = some .local)
    (hm : ∀ y e, m y = some e → ∃ v, At W C H s.heap mm y v ∧ EntIs W H s.heap e v)
    (hn : h'.Ns C.env.locals fun y => if y = x then some v else mm y) (hs : Heap.SameBut C.env.locals s.heap h')
    (he : EntIs W H s.heap e v) (ho : ∀ a d, e = .own a d → a ∈ H ∧ a ∉ W.da ∧ a ≠ C.env.locals ∧ a ∉ C.cw ∧ ∀ y d', m y = some (.own a d') → y = x) :
    Rel W C H (upd m x e) δ { s with heap := h', toks := tk } ∧ ∀ b o, b ≠ C.env.locals → s.heap.get? b = some o → h'.get? b = some o := by
  have keep : ∀ b o, b ≠ C.env.locals → s.heap.get? b = some o → h'.get? b = some o := fun b o n e => hs.extBut b o n e
  have tr : Trans H s.heap H h' := fun b o e n => ⟨keep b o (fun q => n (q ▸ R.lh)) e, n⟩
  have hent : ∀ {e : Ent} {v : Value}, EntIs W H s.heap e v → (∀ a d, e = .own a d → a ≠ C.env.locals) → EntIs W H h' e v := fun q ho => q.mono tr fun a d ea o eo => keep a o (ho a d ea) eo
  refine ⟨⟨⟨fun b o e => ⟨keep b o (fun q => (R.gs.base b o e).2 (q ▸ R.lh)) (R.gs.base b o e).1, (R.gs.base b o e).2⟩, W.stable _ _ _ (fun a ha o e => keep a o (fun q => R.ld (q ▸ ha)) e) R.gs.deck, R.gs.dh, fun a ha => ?_⟩,
    R.fn, R.gl, R.bl, R.hh, R.room, R.units, R.gd, ⟨_, hn, ?_⟩, R.lh, R.ld, R.cw, ?_, R.ci, ?_, ?_⟩, keep⟩
  · obtain ⟨o, eo⟩ := R.gs.hex a ha
    by_cases q : a = C.env.locals
    · subst q; obtain ⟨o, _, _, eo, _⟩ := hn; exact ⟨o, eo⟩
    · exact ⟨o, keep a o q eo⟩
  · intro y e' hy
    by_cases hxy : y = x
    · subst hxy
      simp only [upd, if_true, Option.some.injEq] at hy
      subst hy
      exact ⟨v, .inl ⟨hk, by simp⟩, hent he fun a d ea => (ho a d ea).2.2.1⟩
    · simp only [upd, if_neg hxy] at hy
      obtain ⟨v', a, b⟩ := hm y e' hy
      refine ⟨v', ?_, hent b fun a d ea => (R.own y a d (ea ▸ hy)).2.2.1⟩
      rcases a with ⟨a, a'⟩ | ⟨a, c, hc, ⟨oc, ho', hd⟩, hH, hd'⟩
      · exact .inl ⟨a, by simp only [if_neg hxy]; exact a'⟩
      · refine .inr ⟨a, c, hc, ⟨oc, keep c oc ?_ ho', hd⟩, hH, hd'⟩
        rintro rfl
        obtain ⟨mm', ⟨o, es, ep, hh, hdd, _⟩, _⟩ := R.loc
        rw [hh] at ho'; cases ho'; rw [hdd] at hd; cases hd
  · intro y c hk' hc hw
    obtain ⟨v₀, o, eo, hd⟩ := R.cx y c hk' hc hw
    exact ⟨v₀, o, keep c o (R.cw c hw).2.2 eo, hd⟩
  · intro y a d hy
    by_cases hxy : y = x
    · subst hxy
      simp only [upd, if_true, Option.some.injEq] at hy
      exact ⟨(ho a d hy).1, (ho a d hy).2.1, (ho a d hy).2.2.1, (ho a d hy).2.2.2.1⟩
    · simp only [upd, if_neg hxy] at hy; exact R.own y a d hy
  · intro y z a d d' hy hz
    by_cases hxy : y = x
    · by_cases hxz : z = x
      · rw [hxy, hxz]
      · subst hxy
        simp only [upd, if_true, Option.some.injEq] at hy
        simp only [upd, if_neg hxz] at hz
        exact ((ho a d hy).2.2.2.2 z d' hz).symm
    · by_cases hxz : z = x
      · subst hxz
        simp only [upd, if_true, Option.some.injEq] at hz
        simp only [upd, if_neg hxy] at hy
        exact (ho a d' hz).2.2.2.2 y d hy
      · simp only [upd, if_neg hxy] at hy
        simp only [upd, if_neg hxz] at hz
        exact R.oi y z a d d' hy hz

theorem Rel.setCell (R : Rel W C H m δ s) {x : Str} {c : Addr} {v : Value} {e : Ent} {h' : Heap} {tk : Nat} (hk : C.env.kindOf x = some .cell) (hc : C.env.cells.lookup x = some c) (hw : c ∈ C.cw)
    (hn : h'.IsCell c (some v)) (hs : Heap.SameBut c s.heap h')
    (he : EntIs W H s.heap e v) (ho : ∀ a d, e = .own a d → a ∈ H ∧ a ∉ W.da ∧ a ≠ C.env.locals ∧ a ∉ C.cw ∧ ∀ y d', m y = some (.own a d') → y = x) :
    Rel W C H (upd m x e) δ { s with heap := h', toks := tk } ∧ ∀ b o, b ≠ c → s.heap.get? b = some o → h'.get? b = some o := by
  have cH := (R.cw c hw).1
  have keep : ∀ b o, b ≠ c → s.heap.get? b = some o → h'.get? b = some o := fun b o n e => hs.extBut b o n e
  have tr : Trans H s.heap H h' := fun b o e n => ⟨keep b o (fun q => n (q ▸ cH)) e, n⟩
  have hent : ∀ {e : Ent} {v : Value}, EntIs W H s.heap e v → (∀ a d, e = .own a d → a ≠ c) → EntIs W H h' e v := fun q ho => q.mono tr fun a d ea o eo => keep a o (ho a d ea) eo
  refine ⟨⟨⟨fun b o e => ⟨keep b o (fun q => (R.gs.base b o e).2 (q ▸ cH)) (R.gs.base b o e).1, (R.gs.base b o e).2⟩, W.stable _ _ _ (fun a ha o e => keep a o (fun q => (R.cw c hw).2.1 (q ▸ ha)) e) R.gs.deck, R.gs.dh, fun a ha => ?_⟩,
    R.fn, R.gl, R.bl, R.hh, R.room, R.units, R.gd, ?_, R.lh, R.ld, R.cw, ?_, R.ci, ?_, ?_⟩, keep⟩
  · obtain ⟨o, eo⟩ := R.gs.hex a ha
    by_cases q : a = c
    · subst q; obtain ⟨o, eo, _⟩ := hn; exact ⟨o, eo⟩
    · exact ⟨o, keep a o q eo⟩
  · obtain ⟨mm, hns, hm⟩ := R.loc
    refine ⟨mm, hns.at' fun o e => keep _ o (R.cw c hw).2.2.symm e, fun y e' hy => ?_⟩
    by_cases hxy : y = x
    · subst hxy
      simp only [upd, if_true, Option.some.injEq] at hy
      subst hy
      exact ⟨v, .inr ⟨.inl hk, c, hc, hn, cH, (R.cw c hw).2.1⟩, hent he fun a d ea q => (ho a d ea).2.2.2.1 (q ▸ hw)⟩
    · simp only [upd, if_neg hxy] at hy
      obtain ⟨v', a, b⟩ := hm y e' hy
      refine ⟨v', ?_, hent b fun a d ea q => (R.own y a d (ea ▸ hy)).2.2.2 (q ▸ hw)⟩
      rcases a with ⟨a, a'⟩ | ⟨a, c', hc', ⟨oc, ho', hd⟩, hH, hd'⟩
      · exact .inl ⟨a, a'⟩
      · exact .inr ⟨a, c', hc', ⟨oc, keep c' oc (fun q => hxy (R.ci y x c (q ▸ hc') hc)) ho', hd⟩, hH, hd'⟩
  · intro y c' hk' hc' hw'
    by_cases q : c' = c
    · subst q; exact ⟨_, hn⟩
    · obtain ⟨v₀, o, eo, hd⟩ := R.cx y c' hk' hc' hw'
      exact ⟨v₀, o, keep c' o q eo, hd⟩
  · intro y a d hy
    by_cases hxy : y = x
    · subst hxy
      simp only [upd, if_true, Option.some.injEq] at hy
      exact ⟨(ho a d hy).1, (ho a d hy).2.1, (ho a d hy).2.2.1, (ho a d hy).2.2.2.1⟩
    · simp only [upd, if_neg hxy] at hy; exact R.own y a d hy
  · intro y z a d d' hy hz
    by_cases hxy : y = x
    · by_cases hxz : z = x
      · rw [hxy, hxz]
      · subst hxy
        simp only [upd, if_true, Option.some.injEq] at hy
        simp only [upd, if_neg hxz] at hz
        exact ((ho a d hy).2.2.2.2 z d' hz).symm
    · by_cases hxz : z = x
      · subst hxz
        simp only [upd, if_true, Option.some.injEq] at hz
        simp only [upd, if_neg hxy] at hy
        exact (ho a d' hz).2.2.2.2 y d hy
      · simp only [upd, if_neg hxy] at hy
        simp only [upd, if_neg hxz] at hz
        exact R.oi y z a d d' hy hz

theorem md_upd_val {x : Str} {d : D} {b : Addr} (h : Md W C (upd m x (.val d)) b) : Md W C m b := by
  rcases h with q | q | q | ⟨y, d', q⟩
  · exact .inl q
  · exact .inr (.inl q)
  · exact .inr (.inr (.inl q))
  · by_cases hxy : y = x
    · subst hxy; simp [upd] at q
    · simp only [upd, if_neg hxy] at q
      exact .inr (.inr (.inr ⟨y, d', q⟩))

/-- the kinds of names that may be stored -/
def Sto (C : FC) (x : Str) : Prop := C.env.kindOf x = some .local ∨ (C.env.kindOf x = some .cell ∧ ∃ c, C.env.cells.lookup x = some c ∧ c ∈ C.cw)

theorem store_gen (R : Rel W C H m δ s) {x : Str} {v : Value} {e : Ent} {E : Value → Shared → Prop} {Q : Unit → Shared → Prop} (hx : Sto C x) (he : EntIs W H s.heap e v)
    (ho : ∀ a d, e = .own a d → a ∈ H ∧ a ∉ W.da ∧ a ≠ C.env.locals ∧ a ∉ C.cw ∧ ∀ y d', m y = some (.own a d') → y = x)
    (h : ∀ s', Like s s' → Rel W C H (upd m x e) δ s' → (∀ b o, b ≠ C.env.locals → b ∉ C.cw → s.heap.get? b = some o → s'.heap.get? b = some o) → Q () s') :
    wpAny (model W.prog W.w) C.A (storeName C.env x v) Q E s := by
  rcases hx with hk | ⟨hk, c, hc, hw⟩
  · obtain ⟨mm, hn, hm⟩ := R.loc
    refine wpAny_storeName_local hk hn (fun h' hn' hs => ?_) (by rw [R.fn]; rfl)
    obtain ⟨a, b⟩ := R.setLocal (tk := s.toks + 1) hk hm hn' hs he ho
    exact h _ .refl a fun b' o n _ e => b b' o n e
  · obtain ⟨v₀, hi⟩ := R.cx x c hk hc hw
    refine wpAny_storeName_cell R.fn hk hc hi fun h' hn' hs => ?_
    obtain ⟨a, b⟩ := R.setCell (tk := s.toks) hk hc hw hn' hs he ho
    exact h _ .refl a fun b' o _ n e => b b' o (fun q => n (q ▸ hw)) e

theorem store_val (R : Rel W C H m δ s) {x : Str} {v : Value} {d : D} {E : Value → Shared → Prop} {Q : Unit → Shared → Prop} (hx : Sto C x) (he : Rep W H s.heap v d)
    (h : ∀ s', Rel W C H (upd m x (.val d)) δ s' → Fm W C m H s (upd m x (.val d)) H s' → Q () s') :
    wpAny (model W.prog W.w) C.A (storeName C.env x v) Q E s :=
  store_gen R hx (e := .val d) he (fun a d e => nomatch e) fun s' l R' k => h s' R' ⟨l, fun b o e n => ⟨k b o (fun q => n (.inl q)) (fun q => n (.inr (.inl q))) e, fun q => n (md_upd_val q)⟩, fun _ _ _ n => n, fun _ _ _ n => .inl n⟩

/-- a fresh object that no value shows yet is laid aside -/
theorem Rel.hide (R : Rel W C H m δ s) {o : Obj} (hf : o.isFreed = false) : Rel W C (s.heap.objs.size :: H) m δ { s with heap := s.heap.push o } := by
  have R1 := R.keep (s' := { s with heap := s.heap.push o }) .push
  have tr : Trans H (s.heap.push o) (s.heap.objs.size :: H) (s.heap.push o) ∨ True := .inr trivial
  have tr' : Trans H s.heap (s.heap.objs.size :: H) (s.heap.push o) := fun b ob e n => ⟨Heap.get?_push_of_some _ e, fun q => by
    rcases List.mem_cons.mp q with q | q
    · exact absurd (Heap.lt_size e) (by rw [q]; exact Nat.lt_irrefl _)
    · exact n q⟩
  refine { R1 with gs := ?_, loc := ?_, lh := List.mem_cons_of_mem _ R.lh, cw := fun c hc => ⟨List.mem_cons_of_mem _ (R.cw c hc).1, (R.cw c hc).2⟩, own := fun x a d e => ⟨List.mem_cons_of_mem _ (R.own x a d e).1, (R.own x a d e).2⟩ }
  · refine ⟨fun b ob e => ⟨(R1.gs.base b ob e).1, (tr' b ob (R.gs.base b ob e).1 (R.gs.base b ob e).2).2⟩, R1.gs.deck, fun a h => List.mem_cons_of_mem _ (R.gs.dh a h), fun a h => ?_⟩
    rcases List.mem_cons.mp h with q | q
    · exact ⟨o, by rw [q]; exact Heap.get?_push_size _ hf⟩
    · exact R1.gs.hex a q
  · obtain ⟨mm, hn, hm⟩ := R.loc
    refine ⟨mm, hn.push _, fun x e hx => ?_⟩
    obtain ⟨v, a, b⟩ := hm x e hx
    refine ⟨v, ?_, b.mono tr' fun a' d' _ o' eo => Heap.get?_push_of_some _ eo⟩
    rcases a with a | ⟨a, c, hc, ⟨oc, ho', hd⟩, hH, hd'⟩
    · exact .inl a
    · exact .inr ⟨a, c, hc, ⟨oc, Heap.get?_push_of_some _ ho', hd⟩, List.mem_cons_of_mem _ hH, hd'⟩
end
/-! part L6 -/
section
variable {W : Wd} {C : FC} {m : Map} {δ : W.Δ} {P : Fl → Map → W.Δ → Prop}

def afterW (W : Wd) (C : FC) (rest : List Stmt) (P : Fl → Map → W.Δ → Prop) : Fl → Map → W.Δ → Prop
  | .next, m, δ => stW W C rest P m δ
  | .ret d, m, δ => P (.ret d) m δ

theorem st_nil (h : P .next m δ) : stW W C [] P m δ := fun E s H R => wpAny_execs_nil ⟨H, m, δ, .refl, R, h⟩
theorem st_cons {st : Stmt} {rest : List Stmt} (h : exW W C st (afterW W C rest P) m δ) : stW W C (st :: rest) P m δ := fun E s H R => by
  refine wpAny_execs_cons (wpAny_mono (h E s H R) ?_ fun _ _ e => e)
  rintro f s1 ⟨H1, m1, δ1, F1, R1, h1⟩
  cases f with
  | next =>
    refine wpAny_mono (h1 E s1 H1 R1) ?_ fun _ _ e => e
    rintro f s2 ⟨H2, m2, δ2, F2, R2, h2⟩
    exact ⟨H2, m2, δ2, F1.trans R R1 F2, R2, h2⟩
  | ret v => exact ⟨H1, m1, δ1, F1, R1, h1⟩
  | _ => exact h1.elim
theorem ex_if {t : Expr} {b o : List Stmt} {pos : Pos} (h : teW W C t (fun c δ₁ => if c = true then stW W C b P m δ₁ else stW W C o P m δ₁) m δ) : exW W C (.If t b o pos) P m δ := fun E s H R => by
  refine wpAny_If (wpAny_mono (h E s H R) ?_ fun _ _ e => e)
  rintro c s1 ⟨δ1, k1, G1, h1⟩
  have R1 := R.keepX k1 G1
  cases c with
  | true =>
    simp only [if_true] at h1 ⊢
    exact wpAny_mono (h1 E s1 H R1) (fun f s2 ⟨H2, m2, δ2, F2, R2, h2⟩ => ⟨H2, m2, δ2, (Fm.ofX k1).trans R R1 F2, R2, h2⟩) fun _ _ e => e
  | false =>
    simp only [Bool.false_eq_true, if_false] at h1 ⊢
    exact wpAny_mono (h1 E s1 H R1) (fun f s2 ⟨H2, m2, δ2, F2, R2, h2⟩ => ⟨H2, m2, δ2, (Fm.ofX k1).trans R R1 F2, R2, h2⟩) fun _ _ e => e
theorem ex_return {e : Expr} {pos : Pos} (h : evW W C e (fun d δ' => P (.ret d) m δ') m δ) : exW W C (.Return (some e) pos) P m δ := fun E s H R => by
  refine wpAny_Return_some (wpAny_mono (h E s H R) ?_ fun _ _ e => e)
  rintro v s1 ⟨d, δ1, k1, G1, r1, h1⟩
  exact ⟨H, m, δ1, .ofX k1, R.keepX k1 G1, d, r1, h1⟩
theorem ex_assign {x : Str} {xp pos : Pos} {e : Expr} (h : evW W C e (fun d δ' => P .next (upd m x (.val d)) δ') m δ) (hx : Sto C x)
    (hs : swapsWith e (some (.Name x xp)) pos.line C.env = pure false := by rfl) : exW W C (.Assign [.Name x xp] e pos) P m δ := fun E s H R => by
  refine wpAny_Assign_Name (wpAny_mono (h E s H R) ?_ fun _ _ e => e) hs
  rintro v s1 ⟨d, δ1, k1, G1, r1, h1⟩
  have R1 := R.keepX k1 G1
  exact store_val R1 hx r1 fun s2 R2 F2 => ⟨H, _, δ1, (Fm.ofX k1).trans R R1 F2, R2, h1⟩

/-- an empty list, or dict, that the frame owns -/
theorem own_new (R : Rel W C H m δ s) {s₀ : Shared} (hs₀ : s₀ = s) {x : Str} {o : Obj} {d : D} {E : Value → Shared → Prop} {Q : Unit → Shared → Prop} (hf : o.isFreed = false) (hx : Sto C x)
    (he : EntIs W (s.heap.objs.size :: H) (s.heap.push o) (.own s.heap.objs.size d) (.ref s.heap.objs.size))
    (h : ∀ a s', Rel W C (a :: H) (upd m x (.own a d)) δ s' → Fm W C m H s (upd m x (.own a d)) (a :: H) s' → Q () s') :
    wpAny (model W.prog W.w) C.A (storeName C.env x (.ref s.heap.objs.size)) Q E { s with heap := s.heap.push o } := by
  have R1 := R.hide (o := o) hf
  have lt : ∀ a ∈ H, a < s.heap.objs.size := fun a h => let ⟨_, e⟩ := R.gs.hex a h; Heap.lt_size e
  have ne : ∀ a ∈ H, a ≠ s.heap.objs.size := fun a h => Nat.ne_of_lt (lt a h)
  refine store_gen R1 hx he (fun a d' e => ?_) fun s' l R2 k => h s.heap.objs.size s' R2 ⟨l, fun b ob e n => ?_, fun b ob e n q => ?_, fun b ob e n => .inl (List.mem_cons_of_mem _ n)⟩
  · cases e
    exact ⟨List.mem_cons_self, fun q => ne _ (R.gs.dh _ q) rfl, fun q => ne _ R.lh q.symm, fun q => ne _ (R.cw _ q).1 rfl, fun y d' hy => absurd rfl (ne _ (R.own y _ d' hy).1)⟩
  · refine ⟨k b ob (fun q => n (.inl q)) (fun q => n (.inr (.inl q))) (Heap.get?_push_of_some _ e), ?_⟩
    rintro (q | q | q | ⟨y, d', q⟩)
    · exact n (.inl q)
    · exact n (.inr (.inl q))
    · exact n (.inr (.inr (.inl q)))
    · by_cases hxy : y = x
      · subst hxy
        simp only [upd, if_true, Option.some.injEq, Ent.own.injEq] at q
        exact absurd (Heap.lt_size e) (by rw [← q.1]; exact Nat.lt_irrefl _)
      · simp only [upd, if_neg hxy] at q
        exact n (.inr (.inr (.inr ⟨y, d', q⟩)))
  · rcases List.mem_cons.mp q with q | q
    · exact absurd (Heap.lt_size e) (by rw [q]; exact Nat.lt_irrefl _)
    · exact n q

theorem ex_newList {x : Str} {xp lp pos : Pos} (h : ∀ a, P .next (upd m x (.own a (.list []))) δ) (hx : Sto C x)
    (hs : swapsWith (.List [] lp) (some (.Name x xp)) pos.line C.env = pure false := by rfl) : exW W C (.Assign [.Name x xp] (.List [] lp) pos) P m δ := fun E s H R => by
  refine wpAny_Assign_Name ?_ hs
  refine List_ (args_nil (wpAny_newList ?_ (by simp)))
  refine own_new R rfl rfl hx (d := .list []) ⟨rfl, [], ⟨_, _, Heap.get?_push_size _ rfl, rfl, rfl, rfl⟩, .nil⟩ fun a s' R' F' => ⟨_, _, δ, F', R', h a⟩
theorem ex_newDict {x : Str} {xp lp pos : Pos} (h : ∀ a, P .next (upd m x (.own a (.dict []))) δ) (hx : Sto C x)
    (hs : swapsWith (.Dict [] [] lp) (some (.Name x xp)) pos.line C.env = pure false := by rfl) : exW W C (.Assign [.Name x xp] (.Dict [] [] lp) pos) P m δ := fun E s H R => by
  refine wpAny_Assign_Name ?_ hs
  refine wpAny_Dict_empty ?_
  refine own_new R rfl rfl hx (d := .dict []) ⟨rfl, R.gs.big, [], Heap.DictOf.new _, rfl, .nil⟩ fun a s' R' F' => ⟨_, _, δ, F', R', h a⟩

theorem Rel.mutOwn (R : Rel W C H m δ s) {x : Str} {a : Addr} {d d' : D} {h' : Heap} {tk : Nat} (hx : m x = some (.own a d)) (hs : Heap.SameBut a s.heap h') (ho : ∃ o, h'.get? a = some o) (he : EntIs W H h' (.own a d') (.ref a)) :
    Rel W C H (upd m x (.own a d')) δ { s with heap := h', toks := tk } ∧ Fm W C m H s (upd m x (.own a d')) H { s with heap := h', toks := tk } := by
  have aH := R.own x a d hx
  have keep : ∀ b o, b ≠ a → s.heap.get? b = some o → h'.get? b = some o := fun b o n e => hs.extBut b o n e
  have tr : Trans H s.heap H h' := fun b o e n => ⟨keep b o (fun q => n (q ▸ aH.1)) e, n⟩
  have own' : ∀ y b d₁, upd m x (.own a d') y = some (.own b d₁) → ∃ d₂, m y = some (.own b d₂) := fun y b d₁ e => by
    by_cases hxy : y = x
    · subst hxy
      simp only [upd, if_true, Option.some.injEq, Ent.own.injEq] at e
      exact ⟨d, e.1 ▸ hx⟩
    · simp only [upd, if_neg hxy] at e; exact ⟨d₁, e⟩
  refine ⟨{ R with gs := ⟨fun b o e => ⟨keep b o (fun q => (R.gs.base b o e).2 (q ▸ aH.1)) (R.gs.base b o e).1, (R.gs.base b o e).2⟩, W.stable _ _ _ (fun b hb o e => keep b o (fun q => aH.2.1 (q ▸ hb)) e) R.gs.deck, R.gs.dh, fun b hb => ?_⟩, loc := ?_, cx := ?_, own := ?_, oi := ?_ },
    ⟨.refl, fun b o e n => ⟨keep b o (fun q => n (.inr (.inr (.inr ⟨x, d, q ▸ hx⟩)))) e, ?_⟩, fun _ _ _ n => n, fun _ _ _ n => .inl n⟩⟩
  · by_cases q : b = a
    · subst q; exact ho
    · obtain ⟨o, eo⟩ := R.gs.hex b hb; exact ⟨o, keep b o q eo⟩
  · obtain ⟨mm, hn, hm⟩ := R.loc
    refine ⟨mm, hn.at' fun o e => keep _ o (fun q => aH.2.2.1 q.symm) e, fun y e hy => ?_⟩
    by_cases hxy : y = x
    · subst hxy
      simp only [upd, if_true, Option.some.injEq] at hy
      subst hy
      obtain ⟨v, at', en⟩ := hm y _ hx
      have hv : v = .ref a := by cases d <;> first | exact en.1 | exact en.elim
      subst hv
      refine ⟨.ref a, ?_, he⟩
      rcases at' with a' | ⟨a', c, hc, ⟨oc, ho', hd⟩, hH, hd'⟩
      · exact .inl a'
      · refine .inr ⟨a', c, hc, ⟨oc, keep c oc ?_ ho', hd⟩, hH, hd'⟩
        rintro rfl
        cases d with
        | list ds => obtain ⟨_, vs, ⟨o, n, e, _, _, hdd⟩, _⟩ := en; rw [e] at ho'; cases ho'; rw [hdd] at hd; cases hd
        | dict ds => obtain ⟨_, _, kvs, ⟨o, es, ep, e, _, hdd, _⟩, _⟩ := en; rw [e] at ho'; cases ho'; rw [hdd] at hd; cases hd
        | _ => exact en.elim
    · simp only [upd, if_neg hxy] at hy
      obtain ⟨v', at', en⟩ := hm y e hy
      refine ⟨v', ?_, en.mono tr fun b d₁ ea o eo => keep b o (fun q => hxy (R.oi y x a d₁ d (q ▸ ea ▸ hy) hx)) eo⟩
      rcases at' with a' | ⟨a', c, hc, ⟨oc, ho', hd⟩, hH, hd'⟩
      · exact .inl a'
      · refine .inr ⟨a', c, hc, ⟨oc, keep c oc ?_ ho', hd⟩, hH, hd'⟩
        rintro rfl
        obtain ⟨v, _, en⟩ := hm x _ hx
        cases d with
        | list ds => obtain ⟨_, vs, ⟨o, n, e, _, _, hdd⟩, _⟩ := en; rw [e] at ho'; cases ho'; rw [hdd] at hd; cases hd
        | dict ds => obtain ⟨_, _, kvs, ⟨o, es, ep, e, _, hdd, _⟩, _⟩ := en; rw [e] at ho'; cases ho'; rw [hdd] at hd; cases hd
        | _ => exact en.elim
  · intro y c hk hc hw
    obtain ⟨v₀, o, eo, hd⟩ := R.cx y c hk hc hw
    exact ⟨v₀, o, keep c o (fun q => aH.2.2.2 (q ▸ hw)) eo, hd⟩
  · intro y b d₁ e
    obtain ⟨d₂, q⟩ := own' y b d₁ e
    exact R.own y b d₂ q
  · intro y z b d₁ d₂ e1 e2
    obtain ⟨_, q⟩ := own' y b d₁ e1
    obtain ⟨_, q'⟩ := own' z b d₂ e2
    exact R.oi y z b _ _ q q'
  · rintro (q | q | q | ⟨y, d₁, q⟩)
    · exact n (.inl q)
    · exact n (.inr (.inl q))
    · exact n (.inr (.inr (.inl q)))
    · obtain ⟨d₂, q'⟩ := own' y b d₁ q
      exact n (.inr (.inr (.inr ⟨y, d₂, q'⟩)))

/-- what is owned may be looked at by all, and is changed no more -/
theorem Rel.freeze (R : Rel W C H m δ s) {x : Str} {a : Addr} {d : D} (hx : m x = some (.own a d)) :
    Rel W C (H.filter (· ≠ a)) (upd m x (.val d)) δ s ∧ Fm W C m H s (upd m x (.val d)) (H.filter (· ≠ a)) s := by
  have aH := R.own x a d hx
  have sub : ∀ b, b ∈ H.filter (· ≠ a) ↔ b ∈ H ∧ b ≠ a := fun b => by simp
  have tr : Trans H s.heap (H.filter (· ≠ a)) s.heap := fun b o e n => ⟨e, fun q => n ((sub b).mp q).1⟩
  obtain ⟨mm, hn, hm⟩ := R.loc
  obtain ⟨v, at', en⟩ := hm x _ hx
  have cellne : ∀ c oc vv, s.heap.get? c = some oc → oc.data = .cell vv → c ≠ a := by
    rintro c oc vv ho' hd rfl
    cases d with
    | list ds => obtain ⟨_, vs, ⟨o, n, e, _, _, hdd⟩, _⟩ := en; rw [e] at ho'; cases ho'; rw [hdd] at hd; cases hd
    | dict ds => obtain ⟨_, _, kvs, ⟨o, es, ep, e, _, hdd, _⟩, _⟩ := en; rw [e] at ho'; cases ho'; rw [hdd] at hd; cases hd
    | _ => exact en.elim
  have hv : v = .ref a ∧ Rep W (H.filter (· ≠ a)) s.heap (.ref a) d := by
    cases d with
    | list ds => obtain ⟨e, vs, l, r⟩ := en; exact ⟨e, .list (fun q => ((sub a).mp q).2 rfl) l (r.mono tr)⟩
    | dict ds => obtain ⟨e, q, kvs, l, k, r⟩ := en; exact ⟨e, .dict (fun q => ((sub a).mp q).2 rfl) q l k (r.mono tr)⟩
    | _ => exact en.elim
  have atm : ∀ y v', At W C H s.heap mm y v' → At W C (H.filter (· ≠ a)) s.heap mm y v' := by
    rintro y v' (q | ⟨q, c, hc, ⟨oc, ho', hd⟩, hH, hd'⟩)
    · exact .inl q
    · exact .inr ⟨q, c, hc, ⟨oc, ho', hd⟩, (sub c).mpr ⟨hH, cellne c oc _ ho' hd⟩, hd'⟩
  have own' : ∀ y b d₁, upd m x (.val d) y = some (.own b d₁) → m y = some (.own b d₁) ∧ b ≠ a := fun y b d₁ e => by
    by_cases hxy : y = x
    · subst hxy; simp [upd] at e
    · simp only [upd, if_neg hxy] at e
      exact ⟨e, fun q => hxy (R.oi y x a d₁ d (q ▸ e) hx)⟩
  refine ⟨{ R with gs := ⟨fun b o e => ⟨(R.gs.base b o e).1, fun q => (R.gs.base b o e).2 ((sub b).mp q).1⟩, R.gs.deck, fun b hb => (sub b).mpr ⟨R.gs.dh b hb, fun q => aH.2.1 (q ▸ hb)⟩, fun b hb => R.gs.hex b ((sub b).mp hb).1⟩, loc := ⟨mm, hn, fun y e hy => ?_⟩, lh := (sub _).mpr ⟨R.lh, fun q => aH.2.2.1 q.symm⟩, cw := fun c hc => ⟨(sub c).mpr ⟨(R.cw c hc).1, fun q => aH.2.2.2 (q ▸ hc)⟩, (R.cw c hc).2⟩, own := fun y b d₁ e => ⟨(sub b).mpr ⟨(R.own y b d₁ (own' y b d₁ e).1).1, (own' y b d₁ e).2⟩, (R.own y b d₁ (own' y b d₁ e).1).2⟩, oi := fun y z b d₁ d₂ e1 e2 => R.oi y z b d₁ d₂ (own' y b d₁ e1).1 (own' z b d₂ e2).1 },
    ⟨.refl, fun b o e n => ⟨e, fun q => n (md_upd_val q)⟩, fun b o e n q => n ((sub b).mp q).1, fun b o e n => ?_⟩⟩
  · by_cases hxy : y = x
    · subst hxy
      simp only [upd, if_true, Option.some.injEq] at hy
      subst hy
      exact ⟨v, atm y v at', hv.1 ▸ hv.2⟩
    · simp only [upd, if_neg hxy] at hy
      obtain ⟨v', at'', en'⟩ := hm y e hy
      exact ⟨v', atm y v' at'', en'.mono tr fun _ _ _ _ eo => eo⟩
  · by_cases q : b = a
    · subst q; exact .inr ⟨x, d, hx⟩
    · exact .inl ((sub b).mpr ⟨n, q⟩)

theorem st_freeze {body : List Stmt} (x : Str) {a : Addr} {d : D} (hx : m x = some (.own a d)) (h : stW W C body P (upd m x (.val d)) δ) : stW W C body P m δ := fun E s H R => by
  obtain ⟨R1, F1⟩ := R.freeze hx
  exact wpAny_mono (h E s _ R1) (fun f s2 ⟨H2, m2, δ2, F2, R2, h2⟩ => ⟨H2, m2, δ2, F1.trans R R1 F2, R2, h2⟩) fun _ _ e => e

theorem own_ref (R : Rel W C H m δ s) {x : Str} {a : Addr} {d : D} {E : Value → Shared → Prop} {Q : Value → Shared → Prop} {p : Pos} (hx : m x = some (.own a d)) (h : EntIs W H s.heap (.own a d) (.ref a) → Q (.ref a) s)
    (hd : (x == ("__debug__" : Str)) = false := by decide) : wpAny (model W.prog W.w) C.A (eval (.Name x p) C.env) Q E s :=
  wpAny_Name (ev_load R hx fun v hv => by
    have e : v = .ref a := by cases d <;> first | exact hv.1 | exact hv.elim
    subst e; exact h hv) hd

/-- `x.append(e)` -/
theorem ex_append {x : Str} {xp ap cp pos : Pos} {e : Expr} {a : Addr} {l : List D} (hx : m x = some (.own a (.list l))) (hl : l.length < sizeLine)
    (h : evW W C e (fun d δ' => P .next (upd m x (.own a (.list (l ++ [d])))) δ') m δ)
    (hline : (ap.endLine == cp.line) = true := by rfl) (hs : starEach [e] C.env = [(false, eval e C.env)] := by rfl) (hi : interactive C.env = false := by rfl)
    (hsw : swapsWith (.Call (.Attribute (.Name x xp) "append" ap) [e] [] cp) none pos.line C.env = pure false := by rfl)
    (hb : attributeBase (.Name x xp) "append" C.env (eval (.Name x xp) C.env) = eval (.Name x xp) C.env := by rfl)
    (hd : (x == ("__debug__" : Str)) = false := by decide) :
    exW W C (.Expr (.Call (.Attribute (.Name x xp) "append" ap) [e] [] cp) pos) P m δ := fun E s H R => by
  refine wpAny_Expr ?_ hi hsw
  refine wpAny_Call_append hb (by rw [hs]; rfl) hline (by rw [hs]; rfl) ?_
  refine own_ref R hx (fun en => ?_) hd
  obtain ⟨_, vs, pl, r⟩ := en
  refine ⟨a, vs.toArray, rfl, pl, ?_⟩
  refine wpAny_mono (h E s H R) ?_ fun _ _ e => e
  rintro v s1 ⟨d, δ1, k1, G1, r1, h1⟩
  have R1 := R.keepX k1 G1
  have pl1 : PlainL s1.heap a vs.toArray := plainL_at pl fun o eo => k1.2 _ _ eo (R.own x a _ hx).2.1
  refine list_append_plainL pl1 (fun h' pl' hs' => ?_) (by simp only [List.size_toArray, r.length]; omega)
  have tr : Trans H s1.heap H h' := fun b o e n => ⟨hs'.extBut b o (fun q => n (q ▸ (R.own x a _ hx).1)) e, n⟩
  obtain ⟨R2, F2⟩ := R1.mutOwn (d' := .list (l ++ [d])) (tk := s1.toks) hx hs' (let ⟨o, n, e, _⟩ := pl'; ⟨o, e⟩) ⟨rfl, vs ++ [v], by simpa using pl', ((r.mono (k1.tr R.gs)).mono tr).append (.cons (r1.mono tr) .nil)⟩
  exact ⟨H, _, δ1, (Fm.ofX k1).trans R R1 F2, R2, h1⟩

/-- `x[k] = e` in a dict of ints -/
theorem ex_setitem {x : Str} {xp sp pos : Pos} {i e : Expr} {a : Addr} {l : List (Int × D)} (hx : m x = some (.own a (.dict l))) (hl : l.length ≤ sizeLine)
    (h : evW W C e (fun d δ' => evW W C i (fun b δ'' => ∃ k : Int, b = .int k ∧ P .next (upd m x (.own a (.dict (dset l k d)))) δ'') m δ') m δ)
    (hsw : swapsWith e (some (.Subscript (.Name x xp) i sp)) pos.line C.env = pure false := by rfl) (hd : (x == ("__debug__" : Str)) = false := by decide) :
    exW W C (.Assign [.Subscript (.Name x xp) i sp] e pos) P m δ := fun E s H R => by
  refine wpAny_Assign_Subscript (wpAny_mono (h E s H R) ?_ fun _ _ e => e) hsw
  rintro v s1 ⟨d, δ1, k1, G1, r1, h1⟩
  have R1 := R.keepX k1 G1
  refine own_ref R1 hx (fun en => ?_) hd
  refine wpAny_mono (h1 E s1 H R1) ?_ fun _ _ e => e
  rintro u s2 ⟨b, δ2, k2, G2, r2, k, rfl, h2⟩
  have R2 := R1.keepX k2 G2
  cases r2
  obtain ⟨_, q, kvs, hD, hk, r⟩ := en
  have hD2 := dictOf_at (W := W) hD fun o eo => k2.2 _ _ eo (R.own x a _ hx).2.1
  have hlen : kvs.length = l.length := by simpa using congrArg List.length hk
  refine wpAny_setItem_pairs (intKind_is _ _ _ _) hD2 (fun h' hd' hs' => ?_) (by omega)
  have tr : Trans H s2.heap H h' := fun b o e n => ⟨hs'.extBut b o (fun q => n (q ▸ (R.own x a _ hx).1)) e, n⟩
  have hany : kvs.any (fun kv => kv.1 = k) = l.any fun p => p.1 = k := by
    have := congrArg (List.any · (fun z => decide (z = k))) hk
    simpa [List.any_map, Function.comp_def] using this
  have key : (stored kvs k v).map (·.1) = (dset l k d).map (·.1) ∧ RepAll W H h' ((stored kvs k v).map (·.2)) ((dset l k d).map (·.2)) := by
    have r' := (r.mono (k2.tr R1.gs)).mono tr
    have r1' := (r1.mono (k2.tr R1.gs)).mono tr
    unfold stored dset
    rw [hany]
    split
    · clear hany hD2 hd' hlen hD
      revert r' hk
      generalize l = l
      clear r
      intro hk r'
      induction kvs generalizing l with
      | nil => cases l with | nil => exact ⟨rfl, .nil⟩ | cons p l => simp at hk
      | cons p kvs ih =>
        cases l with
        | nil => simp at hk
        | cons p' l =>
          simp only [List.map_cons, List.cons.injEq] at hk
          cases r' with
          | cons ra rb =>
            obtain ⟨e1, e2⟩ := ih l hk.2 rb
            obtain ⟨pk, pv⟩ := p
            obtain ⟨pk', pv'⟩ := p'
            simp only at hk ra
            obtain ⟨rfl, hk⟩ := hk
            by_cases hpk : pk = k
            · simp only [List.map_cons, hpk, if_true]
              exact ⟨by simpa [hpk] using e1, .cons r1' e2⟩
            · simp only [List.map_cons, if_neg hpk]
              exact ⟨by simpa using e1, .cons ra e2⟩
    · refine ⟨by simp [hk], ?_⟩
      simp only [List.map_append, List.map_cons, List.map_nil]
      exact r'.append (.cons r1' .nil)
  obtain ⟨R3, F3⟩ := R2.mutOwn (d' := .dict (dset l k d)) (tk := s2.toks + 1) hx hs' (let ⟨o, _, _, e, _⟩ := hd'; ⟨o, e⟩) ⟨rfl, q, _, hd', key.1, key.2⟩
  exact ⟨H, _, δ2, ((Fm.ofX k1).trans R R1 (.ofX k2)).trans R R2 F3, R3, h2⟩
end
/-! part L7 -/
section
variable {W : Wd} {C : FC} {m : Map} {δ : W.Δ}

/-! assignment to a pattern -/
inductive AsP (W : Wd) (C : FC) (m : Map) (H : List Addr) (δ : W.Δ) (s : Shared) (K : Map → Prop) (s' : Shared) : Prop
  | mk (m' : Map) (F : Fm W C m H s m' H s') (R : Rel W C H m' δ s') (h : K m') : AsP W C m H δ s K s'

def asW (W : Wd) (C : FC) (tgt : Expr) (d : D) (K : Map → Prop) (m : Map) : Prop :=
  ∀ (E : Value → Shared → Prop) (s : Shared) (H : List Addr) (δ : W.Δ) (v : Value), Rel W C H m δ s → Rep W H s.heap v d →
    wpAny (model W.prog W.w) C.A (assign tgt C.env v) (fun _ s' => AsP W C m H δ s K s') E s
def assW (W : Wd) (C : FC) : List Expr → List D → (Map → Prop) → Map → Prop
  | [], [], K, m => K m
  | t :: ts, d :: ds, K, m => asW W C t d (assW W C ts ds K) m
  | _, _, _, _ => False

theorem as_name {x : Str} {p : Pos} {d : D} {K : Map → Prop} (hx : Sto C x) (h : K (upd m x (.val d))) : asW W C (.Name x p) d K m := fun E s H δ v R r =>
  wpAny_assign_Name (store_val R hx r fun s' R' F' => ⟨_, F', R', h⟩)
theorem assignEach_plain (env : Env) : ∀ es : List Expr, noStar es = true → assignEach es env = es.map fun e => (false, assign e env)
  | [], _ => rfl
  | e :: r, h => by
    cases e with
    | Starred a b => cases h
    | _ => rw [List.map_cons, ← assignEach_plain env r h]; rfl
theorem ass_run : ∀ (ts : List Expr) (ds : List D) {K : Map → Prop} {m : Map} (h : assW W C ts ds K m) (E : Value → Shared → Prop) (s : Shared) (H : List Addr) (δ : W.Δ) (vs : List Value), Rel W C H m δ s → RepAll W H s.heap vs ds →
    wpAny (model W.prog W.w) C.A (assignInOrder (ts.map fun e => assign e C.env) vs) (fun _ s' => AsP W C m H δ s K s') E s
  | [], [], K, m, h, E, s, H, δ, vs, R, r => by cases r; exact assignInOrder_nil ⟨m, .refl, R, h⟩
  | t :: ts, d :: ds, K, m, h, E, s, H, δ, _, R, .cons (v := v) (vs := vs) r1 r2 => by
    rw [List.map_cons]
    refine assignInOrder_cons (wpAny_mono (h E s H δ v R r1) ?_ fun _ _ e => e)
    rintro _ s1 ⟨m1, F1, R1, h1⟩
    refine wpAny_mono (ass_run ts ds h1 E s1 H δ vs R1 (r2.mono (F1.tr R))) ?_ fun _ _ e => e
    rintro _ s2 ⟨m2, F2, R2, h2⟩
    exact ⟨m2, F1.trans R R1 F2, R2, h2⟩
  | [], _ :: _, _, _, h, _, _, _, _, _, _, _ => h.elim
  | _ :: _, [], _, _, h, _, _, _, _, _, _, _ => h.elim
theorem ass_len : ∀ (ts : List Expr) (ds : List D) {K : Map → Prop} {m : Map}, assW W C ts ds K m → ts ≠ [] → True := fun _ _ _ _ _ _ => trivial
theorem findIdx_plain (env : Env) : ∀ es : List Expr, (es.map fun e => (false, assign e env)).findIdx? (fun x => x.1) = none
  | [] => rfl
  | e :: r => by rw [List.map_cons, List.findIdx?_cons, findIdx_plain env r]; rfl
theorem as_tuple {ts : List Expr} {k : Nat} {p : Pos} {ds : List D} {K : Map → Prop} (hl : ts.length = ds.length) (h : assW W C ts ds K m) (hs : noStar ts = true := by rfl) : asW W C (.Tuple ts k p) (.tup ds) K m := fun E s H δ v R r => by
  cases r with
  | tup n ht q =>
    rename_i a vs
    refine assign_Tuple_tuple R.hh ht (by rw [assignEach_plain _ _ hs]; simp [hl, q.length]) (by rw [assignEach_plain _ _ hs]; exact findIdx_plain _ _) fun h' he => ?_
    rw [assignEach_plain _ _ hs, List.map_map]
    have k : KeepA s { s with heap := h' } := keepA_ext (n := s.toks) he
    refine wpAny_mono (ass_run ts ds h E { s with heap := h' } H δ vs (R.keep k) (q.mono k.tr)) ?_ fun _ _ e => e
    rintro _ s1 ⟨m1, F1, R1, h1⟩
    exact ⟨m1, (Fm.ofX k.x).trans R (R.keep k) F1, R1, h1⟩

/-! what is walked over -/
structure Turns (W : Wd) (A : Around) (tgt : Expr) (I : Addr) (fp wr : List Addr) (src : Value) (sd : D) (xs : List D) (St : Nat → Heap → Prop) : Prop where
  frame : ∀ i h h', St i h → (∀ b ∈ fp, ∀ o, h.get? b = some o → h'.get? b = some o) → St i h'
  ex : ∀ i h, St i h → ∀ b ∈ wr, ∃ o, h.get? b = some o
  nc : ∀ i h, St i h → ∀ b ∈ wr, ∀ v, ¬ h.IsCell b v
  item : ∀ i d (s : Shared) (H : List Addr) (Q : Value → Shared → Prop) (E : Value → Shared → Prop), xs[i]? = some d → St i s.heap → (∀ a ∈ wr, a ∈ H) → s.heap.objs.size ∉ H → Rep W H s.heap src sd →
    (∀ v s', Like s s' → (∀ b o, b ∉ wr → s.heap.get? b = some o → s'.heap.get? b = some o) → St (i + 1) s'.heap → Rep W H s'.heap v d → Q v s') →
    wpAny (model W.prog W.w) A (pyNext (.ref I)) (fun r s1 => ∃ v, r = some v ∧ wpAny (model W.prog W.w) A (letOwnedTupleGo tgt (.ref I) v) (fun _ s2 => Q v s2) E s1) E s
  done : ∀ (s : Shared) (Q : Option Value → Shared → Prop) (E : Value → Shared → Prop), St xs.length s.heap →
    (∀ s', Like s s' → (∀ b o, b ∉ wr → s.heap.get? b = some o → s'.heap.get? b = some o) → Q none s') → wpAny (model W.prog W.w) A (pyNext (.ref I)) Q E s
  self : ∀ (s : Shared) (Q : Value → Shared → Prop) (E : Value → Shared → Prop), St 0 s.heap → Q (.ref I) s → wpAny (model W.prog W.w) A (pyIter (.ref I)) Q E s

def Quiet (tgt : Expr) : Prop := (∀ it v, letOwnedTupleGo tgt it v = pure ()) ∨ ∃ es k p, tgt = .Tuple es k p

theorem turns_list {A : Around} {tgt : Expr} {I ax : Addr} {vs : List Value} {xs : List D} (hh : A.handled = none) (hne : ax ≠ I) (hlen : vs.length = xs.length) (hq : Quiet tgt) :
    Turns W A tgt I [I, ax] [I] (.ref ax) (.list xs) xs (fun i h => h.IsListIter I ax i ∧ h.IsList ax vs.toArray) := by
  have T := Walks.list (prog := W.prog) (w := W.w) hh I ax hne vs.toArray
  refine ⟨T.frame, fun i h st b hb => ?_, fun i h st b hb v => ?_, fun i d s H Q E hd st hwr hfr r h => ?_, fun s Q E st h => ?_, fun s Q E st h => T.self 0 s Q E st h⟩
  · rw [List.mem_singleton.mp hb]; obtain ⟨⟨o, e, _⟩, _⟩ := st; exact ⟨o, e⟩
  · rw [List.mem_singleton.mp hb]; obtain ⟨⟨o, e, _, hd⟩, _⟩ := st; rintro ⟨o', e', hd'⟩; rw [e] at e'; cases e'; rw [hd] at hd'; cases hd'
  · have hi : i < vs.toArray.size := by simp [hlen]; exact (List.getElem?_eq_some_iff.mp hd).1
    refine T.item i s _ E hi st fun v h' tk hP st' hk => ?_
    have go : wpAny (model W.prog W.w) A (letOwnedTupleGo tgt (.ref I) v) (fun _ s2 => Q v s2) E { s with heap := h', toks := tk } := by
      have hrep : Rep W H h' v d := by
        cases r with
        | list n pl q =>
          rename_i vs'
          obtain ⟨o, n1, e, c, dn, dd⟩ := pl
          obtain ⟨o', e', c', n2, dd'⟩ := st.2
          rw [e] at e'; cases e'
          rw [dd] at dd'; cases dd'
          obtain ⟨v', hv', rv⟩ := q.get hd
          have : v' = v := by simp only [List.getElem?_toArray] at hP; rw [hP] at hv'; exact (Option.some.inj hv').symm
          subst this
          exact rv.mono fun b o e n => ⟨hk b o (fun q => n (hwr b q)) e, n⟩
      have fin : Q v { s with heap := h', toks := tk } := h v { s with heap := h', toks := tk } .refl hk st' hrep
      rcases hq with hq | ⟨es, k, p, rfl⟩
      · rw [hq]; exact wpAny_pure fin
      · cases v with
        | ref T' => exact wpAny_letOwnedTupleGo_listiter st'.1 fin
        | _ => exact wpAny_pure fin
    exact ⟨v, rfl, go⟩
  · refine T.done s Q E (by simpa [hlen] using st) fun h' tk hk => h _ .refl hk

theorem turns_range {A : Around} {tgt : Expr} {I : Addr} {a : Int} {n : Nat} (hh : A.handled = none) (hq : ∀ it v, letOwnedTupleGo tgt it v = pure ()) :
    Turns W A tgt I [I] [I] .none .none ((List.range n).map fun i => D.int (a + (i : Nat))) (fun i h => IsRangeIter h I (a + (i : Nat) * 1) ((n : Int) - (i : Nat)) 1) := by
  have T := Walks.range (prog := W.prog) (w := W.w) hh I a 1 n
  refine ⟨T.frame, fun i h st b hb => ?_, fun i h st b hb v => ?_, fun i d s H Q E hd st hwr hfr r h => ?_, fun s Q E st h => ?_, fun s Q E st h => T.self 0 s Q E (by simpa using st) h⟩
  · rw [List.mem_singleton.mp hb]; exact ⟨_, st⟩
  · rw [List.mem_singleton.mp hb]; rintro ⟨o', e', hd'⟩; have st' := Eq.trans e'.symm st; cases st'; cases hd'
  · simp only [List.getElem?_map, Option.map_eq_some_iff] at hd
    obtain ⟨j, hj, rfl⟩ := hd
    have hi : i < n := by have := (List.getElem?_eq_some_iff.mp hj).1; simpa using this
    have hij : j = i := by simpa [hi] using hj.symm
    subst hij
    refine T.item j s _ E hi st fun v h' tk hP st' hk => ?_
    obtain ⟨t, rfl⟩ := hP
    refine ⟨_, rfl, ?_⟩
    rw [hq]
    exact wpAny_pure (h _ { s with heap := h', toks := tk } .refl hk st' (by rw [Int.mul_one]; exact .int _ _))
  · exact T.done s Q E (by simpa using st) fun h' tk hk => h _ .refl hk

theorem turns_dict {A : Around} {tgt : Expr} {I d : Addr} {kvs : List (Int × Value)} {ep : Nat} {sd : D} {src : Value} (hh : A.handled = none) (hne : d ≠ I) (hq : ∀ it v, letOwnedTupleGo tgt it v = pure ()) :
    Turns W A tgt I [I, d] [I] src sd (kvs.map fun p => D.int p.1) (fun i h => h.IsKeyIter I d i kvs.length ep ∧ h.DictAt (intKind W.prog W.w) d kvs ep) := by
  have T := Walks.dictKeys (prog := W.prog) (w := W.w) (knd := intKind W.prog W.w) hh I d hne kvs ep
  refine ⟨T.frame, fun i h st b hb => ?_, fun i h st b hb v => ?_, fun i x s H Q E hd st hwr hfr r h => ?_, fun s Q E st h => ?_, fun s Q E st h => T.self 0 s Q E st h⟩
  · rw [List.mem_singleton.mp hb]; obtain ⟨⟨o, e, _⟩, _⟩ := st; exact ⟨o, e⟩
  · rw [List.mem_singleton.mp hb]; obtain ⟨⟨o, e, _, hd⟩, _⟩ := st; rintro ⟨o', e', hd'⟩; rw [e] at e'; cases e'; rw [hd] at hd'; cases hd'
  · simp only [List.getElem?_map, Option.map_eq_some_iff] at hd
    obtain ⟨p, hp, rfl⟩ := hd
    have hi : i < kvs.length := (List.getElem?_eq_some_iff.mp hp).1
    refine T.item i s _ E hi st fun v h' tk hP st' hk => ?_
    obtain ⟨k, x, hkx, hv⟩ := hP
    rw [hp] at hkx
    cases hkx
    obtain ⟨t, rfl⟩ := Value.isInt_shape hv
    refine ⟨_, rfl, ?_⟩
    rw [hq]
    exact wpAny_pure (h _ { s with heap := h', toks := tk } .refl hk st' (.int _ _))
  · exact T.done s Q E (by simpa using st) fun h' tk hk => h _ .refl hk
end
/-! part L8 -/

def enumD (l : List D) : List D := l.mapIdx fun i d => .tup [.int (i : Nat), d]

section
variable {W : Wd} {C : FC} {m : Map} {δ : W.Δ}

theorem turns_enum {A : Around} {es : List Expr} {k : Nat} {p : Pos} {e it ax : Addr} {vs : List Value} {xs : List D} (hh : A.handled = none) (hei : e ≠ it) (hae : ax ≠ e) (hai : ax ≠ it) (hlen : vs.length = xs.length) :
    Turns W A (.Tuple es k p) e [e, it, ax] [e, it] (.ref ax) (.list xs) (enumD xs) (fun i h => (∃ old, IsEnum h e it ((i : Nat) : Int) old) ∧ h.IsListIter it ax i ∧ h.IsList ax vs.toArray) := by
  refine ⟨fun i h h' st hk => ?_, fun i h st b hb => ?_, fun i h st b hb v => ?_, fun i d s H Q E hd st hwr hfr r h => ?_, fun s Q E st h => ?_, fun s Q E st h => ?_⟩
  · obtain ⟨⟨old, a⟩, b, c⟩ := st
    exact ⟨⟨old, hk e (by simp) _ a⟩, b.at fun o e => hk it (by simp) o e, c.at fun o e => hk ax (by simp) o e⟩
  · obtain ⟨⟨old, a⟩, ⟨o, b, _⟩, c⟩ := st
    simp only [List.mem_cons, List.not_mem_nil, or_false] at hb
    rcases hb with rfl | rfl
    · exact ⟨_, a⟩
    · exact ⟨_, b⟩
  · obtain ⟨⟨old, a⟩, ⟨o, b, _, hd⟩, c⟩ := st
    simp only [List.mem_cons, List.not_mem_nil, or_false] at hb
    rcases hb with rfl | rfl
    · rintro ⟨o', e', hd'⟩; have st' := Eq.trans e'.symm a; cases st'; cases hd'
    · rintro ⟨o', e', hd'⟩; rw [b] at e'; cases e'; rw [hd] at hd'; cases hd'
  · obtain ⟨⟨old, a⟩, b, c⟩ := st
    simp only [enumD, List.getElem?_mapIdx, Option.map_eq_some_iff] at hd
    obtain ⟨dx, hdx, rfl⟩ := hd
    cases r with
    | list n pl q =>
      rename_i vs'
      obtain ⟨o, n1, e1, c1, dn, dd⟩ := pl
      obtain ⟨o', e', c', n2, dd'⟩ := c
      rw [e1] at e'; cases e'
      rw [dd] at dd'; cases dd'
      obtain ⟨x, hx, rx⟩ := q.get hdx
      refine wpAny_pyNext_enum_item a b ⟨_, e1, c1, _, dd⟩ (x := x) (by simpa using hx) hei fun h₁ heo hit₁ ht₁ hz₁ hk₁ => ?_
      refine ⟨_, rfl, wpAny_letOwnedTupleGo_enum heo fun h₂ he₂ hs₂ => ?_⟩
      replace hs₂ : Heap.SameBut e h₁ h₂ := hs₂
      have heH : e < s.heap.objs.size := Heap.lt_size a
      have hk₂ : ∀ b o, b ∉ [e, it] → s.heap.get? b = some o → h₂.get? b = some o := fun b o hb eo => by
        simp only [List.mem_cons, List.not_mem_nil, or_false, not_or] at hb
        exact hs₂.extBut b o hb.1 (hk₁ b o hb.1 hb.2 eo)
      have ht₂ : h₂.get? s.heap.objs.size = some { cls := .type "tuple", data := .seq #[.int i s.toks, x] } := (hs₂.2 _ (Nat.ne_of_gt heH)).trans ht₁
      have hcast : ((i + 1 : Nat) : Int) = (i : Int) + 1 := by push_cast; rfl
      refine h _ { s with heap := h₂, toks := s.toks + 1 } .refl hk₂ ⟨⟨x, hcast ▸ he₂⟩, hit₁.extBut hs₂.extBut (Ne.symm hei), ⟨_, hk₂ ax _ (by simp [hae, hai]) e1, c1, _, dd⟩⟩ ?_
      have tr : Trans H s.heap H h₂ := fun b o eo n => ⟨hk₂ b o (fun q => n (hwr b q)) eo, n⟩
      exact .tup (vs := [.int i s.toks, x]) hfr ⟨_, ht₂, rfl, 0, rfl⟩ (.cons (.int _ _) (.cons (rx.mono tr) .nil))
  · obtain ⟨⟨old, a⟩, b, c⟩ := st
    refine wpAny_pyNext_enum_end hh a b c (by simp [enumD, hlen]) fun h' he => h { s with heap := h' } .refl fun b o hb eo => ?_
    simp only [List.mem_cons, List.not_mem_nil, or_false, not_or] at hb
    exact he b o hb.2 eo
  · obtain ⟨⟨old, a⟩, b, c⟩ := st
    exact wpAny_pyIter_enum a h

inductive ItP (W : Wd) (C : FC) (tgt : Expr) (H : List Addr) (s : Shared) (K : List D → W.Δ → Prop) (it : Value) (s2 : Shared) : Prop
  | mk (xs : List D) (I : Addr) (fp wr : List Addr) (src : Value) (sd : D) (St : Nat → Heap → Prop) (δ' : W.Δ) (e : it = .ref I) (k : KeepX W s s2) (g : GS W H δ' s2) (T : Turns W C.A tgt I fp wr src sd xs St) (st : St 0 s2.heap)
      (r : Rep W (wr ++ H) s2.heap src sd) (hw : ∀ b ∈ wr, s.heap.get? b = none ∧ ∃ o, s2.heap.get? b = some o) (hf : ∀ b ∈ fp, b ∈ wr ∨ (b ∉ H ∧ ∃ o, s2.heap.get? b = some o))
      (q : ∀ it' v, (∃ es k p, tgt = .Tuple es k p) ∨ letOwnedTupleGo tgt it' v = pure ()) (h : K xs δ') : ItP W C tgt H s K it s2

/-- what a loop's head gives: the list of what will be met -/
def itW (W : Wd) (C : FC) (tgt iter : Expr) (K : List D → W.Δ → Prop) (m : Map) (δ : W.Δ) : Prop :=
  ∀ (E : Value → Shared → Prop) (s : Shared) (H : List Addr), Rel W C H m δ s →
    wpAny (model W.prog W.w) C.A (eval iter C.env) (fun x s1 => wpAny (model W.prog W.w) C.A (pyIter x) (ItP W C tgt H s K) E s1) E s

theorem rep_hide {H wr : List Addr} {h h' : Heap} {v : Value} {d : D} (r : Rep W H h v d) (k : ∀ b o, h.get? b = some o → h'.get? b = some o) (hw : ∀ b ∈ wr, h.get? b = none) : Rep W (wr ++ H) h' v d :=
  r.mono fun b o e n => ⟨k b o e, fun q => by
    rcases List.mem_append.mp q with q | q
    · rw [hw b q] at e; cases e
    · exact n q⟩

theorem it_list {tgt iter : Expr} {K : List D → W.Δ → Prop} (h : evW W C iter (fun a δ₁ => ∃ xs, a = .list xs ∧ K xs δ₁) m δ) (hq : Quiet tgt) : itW W C tgt iter K m δ := fun E s H R => by
  refine wpAny_mono (h E s H R) ?_ fun _ _ e => e
  rintro x s1 ⟨a, δ1, k1, G1, r1, xs, rfl, h1⟩
  cases r1 with
  | list n pl q =>
    rename_i ax vs
    have hne : ax ≠ s1.heap.objs.size := Nat.ne_of_lt pl.lt
    refine wpAny_pyIter_list pl.isList ?_
    have kp : KeepA s1 { s1 with heap := s1.heap.push { cls := .type "list_iterator", data := .fields #[.ref ax, .int 0 0] } } := .push
    have hnone : s.heap.get? s1.heap.objs.size = none := by
      cases e : s.heap.get? s1.heap.objs.size with
      | none => rfl
      | some o =>
        by_cases hm : s1.heap.objs.size ∈ W.da
        · exact absurd (G1.dh _ hm) G1.fresh
        · exact absurd (Heap.lt_size (k1.2 _ _ e hm)) (Nat.lt_irrefl _)
    refine ⟨xs, _, _, _, _, _, _, δ1, rfl, k1.trans kp.x, G1.keep kp, turns_list R.hh hne q.length hq, ⟨⟨_, Heap.get?_push_size _ rfl, rfl, rfl⟩, pl.isList.at fun o e => Heap.get?_push_of_some _ e⟩,
      rep_hide (Rep.list n pl q) kp.2 (fun b hb => by rw [List.mem_singleton.mp hb]; exact fresh_none), fun b hb => ?_, fun b hb => ?_, fun it' v => ?_, h1⟩
    · rw [List.mem_singleton.mp hb]; exact ⟨hnone, _, Heap.get?_push_size _ rfl⟩
    · simp only [List.mem_cons, List.not_mem_nil, or_false] at hb
      rcases hb with rfl | rfl
      · exact .inl (by simp)
      · obtain ⟨o, _, e, _⟩ := pl
        exact .inr ⟨n, o, Heap.get?_push_of_some _ e⟩
    · rcases hq with hq | hq
      · exact .inr (hq it' v)
      · exact .inl hq

theorem it_range {tgt : Expr} {K : List D → W.Δ → Prop} {a : Int} {n : Nat} {s s1 : Shared} {H : List Addr} {δ1 : W.Δ} {r : Addr} {t u v : Tok} {b : Int} {E : Value → Shared → Prop} (hh : C.A.handled = none)
    (hq : ∀ it v, letOwnedTupleGo tgt it v = pure ()) (k1 : KeepX W s s1) (G1 : GS W H δ1 s1) (hr : IsRange s1.heap r a b 1 t u v) (ha : -(2 ^ 62) ≤ a) (ha' : a < 2 ^ 62) (hb : -(2 ^ 62) ≤ b) (hb' : b < 2 ^ 62)
    (hn : n = (b - a).toNat) (h1 : K ((List.range n).map fun i => D.int (a + (i : Nat))) δ1) :
    wpAny (model W.prog W.w) C.A (pyIter (.ref r)) (ItP W C tgt H s K) E s1 := by
  refine wpAny_pyIter_range hr (small_one ha ha' hb hb') ?_
  have hnone : s.heap.get? s1.heap.objs.size = none := by
    cases e : s.heap.get? s1.heap.objs.size with
    | none => rfl
    | some o =>
      by_cases hm : s1.heap.objs.size ∈ W.da
      · exact absurd (G1.dh _ hm) G1.fresh
      · exact absurd (Heap.lt_size (k1.2 _ _ e hm)) (Nat.lt_irrefl _)
  have kp : KeepA s1 { s1 with heap := s1.heap.push { cls := .type "range_iterator", data := .fields #[rawInt a, rawInt (Builtin.Range.rangeSize a b 1), rawInt 1] } } := .push
  have hsz : Builtin.Range.rangeSize a b 1 = (n : Int) := by rw [rangeSize_one]; split <;> omega
  refine ⟨_, _, _, _, _, _, _, δ1, rfl, k1.trans kp.x, G1.keep kp, turns_range (a := a) (n := n) hh hq, ?_, .none, fun b hb => ?_, fun b hb => .inl hb, fun it' v => .inr (hq it' v), h1⟩
  · have := Heap.get?_push_size s1.heap (o := { cls := .type "range_iterator", data := .fields #[rawInt a, rawInt (Builtin.Range.rangeSize a b 1), rawInt 1] }) rfl
    rw [hsz] at this ⊢
    simpa [IsRangeIter] using this
  · rw [List.mem_singleton.mp hb]; exact ⟨hnone, _, Heap.get?_push_size _ rfl⟩

theorem it_range1 {tgt : Expr} {f : Str} {fp pos : Pos} {e : Expr} {K : List D → W.Δ → Prop} (hg : W.mg f = none) (hf : W.mb f = some (.type "range"))
    (h : evW W C e (fun a δ₁ => ∃ b : Int, a = .int b ∧ -(2 ^ 62) ≤ b ∧ b < 2 ^ 62 ∧ K ((List.range b.toNat).map fun i => D.int (i : Nat)) δ₁) m δ) (hk : C.env.kindOf f = some .globalImplicit := by rfl)
    (hq : ∀ it v, letOwnedTupleGo tgt it v = pure () := by intro _ _; rfl) (hs : noStar [e] = true := by rfl) (hd' : (f == ("__debug__" : Str)) = false := by decide) : itW W C tgt (.Call (.Name f fp) [e] [] pos) K m δ := fun E s H R => by
  refine Call_ (builtin_name R hk hg hf ?_ hd')
  rw [starEach_plain _ _ hs, backTo_plain]
  refine PyProof.Rows.callWith_type plain_args (evalArgs_all (spliced_cons (wpAny_mono (h E s H R) ?_ fun _ _ e => e)))
  rintro x s1 ⟨a, δ1, k1, G1, r1, b, rfl, h1, h2, h3⟩
  cases r1
  refine spliced_nil (call_range_1 ?_)
  have kp : KeepA s1 { s1 with heap := s1.heap.push { cls := .type "range", data := .fields #[.int 0 s1.toks, .int b ‹_›, .int 1 (s1.toks + 1)] }, toks := s1.toks + 1 + 1 } := .push
  refine it_range R.hh hq (k1.trans kp.x) (G1.keep kp) (IsRange.new _ _ _ _ _ _ _) (by decide) (by decide) h1 h2 (n := b.toNat) (by simp) ?_
  simpa using h3
theorem it_range2 {tgt : Expr} {f : Str} {fp pos : Pos} {e e' : Expr} {K : List D → W.Δ → Prop} (hg : W.mg f = none) (hf : W.mb f = some (.type "range"))
    (h : evW W C e (fun a δ₁ => evW W C e' (fun a' δ₂ => ∃ b b' : Int, a = .int b ∧ a' = .int b' ∧ -(2 ^ 62) ≤ b ∧ b < 2 ^ 62 ∧ -(2 ^ 62) ≤ b' ∧ b' < 2 ^ 62 ∧ K ((List.range (b' - b).toNat).map fun i => D.int (b + (i : Nat))) δ₂) m δ₁) m δ)
    (hk : C.env.kindOf f = some .globalImplicit := by rfl)
    (hq : ∀ it v, letOwnedTupleGo tgt it v = pure () := by intro _ _; rfl) (hs : noStar [e, e'] = true := by rfl) (hd' : (f == ("__debug__" : Str)) = false := by decide) : itW W C tgt (.Call (.Name f fp) [e, e'] [] pos) K m δ := fun E s H R => by
  refine Call_ (builtin_name R hk hg hf ?_ hd')
  rw [starEach_plain _ _ hs, backTo_plain]
  refine PyProof.Rows.callWith_type plain_args (evalArgs_all (spliced_cons (wpAny_mono (h E s H R) ?_ fun _ _ e => e)))
  rintro x s1 ⟨a, δ1, k1, G1, r1, h1⟩
  refine spliced_cons (wpAny_mono (h1 E s1 H (R.keepX k1 G1)) ?_ fun _ _ e => e)
  rintro y s2 ⟨a', δ2, k2, G2, r2, b, b', rfl, rfl, h1, h2, h3, h4, h5⟩
  cases r1 with | int _ t1 =>
  cases r2 with | int _ t2 =>
  refine spliced_nil (call_range_2 ?_)
  have kp : KeepA s2 { s2 with heap := s2.heap.push { cls := .type "range", data := .fields #[.int b t1, .int b' t2, .int 1 s2.toks] }, toks := s2.toks + 1 } := .push
  exact it_range R.hh hq ((k1.trans k2).trans kp.x) (G2.keep kp) (IsRange.new _ _ _ _ _ _ _) h1 h2 h3 h4 rfl h5
theorem it_enum {es : List Expr} {k : Nat} {p : Pos} {f : Str} {fp pos : Pos} {e : Expr} {K : List D → W.Δ → Prop} (hg : W.mg f = none) (hf : W.mb f = some (.type "enumerate"))
    (h : evW W C e (fun a δ₁ => ∃ xs, a = .list xs ∧ K (enumD xs) δ₁) m δ) (hk : C.env.kindOf f = some .globalImplicit := by rfl)
    (hs : noStar [e] = true := by rfl) (hd' : (f == ("__debug__" : Str)) = false := by decide) : itW W C (.Tuple es k p) (.Call (.Name f fp) [e] [] pos) K m δ := fun E s H R => by
  refine Call_ (builtin_name R hk hg hf ?_ hd')
  rw [starEach_plain _ _ hs, backTo_plain]
  refine PyProof.Rows.callWith_type plain_args (evalArgs_all (spliced_cons (wpAny_mono (h E s H R) ?_ fun _ _ e => e)))
  rintro x s1 ⟨a, δ1, k1, G1, r1, xs, rfl, h1⟩
  cases r1 with
  | list n pl q =>
    rename_i ax vs
    refine spliced_nil (call_enumerate_list pl.isList fun h' he hit hz hk' => ?_)
    refine wpAny_pyIter_enum he ?_
    have kp : KeepA s1 { s1 with heap := h' } := ⟨.refl, hk'⟩
    have lt := pl.lt
    have hnone : ∀ b, s1.heap.objs.size ≤ b → s1.heap.get? b = none := fun b hb => by
      cases e : s1.heap.get? b with
      | none => rfl
      | some o => exact absurd (Heap.lt_size e) (Nat.not_lt.mpr hb)
    have hnone' : ∀ b, s1.heap.objs.size ≤ b → s.heap.get? b = none := fun b hb => by
      cases e : s.heap.get? b with
      | none => rfl
      | some o =>
        by_cases hm : b ∈ W.da
        · obtain ⟨o', e'⟩ := G1.hex b (G1.dh _ hm); rw [hnone b hb] at e'; cases e'
        · have := k1.2 _ _ e hm; rw [hnone b hb] at this; cases this
    refine ⟨enumD xs, _, _, _, _, _, _, δ1, rfl, k1.trans kp.x, G1.keep kp, turns_enum (it := s1.heap.objs.size) R.hh (Nat.ne_of_gt (Nat.lt_succ_self _)) (Nat.ne_of_lt (Nat.lt_succ_of_lt lt)) (Nat.ne_of_lt lt) q.length, ⟨⟨_, he⟩, hit, pl.isList.at fun o e => hk' _ _ e⟩,
      rep_hide (Rep.list n pl q) hk' (fun b hb => ?_), fun b hb => ?_, fun b hb => ?_, fun it' v => .inl ⟨_, _, _, rfl⟩, h1⟩
    · simp only [List.mem_cons, List.not_mem_nil, or_false] at hb
      rcases hb with rfl | rfl
      · exact hnone _ (Nat.le_succ _)
      · exact hnone _ (Nat.le_refl _)
    · simp only [List.mem_cons, List.not_mem_nil, or_false] at hb
      rcases hb with rfl | rfl
      · exact ⟨hnone' _ (Nat.le_succ _), _, he⟩
      · obtain ⟨o, e, _⟩ := hit
        exact ⟨hnone' _ (Nat.le_refl _), _, e⟩
    · simp only [List.mem_cons, List.not_mem_nil, or_false] at hb
      rcases hb with rfl | rfl | rfl
      · exact .inl (by simp)
      · exact .inl (by simp)
      · obtain ⟨o, _, e, _⟩ := pl
        exact .inr ⟨n, o, hk' _ _ e⟩
end
/-! part L9 -/
section
variable {W : Wd} {C : FC} {m : Map} {δ : W.Δ} {P : Fl → Map → W.Δ → Prop}

/-- objects made since, laid aside -/
theorem Rel.hideX {H : List Addr} {s s2 : Shared} {δ' : W.Δ} (R : Rel W C H m δ s) (k : KeepX W s s2) (G : GS W H δ' s2) {wr : List Addr} (hw : ∀ b ∈ wr, s.heap.get? b = none ∧ ∃ o, s2.heap.get? b = some o) :
    Rel W C (wr ++ H) m δ' s2 ∧ Fm W C m H s m (wr ++ H) s2 := by
  have R2 := R.keepX k G
  have sub : ∀ {b}, b ∈ H → b ∈ wr ++ H := fun h => List.mem_append.mpr (.inr h)
  have tr : Trans H s.heap (wr ++ H) s2.heap := fun b o e n => ⟨k.2 b o e fun q => n (R.gs.dh _ q), fun q => by
    rcases List.mem_append.mp q with q | q
    · rw [(hw b q).1] at e; cases e
    · exact n q⟩
  refine ⟨{ R2 with gs := ⟨fun b o e => ⟨(G.base b o e).1, (tr b o (R.gs.base b o e).1 (R.gs.base b o e).2).2⟩, G.deck, fun a h => sub (G.dh a h), fun a h => ?_⟩, loc := ?_, lh := sub R.lh, cw := fun c hc => ⟨sub (R.cw c hc).1, (R.cw c hc).2⟩, own := fun x a d e => ⟨sub (R.own x a d e).1, (R.own x a d e).2⟩ },
    ⟨k.1, fun b o e n => ⟨k.2 b o e fun q => n (.inr (.inr (.inl q))), n⟩, fun b o e n => (tr b o e n).2, fun b o e n => .inl (sub n)⟩⟩
  · rcases List.mem_append.mp h with q | q
    · exact (hw a q).2
    · exact G.hex a q
  · obtain ⟨mm, hn, hm⟩ := R.loc
    refine ⟨mm, hn.at' fun o e => k.2 _ _ e R.ld, fun x e hx => ?_⟩
    obtain ⟨v, a, b⟩ := hm x e hx
    refine ⟨v, ?_, b.mono tr fun a' d' ea o eo => k.2 _ _ eo (R.own x a' d' (ea ▸ hx)).2.1⟩
    rcases a with a | ⟨a, c, hc, ⟨o, ho, hd⟩, hH, hd'⟩
    · exact .inl a
    · exact .inr ⟨a, c, hc, ⟨o, k.2 _ _ ho hd', hd⟩, sub hH, hd'⟩

/-- what is changed is neither seen nor the frame's -/
theorem Rel.off {H : List Addr} {s s' : Shared} {wr : List Addr} (R : Rel W C H m δ s) (l : Like s s') (k : ∀ b o, b ∉ wr → s.heap.get? b = some o → s'.heap.get? b = some o) (hw : ∀ b ∈ wr, b ∈ H ∧ ¬ Md W C m b ∧ (∃ o, s'.heap.get? b = some o) ∧ (∀ v, ¬ s.heap.IsCell b v)) :
    Rel W C H m δ s' := by
  have tr : Trans H s.heap H s'.heap := fun b o e n => ⟨k b o (fun q => n (hw b q).1) e, n⟩
  have kd : ∀ a ∈ W.da, a ∉ wr := fun a h q => (hw a q).2.1 (.inr (.inr (.inl h)))
  refine { R with gs := ⟨fun b o e => ⟨(tr b o (R.gs.base b o e).1 (R.gs.base b o e).2).1, (R.gs.base b o e).2⟩, W.stable _ _ _ (fun a h o e => k a o (kd a h) e) R.gs.deck, R.gs.dh, fun a h => ?_⟩, loc := ?_, cx := ?_ }
  · by_cases q : a ∈ wr
    · exact (hw a q).2.2.1
    · obtain ⟨o, e⟩ := R.gs.hex a h; exact ⟨o, k a o q e⟩
  · obtain ⟨mm, hn, hm⟩ := R.loc
    refine ⟨mm, hn.at' fun o e => k _ o (fun q => (hw _ q).2.1 (.inl rfl)) e, fun x e hx => ?_⟩
    obtain ⟨v, a, b⟩ := hm x e hx
    refine ⟨v, ?_, b.mono tr fun a' d' ea o eo => k a' o (fun q => (hw _ q).2.1 (.inr (.inr (.inr ⟨x, d', ea ▸ hx⟩)))) eo⟩
    rcases a with a | ⟨a, c, hc, ⟨o, ho, hd⟩, hH, hd'⟩
    · exact .inl a
    · exact .inr ⟨a, c, hc, ⟨o, k c o (fun q => (hw c q).2.2.2 _ ⟨o, ho, hd⟩) ho, hd⟩, hH, hd'⟩
  · intro x c hk hc hcw
    obtain ⟨v₀, o, e, hd⟩ := R.cx x c hk hc hcw
    exact ⟨v₀, o, k c o (fun q => (hw c q).2.1 (.inr (.inl hcw))) e, hd⟩

theorem Rel.dropOff {H : List Addr} {s s' : Shared} {wr : List Addr} (R : Rel W C H m δ s) (l : Like s s') (k : ∀ b o, b ∉ wr → s.heap.get? b = some o → s'.heap.get? b = some o) (hw : ∀ b ∈ wr, b ∈ H ∧ ¬ Md W C m b ∧ (∀ v, ¬ s.heap.IsCell b v)) :
    Rel W C (H.filter (· ∉ wr)) m δ s' := by
  have sub : ∀ b, b ∈ H.filter (· ∉ wr) ↔ b ∈ H ∧ b ∉ wr := fun b => by simp
  have tr : Trans H s.heap (H.filter (· ∉ wr)) s'.heap := fun b o e n => ⟨k b o (fun q => n (hw b q).1) e, fun q => n ((sub b).mp q).1⟩
  have kd : ∀ a ∈ W.da, a ∉ wr := fun a h q => (hw a q).2.1 (.inr (.inr (.inl h)))
  refine { R with gs := ⟨fun b o e => tr b o (R.gs.base b o e).1 (R.gs.base b o e).2, W.stable _ _ _ (fun a h o e => k a o (kd a h) e) R.gs.deck, fun a h => (sub a).mpr ⟨R.gs.dh a h, kd a h⟩, fun a h => ?_⟩, loc := ?_, cx := ?_, lh := (sub _).mpr ⟨R.lh, fun q => (hw _ q).2.1 (.inl rfl)⟩, cw := fun c hc => ⟨(sub c).mpr ⟨(R.cw c hc).1, fun q => (hw c q).2.1 (.inr (.inl hc))⟩, (R.cw c hc).2⟩, own := fun x a d e => ⟨(sub a).mpr ⟨(R.own x a d e).1, fun q => (hw a q).2.1 (.inr (.inr (.inr ⟨x, d, e⟩)))⟩, (R.own x a d e).2⟩ }
  · obtain ⟨q1, q2⟩ := (sub a).mp h
    obtain ⟨o, e⟩ := R.gs.hex a q1; exact ⟨o, k a o q2 e⟩
  · obtain ⟨mm, hn, hm⟩ := R.loc
    refine ⟨mm, hn.at' fun o e => k _ o (fun q => (hw _ q).2.1 (.inl rfl)) e, fun x e hx => ?_⟩
    obtain ⟨v, a, b⟩ := hm x e hx
    refine ⟨v, ?_, b.mono tr fun a' d' ea o eo => k a' o (fun q => (hw _ q).2.1 (.inr (.inr (.inr ⟨x, d', ea ▸ hx⟩)))) eo⟩
    rcases a with a | ⟨a, c, hc, ⟨o, ho, hd⟩, hH, hd'⟩
    · exact .inl a
    · have hcw : c ∉ wr := fun q => (hw c q).2.2 _ ⟨o, ho, hd⟩
      exact .inr ⟨a, c, hc, ⟨o, k c o hcw ho, hd⟩, (sub c).mpr ⟨hH, hcw⟩, hd'⟩
  · intro x c hk hc hcw
    obtain ⟨v₀, o, e, hd⟩ := R.cx x c hk hc hcw
    exact ⟨v₀, o, k c o (fun q => (hw c q).2.1 (.inr (.inl hcw))) e, hd⟩

def loopW (W : Wd) (C : FC) (tgt : Expr) (body : List Stmt) (P : Fl → Map → W.Δ → Prop) : List D → Map → W.Δ → Prop
  | [], m, δ => P .next m δ
  | x :: r, m, δ => asW W C tgt x (fun m1 => stW W C body (fun fl m2 δ2 => match fl with | .next => loopW W C tgt body P r m2 δ2 | .ret d => P (.ret d) m2 δ2) m1 δ) m

/-- as Fm, but for the walk's own objects -/
structure FmO (W : Wd) (C : FC) (wr : List Addr) (m : Map) (H : List Addr) (s : Shared) (m' : Map) (H' : List Addr) (s' : Shared) : Prop where
  like : Like s s'
  one : ∀ b o, b ∉ wr → s.heap.get? b = some o → ¬ Md W C m b → s'.heap.get? b = some o ∧ ¬ Md W C m' b
  two : ∀ b o, s.heap.get? b = some o → b ∉ H → b ∉ H'
  three : ∀ b o, s.heap.get? b = some o → b ∈ H → (b ∈ H' ∨ ∃ x d, m x = some (.own b d))
  w : ∀ b ∈ wr, b ∈ H' ∧ ¬ Md W C m' b

theorem FmO.step {wr : List Addr} {m m' m'' : Map} {H H' H'' : List Addr} {s s' s4 s6 : Shared} {δ δ' : W.Δ} (R : Rel W C H m δ s) (R' : Rel W C H' m' δ' s') (F : FmO W C wr m H s m' H' s') (hwH : ∀ b ∈ wr, b ∈ H) (l : Like s' s4)
    (k : ∀ b o, b ∉ wr → s'.heap.get? b = some o → s4.heap.get? b = some o) (ex : ∀ b ∈ wr, ∃ o, s4.heap.get? b = some o) (F6 : Fm W C m' H' s4 m'' H'' s6) : FmO W C wr m H s m'' H'' s6 := by
  refine ⟨F.like.trans (l.trans F6.like), fun b o hb e n => ?_, fun b o e n => ?_, fun b o e n => ?_, fun b hb => ?_⟩
  · obtain ⟨a1, a2⟩ := F.one b o hb e n
    exact F6.one b o (k b o hb a1) a2
  · have hb : b ∉ wr := fun q => n (hwH b q)
    exact F6.two b o (k b o hb (F.one b o hb e fun x => n (R.md x)).1) (F.two b o e n)
  · by_cases hb : b ∈ wr
    · obtain ⟨o', e'⟩ := ex b hb
      rcases F6.three b o' e' (F.w b hb).1 with q | ⟨x, d, q⟩
      · exact .inl q
      · exact absurd (.inr (.inr (.inr ⟨x, d, q⟩))) (F.w b hb).2
    · rcases F.three b o e n with q | q
      · obtain ⟨o', e'⟩ := R'.gs.hex b q
        rcases F6.three b o' (k b o' hb e') q with q | ⟨x, d, q⟩
        · exact .inl q
        · have hm : Md W C m b := by
            apply Classical.byContradiction
            intro hn
            exact (F.one b o hb e hn).2 (.inr (.inr (.inr ⟨x, d, q⟩)))
          have Pq := R'.own x b d q
          rcases hm with z | z | z | z
          · exact absurd z Pq.2.2.1
          · exact absurd z Pq.2.2.2
          · exact absurd z Pq.2.1
          · exact .inr z
      · exact .inr q
  · obtain ⟨o, e⟩ := ex b hb
    refine ⟨?_, (F6.one b o e (F.w b hb).2).2⟩
    rcases F6.three b o e (F.w b hb).1 with q | ⟨x, d, q⟩
    · exact q
    · exact absurd (.inr (.inr (.inr ⟨x, d, q⟩))) (F.w b hb).2

theorem FmO.whole {wr : List Addr} {m m' : Map} {H H' : List Addr} {s s2 s' : Shared} {δ δ2 : W.Δ} (R : Rel W C H m δ s) (R2 : Rel W C (wr ++ H) m δ2 s2) (F2 : Fm W C m H s m (wr ++ H) s2) (hw : ∀ b ∈ wr, s.heap.get? b = none) (F : FmO W C wr m (wr ++ H) s2 m' H' s') : Fm W C m H s m' H' s' := by
  have nw : ∀ b o, s.heap.get? b = some o → b ∉ wr := fun b o e q => by rw [hw b q] at e; cases e
  refine ⟨F2.like.trans F.like, fun b o e n => ?_, fun b o e n => ?_, fun b o e n => ?_⟩
  · exact F.one b o (nw b o e) (F2.one b o e n).1 n
  · exact F.two b o (F2.one b o e fun x => n (R.md x)).1 (F2.two b o e n)
  · obtain ⟨o2, e2⟩ := R2.gs.hex b (List.mem_append.mpr (.inr n))
    exact F.three b o2 e2 (List.mem_append.mpr (.inr n))

/-- the walk's end: its own objects are let go -/
theorem FmO.last {wr : List Addr} {m m' : Map} {H H' : List Addr} {s s2 s' s3 : Shared} {δ δ2 : W.Δ} (R : Rel W C H m δ s) (R2 : Rel W C (wr ++ H) m δ2 s2) (F2 : Fm W C m H s m (wr ++ H) s2) (hw : ∀ b ∈ wr, s.heap.get? b = none) (F : FmO W C wr m (wr ++ H) s2 m' H' s')
    (l : Like s' s3) (k : ∀ b o, b ∉ wr → s'.heap.get? b = some o → s3.heap.get? b = some o) : Fm W C m H s m' (H'.filter (· ∉ wr)) s3 := by
  have nw : ∀ b o, s.heap.get? b = some o → b ∉ wr := fun b o e q => by rw [hw b q] at e; cases e
  have F3 := F.whole R R2 F2 hw
  refine ⟨F3.like.trans l, fun b o e n => ?_, fun b o e n q => ?_, fun b o e n => ?_⟩
  · obtain ⟨a, c⟩ := F3.one b o e n
    exact ⟨k b o (nw b o e) a, c⟩
  · exact F3.two b o e n (by simp only [List.mem_filter] at q; exact q.1)
  · rcases F3.three b o e n with q | q
    · exact .inl (by simp only [List.mem_filter, decide_eq_true_eq]; exact ⟨q, nw b o e⟩)
    · exact .inr q

inductive ItemP (W : Wd) (H' wr : List Addr) (s' : Shared) (S1 : Heap → Prop) (d : D) (v : Value) (s3 : Shared) : Prop
  | mk (l : Like s' s3) (k : ∀ b o, b ∉ wr → s'.heap.get? b = some o → s3.heap.get? b = some o) (st : S1 s3.heap) (r : Rep W H' s3.heap v d) : ItemP W H' wr s' S1 d v s3
inductive ForI (W : Wd) (C : FC) (tgt : Expr) (body : List Stmt) (P : Fl → Map → W.Δ → Prop) (wr : List Addr) (m : Map) (H0 : List Addr) (s2 : Shared) (src : Value) (sd : D) (St : Nat → Heap → Prop) (xs : List D) (k : Nat) (s' : Shared) : Prop
  | mk (i : Nat) (H' : List Addr) (m' : Map) (δ' : W.Δ) (e : k = xs.length + 1 - i) (hi : i ≤ xs.length) (R : Rel W C H' m' δ' s') (F : FmO W C wr m H0 s2 m' H' s') (st : St i s'.heap) (r : Rep W H' s'.heap src sd) (h : loopW W C tgt body P (xs.drop i) m' δ') : ForI W C tgt body P wr m H0 s2 src sd St xs k s'

theorem ex_for {tgt iter : Expr} {body : List Stmt} {pos : Pos} (h : itW W C tgt iter (fun xs δ' => loopW W C tgt body P xs m δ') m δ)
    (hs : ∀ x, foldedSetIterable iter C.env x = pure x := by intro _; rfl) : exW W C (.For tgt iter body [] pos) P m δ := fun E s H R => by
  refine wpAny_For (wpAny_mono (h _ s H R) (fun x s1 h1 => wpAny_mono h1 (fun it s2 h2 => ?_) fun _ _ e => e) fun _ _ e => e) hs
  obtain ⟨xs, I, fp, wr, src, sd, St, δ1, rfl, k2, G2, T, hst, hr, hw, hf, hgo, hl⟩ := h2
  obtain ⟨R2, F2⟩ := R.hideX k2 G2 hw
  have mdw : ∀ b ∈ wr, ¬ Md W C m b := fun b hb q => by
    obtain ⟨o, e⟩ := R.gs.hex b (R.md q)
    rw [(hw b hb).1] at e; cases e
  have hwH : ∀ b ∈ wr, b ∈ wr ++ H := fun b hb => List.mem_append.mpr (.inl hb)
  refine codeAny_forLoop_any (ForI W C tgt body P wr m (wr ++ H) s2 src sd St xs) ?_ (xs.length + 1)
    ⟨0, wr ++ H, m, δ1, rfl, Nat.zero_le _, R2, ⟨.refl, fun _ _ _ e n => ⟨e, n⟩, fun _ _ _ n => n, fun _ _ _ n => .inl n, fun b hb => ⟨hwH b hb, mdw b hb⟩⟩, hst, hr, by simpa using hl⟩
  rintro k s' ⟨i, H', m', δ', rfl, hi, R', F', hst', hr', hl'⟩
  have fpk : ∀ b ∈ fp, ¬ Md W C m' b := fun b hb => by
    rcases hf b hb with q | ⟨q, o, e⟩
    · exact (F'.w b q).2
    · by_cases hbw : b ∈ wr
      · exact (F'.w b hbw).2
      · exact (F'.one b o hbw e fun z => q (R.md z)).2
  by_cases hlt : i < xs.length
  · have hd : xs[i]? = some xs[i] := List.getElem?_eq_getElem hlt
    have hdrop : xs.drop i = xs[i] :: xs.drop (i + 1) := List.drop_eq_getElem_cons hlt
    rw [hdrop] at hl'
    refine wpAny_mono (T.item i xs[i] s' H' (ItemP W H' wr s' (St (i + 1)) xs[i]) _ hd hst' (fun a ha => (F'.w a ha).1) R'.gs.fresh hr'
      fun v s3 a b c d => ⟨a, b, c, d⟩) ?_ fun _ _ e => e
    rintro r s3 ⟨v, rfl, h3⟩
    refine wpAny_mono h3 ?_ fun _ _ e => e
    rintro _ s4 ⟨l4, k4, st4, r4⟩
    have ex4 := T.ex _ _ st4
    have R4 : Rel W C H' m' δ' s4 := R'.off l4 k4 fun b hb => ⟨(F'.w b hb).1, (F'.w b hb).2, ex4 b hb, fun v => T.nc i _ hst' b hb v⟩
    refine wpAny_mono (hl' _ s4 H' δ' v R4 r4) ?_ fun _ _ e => e
    rintro _ s5 ⟨m5, F5, R5, h5⟩
    refine wpAny_mono (h5 _ s5 H' R5) ?_ fun _ _ e => e
    rintro f s6 ⟨H6, m6, δ6, F6, R6, h6⟩
    have F56 := F5.trans R4 R5 F6
    have F46 := F'.step R2 R' hwH l4 k4 ex4 F56
    cases f with
    | next =>
      refine ⟨xs.length + 1 - (i + 1), by omega, i + 1, H6, m6, δ6, rfl, hlt, R6, F46, T.frame _ _ _ st4 fun b hb o e => (F56.one b o e (fpk b hb)).1, ?_, h6⟩
      refine (hr'.mono fun b o e n => ?_ : Rep W H' s4.heap src sd).mono (F56.tr R4)
      exact ⟨k4 b o (fun q => n (F'.w b q).1) e, n⟩
    | ret v => exact ⟨H6, m6, δ6, F46.whole R R2 F2 fun b hb => (hw b hb).1, R6, h6⟩
    | brk => exact h6.elim
    | cont => exact h6.elim
  · have hin : i = xs.length := by omega
    subst hin
    rw [List.drop_length] at hl'
    refine T.done s' _ _ hst' fun s3 l3 k3 => wpAny_execs_nil ?_
    exact ⟨_, m', δ', F'.last R R2 F2 (fun b hb => (hw b hb).1) l3 k3, R'.dropOff l3 k3 fun b hb => ⟨(F'.w b hb).1, (F'.w b hb).2, fun v => T.nc _ _ hst' b hb v⟩, hl'⟩
end
/-! part L10 -/

theorem compLoop_tests {prog : Program} {w : World} {A : Around} {R : Result → Shared → Prop} {s : Shared} {elt target iter : Expr} {ifs : List Expr} {scope : Scope} {pos : Pos} {it acc : Value} {env : Env} (I : Nat → Shared → Prop)
    (turn : ∀ n s, I n s → wpAny (model prog w) A (pyNext it) (fun r s₁ => match r with
      | none => R (.ok .next) s₁
      | some v => wpAny (model prog w) A (letOwnedTupleGo target it v) (fun _ s₁' => wpAny (model prog w) A (assign target env v) (fun _ s₂ =>
          wpAny (model prog w) A (forIn ifs true fun c r => if r = true then do let ok ← isTrue c env (eval c env); pure (ForInStep.yield ok) else pure (ForInStep.yield r)) (fun ok s₃ =>
            if ok = true then wpAny (model prog w) A (eval elt env) (fun x s₄ =>
              wpAny (model prog w) A (call (.builtin "list.append") [acc, x]) (fun _ s₅ => ∃ m, m < n ∧ I m s₅) (notedBy (model prog w) A env fun e s' => R (.error e) s') s₄) (notedBy (model prog w) A env fun e s' => R (.error e) s') s₃
            else ∃ m, m < n ∧ I m s₃) (notedBy (model prog w) A env fun e s' => R (.error e) s') s₂) (notedBy (model prog w) A env fun e s' => R (.error e) s') s₁') (notedBy (model prog w) A env fun e s' => R (.error e) s') s₁) (notedBy (model prog w) A env fun e s' => R (.error e) s') s)
    (n : Nat) (h : I n s) :
    codeAny (model prog w) A (.compLoop (.ListComp elt [⟨target, iter, ifs, 0⟩] scope pos) 0 it acc env) R s := by
  refine codeAny_loop rfl I (fun n s hI => ?_) n h
  show wpAny _ A ((compTurn (.ListComp elt [⟨target, iter, ifs, 0⟩] scope pos) 0 it acc env).onRaise (fun x => do noteFrame x env; theTreesLotGoes x)) _ _ s
  refine wpAny_noted ?_
  rw [compTurn_list]
  refine wpAny_bind (wpAny_standAt (wpAny_bind (wpAny_mono (turn n s hI) (fun r s₁ h₁ => ?_) fun _ _ h' => h')))
  cases r with
  | none => exact wpAny_pure h₁
  | some v =>
    refine wpAny_bind (wpAny_mono h₁ (fun _ s₁' h₁' => ?_) fun _ _ h' => h')
    refine wpAny_bind (wpAny_mono h₁' (fun _ s₂ h₂ => wpAny_bind (wpAny_mono h₂ (fun ok s₃ h₃ => ?_) fun _ _ h' => h')) fun _ _ h' => h')
    cases ok with
    | false => exact wpAny_pure ⟨rfl, h₃⟩
    | true =>
      exact wpAny_bind (wpAny_bind (wpAny_mono h₃ (fun x s₄ h₄ => wpAny_bind (wpAny_mono h₄ (fun _ s₅ h₅ => wpAny_pure (wpAny_pure ⟨rfl, h₅⟩)) fun _ _ h' => h')) fun _ _ h' => h'))

section
variable {W : Wd} {C : FC} {m : Map} {δ : W.Δ}

def testsW (W : Wd) (C : FC) : List Expr → (Bool → W.Δ → Prop) → Map → W.Δ → Prop
  | [], K, _, δ => K true δ
  | [c], K, m, δ => teW W C c K m δ
  | _, _, _, _ => False
def compW (W : Wd) (C : FC) (tgt : Expr) (ifs : List Expr) (elt : Expr) (K : List D → W.Δ → Prop) : List D → List D → Map → W.Δ → Prop
  | [], acc, _, δ => K acc δ
  | x :: r, acc, m, δ => asW W C tgt x (fun m1 => testsW W C ifs (fun b δ1 => if b = true then evW W C elt (fun d δ2 => compW W C tgt ifs elt K r (acc ++ [d]) m1 δ2) m1 δ1 else compW W C tgt ifs elt K r acc m1 δ1) m1 δ) m

theorem tests_run {ifs : List Expr} {K : Bool → W.Δ → Prop} (h : testsW W C ifs K m δ) (E : Value → Shared → Prop) (s : Shared) (H : List Addr) (R : Rel W C H m δ s) :
    wpAny (model W.prog W.w) C.A (forIn ifs true fun c r => if r = true then do let ok ← isTrue c C.env (eval c C.env); pure (ForInStep.yield ok) else pure (ForInStep.yield r)) (TeP W H s K) E s := by
  match ifs, h with
  | [], h => exact wpAny_tests_nil ⟨δ, .refl, R.gs, h⟩
  | [c], h => exact wpAny_tests_one (h E s H R)
  | _ :: _ :: _, h => exact h.elim

theorem FmO.off {wr : List Addr} {m m' : Map} {H H' : List Addr} {s s' s3 : Shared} (F : FmO W C wr m H s m' H' s') (l : Like s' s3) (k : ∀ b o, b ∉ wr → s'.heap.get? b = some o → s3.heap.get? b = some o) : FmO W C wr m H s m' H' s3 :=
  ⟨F.like.trans l, fun b o hb e n => ⟨k b o hb (F.one b o hb e n).1, (F.one b o hb e n).2⟩, F.two, F.three, F.w⟩

abbrev cc (C : FC) (scope : Scope) (cl : List (Str × Addr)) (L : Addr) : FC := ⟨C.A, compEnvC scope cl L C.env, [], C.n⟩
def fvMap (fv : List Str) (m : Map) : Map := fun x => if x ∈ fv then m x else none

theorem notMd_cc {scope : Scope} {cl : List (Str × Addr)} {L : Addr} {mc : Map} {b : Addr} (hv : ∀ x a d, mc x ≠ some (.own a d)) (h1 : b ≠ L) (h2 : b ∉ W.da) : ¬ Md W (cc C scope cl L) mc b := by
  rintro (q | q | q | ⟨x, d, q⟩)
  · exact h1 q
  · cases q
  · exact h2 q
  · exact hv x b d q

inductive CompI (W : Wd) (C' : FC) (tgt : Expr) (ifs : List Expr) (elt : Expr) (Kc : List D → W.Δ → Prop) (Da : Addr) (wr : List Addr) (m0 : Map) (H0 : List Addr) (s4 : Shared) (src : Value) (sd : D) (St : Nat → Heap → Prop) (xs : List D) (k : Nat) (s' : Shared) : Prop
  | mk (i : Nat) (H' : List Addr) (m' : Map) (δ' : W.Δ) (vs : List Value) (acc : List D) (e : k = xs.length + 1 - i) (hi : i ≤ xs.length) (R : Rel W C' H' m' δ' s') (F : FmO W C' (Da :: wr) m0 H0 s4 m' H' s') (st : St i s'.heap) (r : Rep W H' s'.heap src sd)
      (pl : PlainL s'.heap Da (List.toArray vs)) (ra : RepAll W H' s'.heap vs acc) (ha : acc.length ≤ i) (h : compW W C' tgt ifs elt Kc (xs.drop i) acc m' δ') : CompI W C' tgt ifs elt Kc Da wr m0 H0 s4 src sd St xs k s'
theorem comp_core {elt tgt iter : Expr} {ifs : List Expr} {scope : Scope} {cl : List (Str × Addr)} {pos : Pos} {fv : List Str} {Kc : List D → W.Δ → Prop} {E : Value → Shared → Prop} {s : Shared} {H : List Addr} {RR : Value → Addr → Result → Shared → Prop}
    (R : Rel W C H m δ s) (hcell : ∀ y ∈ scope.names, y.2 ≠ .cell) (hkind : scope.kind = .function)
    (hfv : ∀ x ∈ fv, C.env.kindOf x = some .cell ∧ (relabel scope C.env).names.lookup x = some .cell ∧ cl.lookup x = C.env.cells.lookup x ∧ ∃ d, m x = some (.val d))
    (hcl : ∀ x c, cl.lookup x = some c → C.env.cells.lookup x = some c)
    (h : itW W C tgt iter (fun xs δ' => xs.length ≤ sizeLine ∧ ∀ L, compW W (cc C scope cl L) tgt ifs elt Kc xs [] (fvMap fv m) δ') m δ)
    (hRR : ∀ (dd : Addr) (L : Addr) (s' : Shared) (δ' : W.Δ) (ds : List D) (mm : Str → Option Value), s.heap.get? L = none → s.heap.get? dd = none → (∃ o, s'.heap.get? L = some o) → s'.heap.Ns L mm → KeepX W s s' → GS W H δ' s' → Rep W (L :: H) s'.heap (.ref dd) (.list ds) → Kc ds δ' → RR (.ref dd) L (.ok .next) s') :
    wpAny (model W.prog W.w) C.A (eval iter C.env) (fun x s₁ => wpAny (model W.prog W.w) C.A (pyIter x) (fun it s₂ => wpAny (model W.prog W.w) C.A (newList []) (fun acc s₃ =>
      wpAny (model W.prog W.w) C.A (newFunctionEnv scope C.env.globals cl [] C.env.qual none .none (some C.env)) (fun cenv s₄ =>
        codeAny (model W.prog W.w) C.A (.compStart (.ListComp elt [⟨tgt, iter, ifs, 0⟩] scope pos) 0 it acc { cenv with scope := relabel scope C.env }) (RR acc cenv.locals) s₄) E s₃) E s₂) E s₁) E s := by
  refine wpAny_mono (h E s H R) (fun x s1 h1 => wpAny_mono h1 (fun it s2 h2 => ?_) fun _ _ e => e) fun _ _ e => e
  obtain ⟨xs, I, fp, wr, src, sd, St, δ1, rfl, k2, G2, T, hst, hr, hw, hf, hgo, hz, hl⟩ := h2
  refine wpAny_newList ?_ (by simp)
  refine wpAny_newFunctionEnv hcell (by intro y hy; simp at hy) (fun h4 hns hsb => ?_) hkind
  dsimp only at hns hsb ⊢
  generalize hH3 : s2.heap.push { cls := .type "list", dict := none, data := .seq ([] : List Value).toArray } = h3 at hns hsb ⊢
  have hD : h3.get? s2.heap.objs.size = some { cls := .type "list", dict := none, data := .seq ([] : List Value).toArray } := by rw [← hH3]; exact Heap.get?_push_size _ rfl
  have hL3 : h3.objs.size = s2.heap.objs.size + 1 := by rw [← hH3, Heap.size_push]
  have hDL : s2.heap.objs.size ≠ h3.objs.size := by rw [hL3]; exact Nat.ne_of_lt (Nat.lt_succ_self _)
  have k23 : ∀ b o, s2.heap.get? b = some o → h3.get? b = some o := fun b o e => by rw [← hH3]; exact Heap.get?_push_of_some _ e
  have k34 : ∀ b o, h3.get? b = some o → h4.get? b = some o := fun b o e => hsb.extBut b o (Nat.ne_of_lt (Heap.lt_size e)) (Heap.get?_push_of_some _ e)
  have k24 : ∀ b o, s2.heap.get? b = some o → h4.get? b = some o := fun b o e => k34 b o (k23 b o e)
  have old2 : ∀ b o, s.heap.get? b = some o → ∃ o', s2.heap.get? b = some o' := fun b o e => by
    by_cases hm : b ∈ W.da
    · exact G2.hex b (G2.dh b hm)
    · exact ⟨o, k2.2 b o e hm⟩
  have fresh2 : ∀ b, s2.heap.objs.size ≤ b → s2.heap.get? b = none := fun b hb => by
    cases e : s2.heap.get? b with
    | none => rfl
    | some o => exact absurd (Heap.lt_size e) (Nat.not_lt.mpr hb)
  have fresh : ∀ b, s2.heap.objs.size ≤ b → s.heap.get? b = none := fun b hb => by
    cases e : s.heap.get? b with
    | none => rfl
    | some o => obtain ⟨o', e'⟩ := old2 b o e; rw [fresh2 b hb] at e'; cases e'
  generalize hLL : h3.objs.size = L at *
  generalize hDD : s2.heap.objs.size = Da at *
  have hLf : s.heap.get? L = none := fresh L (by rw [hL3]; exact Nat.le_succ _)
  have hDf : s.heap.get? Da = none := fresh Da (Nat.le_refl _)
  have hD4 : h4.get? Da = some { cls := .type "list", dict := none, data := .seq ([] : List Value).toArray } := k34 _ _ hD
  -- the hidden ones, and the state in the block
  have exL : ∃ o, h4.get? L = some o := let ⟨o, _, _, e, _⟩ := hns; ⟨o, e⟩
  have cons2 : ∀ b, b ∈ (L :: Da :: wr) → s.heap.get? b = none ∧ ∃ o, h4.get? b = some o := fun b hb => by
    rcases List.mem_cons.mp hb with rfl | hb
    · exact ⟨hLf, exL⟩
    rcases List.mem_cons.mp hb with rfl | hb
    · exact ⟨hDf, _, hD4⟩
    · exact ⟨(hw b hb).1, let ⟨o, e⟩ := (hw b hb).2; ⟨o, k24 b o e⟩⟩
  have k4 : ∀ tk, KeepX W s { s2 with heap := h4, toks := tk } := fun tk => k2.trans (KeepA.x ⟨.refl, k24⟩)
  have G4 : ∀ tk, GS W H δ1 { s2 with heap := h4, toks := tk } := fun tk => G2.keep ⟨.refl, k24⟩
  have start : ∀ tk, Rel W (cc C scope cl L) ((L :: Da :: wr) ++ H) (fvMap fv m) δ1 { s2 with heap := h4, toks := tk } ∧ Fm W C m H s m ((L :: Da :: wr) ++ H) { s2 with heap := h4, toks := tk } := fun tk => by
    obtain ⟨R4, F4⟩ := R.hideX (k4 tk) (G4 tk) (wr := L :: Da :: wr) cons2
    refine ⟨⟨R4.gs, by show scope.kind = .function; exact hkind, R.gl, R.bl, R.hh, R.room, R.units, R.gd, ⟨_, hns, fun x e hx => ?_⟩, by show L ∈ (L :: Da :: wr) ++ H; simp, fun q => ?_, (fun c hc => by cases hc), (fun _ c _ _ hc => by cases hc), fun x y c h1 h2 => R.ci x y c (hcl x c h1) (hcl y c h2), fun x a d hx => ?_, fun x y a d e hx _ => ?_⟩, F4⟩
    · unfold fvMap at hx
      split at hx
      · rename_i hxf
        obtain ⟨q1, q2, q3, d, q4⟩ := hfv x hxf
        rw [q4] at hx; cases hx
        obtain ⟨mm, hn, hm⟩ := R4.loc
        obtain ⟨v, a, b⟩ := hm x _ q4
        refine ⟨v, ?_, b⟩
        rcases a with ⟨a, _⟩ | ⟨_, c, hc, hi, hH, hd⟩
        · rw [q1] at a; cases a
        · exact .inr ⟨.inl q2, c, q3.trans hc, hi, hH, hd⟩
      · cases hx
    · obtain ⟨o, e⟩ := R.gs.hex L (R.gs.dh L q); rw [hLf] at e; cases e
    · unfold fvMap at hx; split at hx
      · rename_i hxf; obtain ⟨_, _, _, d', q4⟩ := hfv x hxf; rw [q4] at hx; cases hx
      · cases hx
    · unfold fvMap at hx; split at hx
      · rename_i hxf; obtain ⟨_, _, _, d', q4⟩ := hfv x hxf; rw [q4] at hx; cases hx
      · cases hx
  have wrA : ∀ b ∈ (Da :: wr), b ∈ ((L :: Da :: wr) ++ H) ∧ ¬ Md W (cc C scope cl L) (fvMap fv m) b := fun b hb => by
    refine ⟨by simp only [List.cons_append, List.mem_cons, List.mem_append] at hb ⊢; rcases hb with q | q <;> simp [q], ?_⟩
    have fr : s.heap.get? b = none := (cons2 b (List.mem_cons_of_mem _ hb)).1
    refine notMd_cc (fun x a d hx => ?_) (fun q => ?_) fun q => ?_
    · unfold fvMap at hx; split at hx
      · rename_i hxf; obtain ⟨_, _, _, d', q4⟩ := hfv x hxf; rw [q4] at hx; cases hx
      · cases hx
    · rcases List.mem_cons.mp hb with rfl | hb
      · exact hDL q
      · obtain ⟨o, e⟩ := (hw b hb).2
        have := Heap.lt_size e
        rw [hDD, q, hL3] at this
        exact absurd this (Nat.not_lt.mpr (Nat.le_succ _))
    · obtain ⟨o, e⟩ := R.gs.hex b (R.gs.dh b q); rw [fr] at e; cases e
  have fpM : ∀ b ∈ fp, ¬ Md W (cc C scope cl L) (fvMap fv m) b := fun b hb => by
    rcases hf b hb with q | ⟨q, o, e⟩
    · exact (wrA b (List.mem_cons_of_mem _ q)).2
    · refine notMd_cc (fun x a d hx => ?_) (fun q' => ?_) fun q' => q (R.gs.dh b q')
      · unfold fvMap at hx; split at hx
        · rename_i hxf; obtain ⟨_, _, _, d', q4⟩ := hfv x hxf; rw [q4] at hx; cases hx
        · cases hx
      · have := Heap.lt_size e
        rw [hDD, q', hL3] at this
        exact absurd this (Nat.not_lt.mpr (Nat.le_succ _))
  have st4 : St 0 h4 := T.frame 0 _ _ hst fun b _ o e => k24 b o e
  have hr4 : Rep W ((L :: Da :: wr) ++ H) h4 src sd := hr.mono fun b o e n => ⟨k24 b o e, fun q => by
    simp only [List.cons_append, List.mem_cons, List.mem_append] at q
    have := Heap.lt_size e
    rcases q with q | q | q | q
    · rw [hDD, q, hL3] at this; exact absurd this (Nat.not_lt.mpr (Nat.le_succ _))
    · rw [hDD, q] at this; exact absurd this (Nat.lt_irrefl _)
    · exact n (List.mem_append.mpr (.inl q))
    · exact n (List.mem_append.mpr (.inr q))⟩
  have loop : ∀ s4 : Shared, s4 = { s2 with heap := h4, toks := s2.toks + ([] : List (Str × Value)).length } →
      codeAny (model W.prog W.w) C.A (.compLoop (.ListComp elt [⟨tgt, iter, ifs, 0⟩] scope pos) 0 (.ref I) (.ref Da) (compEnvC scope cl L C.env)) (RR (.ref Da) L) s4 := by
    intro s4 hs4
    have hh4 : s4.heap = h4 := by rw [hs4]
    obtain ⟨R4, F4⟩ := start (s2.toks + ([] : List (Str × Value)).length)
    rw [← hs4] at R4 F4
    refine compLoop_tests (CompI W (cc C scope cl L) tgt ifs elt Kc Da wr (fvMap fv m) ((L :: Da :: wr) ++ H) s4 src sd St xs) ?_ (xs.length + 1)
      ⟨0, _, _, δ1, [], [], rfl, Nat.zero_le _, R4, ⟨.refl, fun _ _ _ e n => ⟨e, n⟩, fun _ _ _ n => n, fun _ _ _ n => .inl n, wrA⟩, hh4 ▸ st4, hh4 ▸ hr4, ⟨_, _, hh4 ▸ hD4, rfl, rfl, rfl⟩, .nil, Nat.le_refl _, by simpa using hl L⟩
    rintro k s' ⟨i, H', m', δ', vs, acc, rfl, hi, R', F', hst', hr', pl', ra', hacc, hl'⟩
    have fpk : ∀ b ∈ fp, ¬ Md W (cc C scope cl L) m' b := fun b hb => by
      by_cases hbw : b ∈ (Da :: wr)
      · exact (F'.w b hbw).2
      · rcases hf b hb with q | ⟨q, o, e⟩
        · exact absurd (List.mem_cons_of_mem _ q) hbw
        · exact (F'.one b o hbw (hh4 ▸ k24 b o e) (fpM b hb)).2
    have nw : ∀ b, b ∉ (Da :: wr) → b ∉ wr := fun b n q => n (List.mem_cons_of_mem _ q)
    have inw : ∀ b, b ∈ wr → b ∈ (Da :: wr) := fun b q => List.mem_cons_of_mem _ q
    have Dnw : Da ∉ wr := fun q => by obtain ⟨o, e⟩ := (hw Da q).2; rw [fresh2 Da (Nat.le_refl _)] at e; cases e
    have DnotMd := (F'.w Da List.mem_cons_self).2
    by_cases hlt : i < xs.length
    · have hd : xs[i]? = some xs[i] := List.getElem?_eq_getElem hlt
      have hdrop : xs.drop i = xs[i] :: xs.drop (i + 1) := List.drop_eq_getElem_cons hlt
      rw [hdrop] at hl'
      refine wpAny_mono (T.item i xs[i] s' H' (ItemP W H' wr s' (St (i + 1)) xs[i]) _ hd hst' (fun a ha => (F'.w a (inw a ha)).1) R'.gs.fresh hr'
        fun v s3 a b c d => ⟨a, b, c, d⟩) ?_ fun _ _ e => e
      rintro r s3 ⟨v, rfl, h3⟩
      refine wpAny_mono h3 ?_ fun _ _ e => e
      rintro _ s5 ⟨l5, k5, st5, r5⟩
      have pl5 : PlainL s5.heap Da (List.toArray vs) := plainL_at pl' fun o e => k5 Da o Dnw e
      have ex5 : ∀ b ∈ (Da :: wr), ∃ o, s5.heap.get? b = some o := fun b hb => by
        rcases List.mem_cons.mp hb with rfl | hb
        · obtain ⟨o, _, e, _⟩ := pl5; exact ⟨o, e⟩
        · exact T.ex _ _ st5 b hb
      have R5 : Rel W (cc C scope cl L) H' m' δ' s5 := R'.off l5 k5 fun b hb => ⟨(F'.w b (inw b hb)).1, (F'.w b (inw b hb)).2, T.ex _ _ st5 b hb, fun v => T.nc i _ hst' b hb v⟩
      refine wpAny_mono (hl' _ s5 H' δ' v R5 r5) ?_ fun _ _ e => e
      rintro _ s6 ⟨m6, F6, R6, h6⟩
      refine wpAny_mono (tests_run h6 _ s6 H' R6) ?_ fun _ _ e => e
      rintro b s7 ⟨δ7, k7, G7, h7⟩
      have R7 := R6.keepX k7 G7
      have F57 := F6.trans R5 R6 (Fm.ofX k7)
      have tr5 : Trans H' s'.heap H' s5.heap := fun b o e n => ⟨k5 b o (fun q => n (F'.w b (inw b q)).1) e, n⟩
      have tr57 : Trans H' s'.heap H' s7.heap := tr5.trans (F57.tr R5)
      have F47 := F'.step R4 R' (fun b hb => (wrA b hb).1) l5 (fun b o hb e => k5 b o (nw b hb) e) ex5 F57
      have st7 : St (i + 1) s7.heap := T.frame _ _ _ st5 fun b hb o e => (F57.one b o e (fpk b hb)).1
      have pl7 : PlainL s7.heap Da (List.toArray vs) := plainL_at pl5 fun o e => (F57.one Da o e DnotMd).1
      cases b with
      | false =>
        simp only [Bool.false_eq_true, if_false] at h7 ⊢
        exact ⟨xs.length + 1 - (i + 1), by omega, i + 1, H', m6, δ7, vs, acc, rfl, hlt, R7, F47, st7, hr'.mono tr57, pl7, ra'.mono tr57, by omega, h7⟩
      | true =>
        simp only [if_true] at h7 ⊢
        refine wpAny_mono (h7 _ s7 H' R7) ?_ fun _ _ e => e
        rintro y s8 ⟨d, δ8, k8, G8, r8, h8⟩
        have R8 := R7.keepX k8 G8
        have F58 := F57.trans R5 R7 (Fm.ofX k8)
        have F48 := F'.step R4 R' (fun b hb => (wrA b hb).1) l5 (fun b o hb e => k5 b o (nw b hb) e) ex5 F58
        have st8 : St (i + 1) s8.heap := T.frame _ _ _ st5 fun b hb o e => (F58.one b o e (fpk b hb)).1
        have pl8 : PlainL s8.heap Da (List.toArray vs) := plainL_at pl5 fun o e => (F58.one Da o e DnotMd).1
        have tr58 := tr57.trans (k8.tr R7.gs)
        refine list_append_plainL pl8 (fun h9 pl9 hs9 => ?_) (by simp only [List.size_toArray, ra'.length]; omega)
        have off9 : ∀ b o, b ∉ [Da] → s8.heap.get? b = some o → h9.get? b = some o := fun b o hb e => hs9.extBut b o (by simpa using hb) e
        have DH := (F48.w Da List.mem_cons_self)
        have R9 : Rel W (cc C scope cl L) H' m6 δ8 { s8 with heap := h9 } := R8.off .refl off9 fun b hb => by
          rw [List.mem_singleton.mp hb]
          refine ⟨DH.1, DH.2, let ⟨o, _, e, _⟩ := pl9; ⟨o, e⟩, ?_⟩
          rintro v ⟨o', e', hd'⟩
          obtain ⟨o, n, e, _, _, dd⟩ := pl8
          rw [e] at e'; cases e'; rw [dd] at hd'; cases hd'
        have tr9 : Trans H' s8.heap H' h9 := fun b o e n => ⟨off9 b o (fun q => n (by rw [List.mem_singleton.mp q]; exact DH.1)) e, n⟩
        have F49 : FmO W (cc C scope cl L) (Da :: wr) (fvMap fv m) ((L :: Da :: wr) ++ H) s4 m6 H' { s8 with heap := h9 } := F48.off .refl fun b o hb e => off9 b o (fun q => hb (by rw [List.mem_singleton.mp q]; exact List.mem_cons_self)) e
        refine ⟨xs.length + 1 - (i + 1), by omega, i + 1, H', m6, δ8, vs ++ [y], acc ++ [d], rfl, hlt, R9, F49, T.frame _ _ _ st8 fun b hb o e => off9 b o (fun q => ?_) e, hr'.mono (tr58.trans tr9), by simpa using pl9, ((ra'.mono tr58).append (.cons r8 .nil)).mono tr9, by simp; omega, h8⟩
        rw [List.mem_singleton.mp q] at hb
        rcases hf Da hb with q' | ⟨_, o', e'⟩
        · exact Dnw q'
        · rw [fresh2 Da (Nat.le_refl _)] at e'; cases e'
    · have hin : i = xs.length := by omega
      subst hin
      rw [List.drop_length] at hl'
      refine T.done s' _ _ hst' fun s5 l5 k5 => ?_
      have pl5 : PlainL s5.heap Da (List.toArray vs) := plainL_at pl' fun o e => k5 Da o Dnw e
      have F5 := F'.off l5 fun b o hb e => k5 b o (nw b hb) e
      have R5 := R'.dropOff l5 k5 fun b hb => ⟨(F'.w b (inw b hb)).1, (F'.w b (inw b hb)).2, fun v => T.nc _ _ hst' b hb v⟩
      -- whatever stood before the block and was hidden is hidden still
      have hid : ∀ b, b ∈ H → b ∈ H' := fun b hb => by
        obtain ⟨o, e⟩ := R4.gs.hex b (List.mem_append.mpr (.inr hb))
        rcases F'.three b o e (List.mem_append.mpr (.inr hb)) with q | ⟨x, d, hx⟩
        · exact q
        · unfold fvMap at hx; split at hx
          · rename_i hxf; obtain ⟨_, _, _, d', q4⟩ := hfv x hxf; rw [q4] at hx; cases hx
          · cases hx
      have mdH : ∀ b o, s.heap.get? b = some o → b ∉ W.da → ¬ Md W (cc C scope cl L) (fvMap fv m) b := fun b o e n => notMd_cc (fun x a d hx => by
          unfold fvMap at hx; split at hx
          · rename_i hxf; obtain ⟨_, _, _, d', q4⟩ := hfv x hxf; rw [q4] at hx; cases hx
          · cases hx) (fun q => by rw [q, hLf] at e; cases e) n
      have nwA : ∀ b o, s.heap.get? b = some o → b ∉ (Da :: wr) := fun b o e q => by rw [(cons2 b (List.mem_cons_of_mem _ q)).1] at e; cases e
      have KX : KeepX W s s5 := ⟨F4.like.trans F5.like, fun b o e n => (F5.one b o (nwA b o e) (by rw [hh4]; exact (k4 0).2 b o e n) (mdH b o e n)).1⟩
      have LH' : L ∈ H' := R'.lh
      have trF : Trans H' s'.heap (L :: H) s5.heap := fun b o e n => ⟨k5 b o (fun q => n (F'.w b (inw b q)).1) e, fun q => by
        rcases List.mem_cons.mp q with rfl | q
        · exact n LH'
        · exact n (hid b q)⟩
      have GG : GS W H δ' s5 := ⟨fun b o e => ⟨(R5.gs.base b o e).1, (R.gs.base b o e).2⟩, R5.gs.deck, R.gs.dh, fun b hb => by
        obtain ⟨o, e⟩ := R.gs.hex b hb
        by_cases hm : b ∈ W.da
        · exact R5.gs.hex b (R5.gs.dh b hm)
        · exact ⟨o, KX.2 b o e hm⟩⟩
      obtain ⟨mm, hmm, _⟩ := R5.loc
      have hmL : s5.heap.Ns L mm := hmm
      refine hRR Da L s5 δ' acc mm hLf hDf (let ⟨o, _, _, e, _⟩ := hmL; ⟨o, e⟩) hmL KX GG (.list (fun q => ?_) pl5 (ra'.mono trF)) hl'
      rcases List.mem_cons.mp q with q | q
      · exact hDL q
      · obtain ⟨o, e⟩ := R.gs.hex Da q; rw [hDf] at e; cases e
  exact codeAny_compStart_list (loop _ rfl) (T.self _ _ _ st4 (loop _ rfl))
end
/-! part L11 -/
section
variable {W : Wd} {C : FC} {m : Map} {δ : W.Δ}

theorem comp_end {s s' : Shared} {H : List Addr} {δ' : W.Δ} {dd L : Addr} {ds : List D} {h' : Heap} (G : GS W H δ s) (hL : s.heap.get? L = none) (KX : KeepX W s s') (GG : GS W H δ' s') (r : Rep W (L :: H) s'.heap (.ref dd) (.list ds)) (hs : Heap.SameBut L s'.heap h') :
    KeepX W s { s' with heap := h' } ∧ GS W H δ' { s' with heap := h' } ∧ Rep W H h' (.ref dd) (.list ds) := by
  have LH : L ∉ H := fun q => by obtain ⟨o, e⟩ := G.hex L q; rw [hL] at e; cases e
  have k : ∀ b o, b ≠ L → s'.heap.get? b = some o → h'.get? b = some o := fun b o n e => hs.extBut b o n e
  refine ⟨⟨KX.1, fun b o e n => k b o (fun q => by rw [q, hL] at e; cases e) (KX.2 b o e n)⟩, ⟨fun b o e => ⟨k b o (fun q => by
      have := (G.base b o e).1; rw [q, hL] at this; cases this) (GG.base b o e).1, (GG.base b o e).2⟩, W.stable _ _ _ (fun a ha o e => k a o (fun q => LH (q ▸ G.dh a ha)) e) GG.deck, GG.dh, fun b hb => ?_⟩, r.mono fun b o e n => ⟨k b o (fun q => n (by rw [q]; exact List.mem_cons_self)) e, fun q => n (List.mem_cons_of_mem _ q)⟩⟩
  obtain ⟨o, e⟩ := GG.hex b hb
  exact ⟨o, k b o (fun q => LH (q ▸ hb)) e⟩

theorem ev_comp {elt tgt iter : Expr} {ifs : List Expr} {scope : Scope} {pos : Pos} {K : D → W.Δ → Prop} (fv : List Str) (cl : List (Str × Addr)) (hclos : closureFor scope C.env = pure cl)
    (hfv : ∀ x ∈ fv, C.env.kindOf x = some .cell ∧ (relabel scope C.env).names.lookup x = some .cell ∧ cl.lookup x = C.env.cells.lookup x ∧ ∃ d, m x = some (.val d))
    (hcl : ∀ x c, cl.lookup x = some c → C.env.cells.lookup x = some c)
    (h : itW W C tgt iter (fun xs δ' => xs.length ≤ sizeLine ∧ ∀ L, compW W (cc C scope cl L) tgt ifs elt (fun ds δ'' => K (.list ds) δ'') xs [] (fvMap fv m) δ') m δ)
    (hcell : (scope.names.all fun y => y.2 != .cell) = true := by rfl) (hkind : scope.kind = .function := by rfl)
    (hnames : (scope.names.all fun x => x.2 != .local || decide (scope.names.lookup x.1 = some .local)) = true := by rfl)
    (hs : ∀ x, foldedSetIterable iter C.env x = pure x := by intro _; rfl) : evW W C (.ListComp elt [⟨tgt, iter, ifs, 0⟩] scope pos) K m δ := fun E s H R => by
  rw [eval_ListComp]
  refine wpAny_comprehension_free (use := none) rfl hs hclos hkind (fun x hx hl => ?_) (comp_core R (fun y hy => ?_) hkind hfv hcl h ?_ (RR := fun acc L => compPost (model W.prog W.w) C.A E none (EvP W H s K) acc L))
  · have := List.all_eq_true.mp hnames x hx
    simpa [hl] using this
  · have := List.all_eq_true.mp hcell y hy
    simpa using this
  · intro dd L s' δ' ds mm hL _ _ hns KX GG r k
    refine ⟨mm, hns, fun h' hs' => ?_⟩
    obtain ⟨a, b, c⟩ := comp_end R.gs hL KX GG r hs'
    exact ⟨_, δ', a, b, c, k⟩

variable {P : Fl → Map → W.Δ → Prop}
theorem ex_assign_comp {y : Str} {py : Pos} {spos : Pos} {elt tgt iter : Expr} {ifs : List Expr} {scope : Scope} {pos : Pos} (fv : List Str) (cl : List (Str × Addr)) (hclos : closureFor scope C.env = pure cl)
    (hsw : swapsWith (.ListComp elt [⟨tgt, iter, ifs, 0⟩] scope pos) (some (.Name y py)) spos.line C.env = pure true) (hy : Sto C y)
    (hfv : ∀ x ∈ fv, C.env.kindOf x = some .cell ∧ (relabel scope C.env).names.lookup x = some .cell ∧ cl.lookup x = C.env.cells.lookup x ∧ ∃ d, m x = some (.val d))
    (hcl : ∀ x c, cl.lookup x = some c → C.env.cells.lookup x = some c)
    (h : itW W C tgt iter (fun xs δ' => xs.length ≤ sizeLine ∧ ∀ L, compW W (cc C scope cl L) tgt ifs elt (fun ds δ'' => P .next (upd m y (.val (.list ds))) δ'') xs [] (fvMap fv m) δ') m δ)
    (hcell : (scope.names.all fun y => y.2 != .cell) = true := by rfl) (hkind : scope.kind = .function := by rfl)
    (hnames : (scope.names.all fun x => x.2 != .local || decide (scope.names.lookup x.1 = some .local)) = true := by rfl)
    (hs : ∀ x, foldedSetIterable iter C.env x = pure x := by intro _; rfl) : exW W C (.Assign [.Name y py] (.ListComp elt [⟨tgt, iter, ifs, 0⟩] scope pos) spos) P m δ := fun E s H R => by
  rw [exec_Assign_Name_used _ _ _ _ hsw]
  refine wpAny_bind (wpAny_standAt (wpAny_bind ?_))
  show wpAny _ C.A (do let _ ← comprehension (.ListComp elt [⟨tgt, iter, ifs, 0⟩] scope pos) scope C.env _ (newList []) false (eval iter C.env) (some (assign (.Name y py) C.env))) _ _ s
  refine wpAny_bind (wpAny_mono (wpAny_comprehension_free (use := some (assign (.Name y py) C.env)) (Q := fun _ s' => StP W C m H s P .next s') rfl hs hclos hkind (fun x hx hl => ?_)
    (comp_core R (fun y hy => ?_) hkind hfv hcl h ?_ (RR := fun acc L => compPost (model W.prog W.w) C.A E (some (assign (.Name y py) C.env)) (fun _ s' => StP W C m H s P .next s') acc L)))
    (fun _ s' hq => wpAny_pure (wpAny_pure hq)) fun _ _ e => e)
  · have := List.all_eq_true.mp hnames x hx
    simpa [hl] using this
  · have := List.all_eq_true.mp hcell y hy
    simpa using this
  · intro dd L s' δ' ds mm hL _ exL hns KX GG r k
    have hw : ∀ b ∈ [L], s.heap.get? b = none ∧ ∃ o, s'.heap.get? b = some o := fun b hb => by rw [List.mem_singleton.mp hb]; exact ⟨hL, exL⟩
    obtain ⟨R1, F1⟩ := R.hideX KX GG hw
    show wpAny _ C.A (assign (.Name y py) C.env (.ref dd)) _ _ _
    refine wpAny_assign_Name (store_gen R1 hy (e := .val (.list ds)) r (fun a d e => nomatch e) fun s2 l2 R2 k2 => ?_)
    have LR : L ≠ C.env.locals ∧ L ∉ C.cw ∧ L ∉ W.da ∧ ¬ Md W C (upd m y (.val (.list ds))) L := by
      have nH : L ∉ H := fun q => by obtain ⟨o, e⟩ := R.gs.hex L q; rw [hL] at e; cases e
      exact ⟨fun q => nH (q ▸ R.lh), fun q => nH (R.cw L q).1, fun q => nH (R.gs.dh L q), fun q => nH (R.md (md_upd_val q))⟩
    have hns2 : s2.heap.Ns L mm := hns.at' fun o e => k2 L o LR.1 LR.2.1 e
    refine ⟨mm, hns2, fun h3 hs3 => ?_⟩
    have off3 : ∀ b o, b ∉ [L] → s2.heap.get? b = some o → h3.get? b = some o := fun b o hb e => hs3.extBut b o (by simpa using hb) e
    have R3 := R2.dropOff (s' := { s2 with heap := h3 }) .refl off3 (wr := [L]) fun b hb => by
      rw [List.mem_singleton.mp hb]
      refine ⟨by simp, LR.2.2.2, ?_⟩
      rintro v ⟨o', e', hd'⟩
      obtain ⟨o, es, ep, e, dd, _⟩ := hns2
      rw [e] at e'; cases e'; rw [dd] at hd'; cases hd'
    refine ⟨_, _, δ', ⟨KX.1.trans l2, fun b o e n => ?_, fun b o e n q => ?_, fun b o e n => .inl ?_⟩, R3, k⟩
    · have hbL : b ≠ L := fun q => by rw [q, hL] at e; cases e
      refine ⟨off3 b o (by simpa using hbL) (k2 b o (fun q => n (.inl q)) (fun q => n (.inr (.inl q))) (KX.2 b o e fun q => n (.inr (.inr (.inl q))))), fun q => n (md_upd_val q)⟩
    · have hbL : b ≠ L := fun q => by rw [q, hL] at e; cases e
      simp only [List.mem_filter, List.cons_append, List.nil_append, List.mem_cons] at q
      rcases q.1 with q | q
      · exact hbL q
      · exact n q
    · have hbL : b ≠ L := fun q => by rw [q, hL] at e; cases e
      simp only [List.mem_filter, List.cons_append, List.nil_append, List.mem_cons, List.not_mem_nil, or_false, decide_eq_true_eq]
      exact ⟨.inr n, hbL⟩


theorem ex_assign_comp_raw {y : Str} {py : Pos} {spos : Pos} {elt tgt iter : Expr} {ifs : List Expr} {scope : Scope} {pos : Pos} {Kc : List D → W.Δ → Prop} {E : Value → Shared → Prop} {s : Shared} {H : List Addr} {Q : Flow → Shared → Prop} (R : Rel W C H m δ s) (fv : List Str) (cl : List (Str × Addr)) (hclos : closureFor scope C.env = pure cl)
    (hsw : swapsWith (.ListComp elt [⟨tgt, iter, ifs, 0⟩] scope pos) (some (.Name y py)) spos.line C.env = pure true) (hy : C.env.kindOf y = some .local)
    (hfv : ∀ x ∈ fv, C.env.kindOf x = some .cell ∧ (relabel scope C.env).names.lookup x = some .cell ∧ cl.lookup x = C.env.cells.lookup x ∧ ∃ d, m x = some (.val d))
    (hcl : ∀ x c, cl.lookup x = some c → C.env.cells.lookup x = some c)
    (h : itW W C tgt iter (fun xs δ' => xs.length ≤ sizeLine ∧ ∀ L, compW W (cc C scope cl L) tgt ifs elt (fun ds δ'' => Kc ds δ'') xs [] (fvMap fv m) δ') m δ)
    (hQ : ∀ s' H' δ' dd ds mm, Rel W C H' (upd m y (.val (.list ds))) δ' s' → Fm W C m H s (upd m y (.val (.list ds))) H' s' → s.heap.get? dd = none → s'.heap.Ns C.env.locals mm → mm y = some (.ref dd) → Kc ds δ' → Q .next s')
    (hcell : (scope.names.all fun y => y.2 != .cell) = true := by rfl) (hkind : scope.kind = .function := by rfl)
    (hnames : (scope.names.all fun x => x.2 != .local || decide (scope.names.lookup x.1 = some .local)) = true := by rfl)
    (hs : ∀ x, foldedSetIterable iter C.env x = pure x := by intro _; rfl) : wpAny (model W.prog W.w) C.A (exec (.Assign [.Name y py] (.ListComp elt [⟨tgt, iter, ifs, 0⟩] scope pos) spos) C.env) Q E s := by
  rw [exec_Assign_Name_used _ _ _ _ hsw]
  refine wpAny_bind (wpAny_standAt (wpAny_bind ?_))
  show wpAny _ C.A (do let _ ← comprehension (.ListComp elt [⟨tgt, iter, ifs, 0⟩] scope pos) scope C.env _ (newList []) false (eval iter C.env) (some (assign (.Name y py) C.env))) _ _ s
  refine wpAny_bind (wpAny_mono (wpAny_comprehension_free (use := some (assign (.Name y py) C.env)) (Q := fun _ s' => Q .next s') rfl hs hclos hkind (fun x hx hl => ?_)
    (comp_core R (fun y hy => ?_) hkind hfv hcl h ?_ (RR := fun acc L => compPost (model W.prog W.w) C.A E (some (assign (.Name y py) C.env)) (fun _ s' => Q .next s') acc L)))
    (fun _ s' hq => wpAny_pure (wpAny_pure hq)) fun _ _ e => e)
  · have := List.all_eq_true.mp hnames x hx
    simpa [hl] using this
  · have := List.all_eq_true.mp hcell y hy
    simpa using this
  · intro dd L s' δ' ds mm hL hdd exL hns KX GG r k
    have hw : ∀ b ∈ [L], s.heap.get? b = none ∧ ∃ o, s'.heap.get? b = some o := fun b hb => by rw [List.mem_singleton.mp hb]; exact ⟨hL, exL⟩
    obtain ⟨R1, F1⟩ := R.hideX KX GG hw
    show wpAny _ C.A (assign (.Name y py) C.env (.ref dd)) _ _ _
    obtain ⟨mm1, hn1, hm1⟩ := R1.loc
    refine wpAny_assign_Name (wpAny_storeName_local hy hn1 (fun h2 hn2 hs2 => ?_) (by rw [R1.fn]; rfl))
    obtain ⟨R2, kk⟩ := R1.setLocal (tk := s'.toks + 1) (e := .val (.list ds)) hy hm1 hn2 hs2 r (fun a d e => nomatch e)
    obtain ⟨s2, hs2e⟩ : ∃ s2 : Shared, s2 = { s' with heap := h2, toks := s'.toks + 1 } := ⟨_, rfl⟩
    have l2 : Like s' s2 := by rw [hs2e]; exact .refl
    have k2 : ∀ b o, b ≠ C.env.locals → b ∉ C.cw → s'.heap.get? b = some o → s2.heap.get? b = some o := fun b o n _ e => by rw [hs2e]; exact kk b o n e
    rw [← hs2e] at R2
    have hn2' : s2.heap.Ns C.env.locals (fun z => if z = y then some (.ref dd) else mm1 z) := by rw [hs2e]; exact hn2
    rw [← hs2e]
    have LR : L ≠ C.env.locals ∧ L ∉ C.cw ∧ L ∉ W.da ∧ ¬ Md W C (upd m y (.val (.list ds))) L := by
      have nH : L ∉ H := fun q => by obtain ⟨o, e⟩ := R.gs.hex L q; rw [hL] at e; cases e
      exact ⟨fun q => nH (q ▸ R.lh), fun q => nH (R.cw L q).1, fun q => nH (R.gs.dh L q), fun q => nH (R.md (md_upd_val q))⟩
    have hns2 : s2.heap.Ns L mm := hns.at' fun o e => k2 L o LR.1 LR.2.1 e
    refine ⟨mm, hns2, fun h3 hs3 => ?_⟩
    have off3 : ∀ b o, b ∉ [L] → s2.heap.get? b = some o → h3.get? b = some o := fun b o hb e => hs3.extBut b o (by simpa using hb) e
    have R3 := R2.dropOff (s' := { s2 with heap := h3 }) .refl off3 (wr := [L]) fun b hb => by
      rw [List.mem_singleton.mp hb]
      refine ⟨by simp, LR.2.2.2, ?_⟩
      rintro v ⟨o', e', hd'⟩
      obtain ⟨o, es, ep, e, dd, _⟩ := hns2
      rw [e] at e'; cases e'; rw [dd] at hd'; cases hd'
    refine hQ _ _ δ' dd ds (fun z => if z = y then some (.ref dd) else mm1 z) R3 ⟨KX.1.trans l2, fun b o e n => ?_, fun b o e n q => ?_, fun b o e n => .inl ?_⟩ hdd (hn2'.at' fun o e => off3 _ o (by simpa using Ne.symm LR.1) e) (by simp) k
    · have hbL : b ≠ L := fun q => by rw [q, hL] at e; cases e
      refine ⟨off3 b o (by simpa using hbL) (k2 b o (fun q => n (.inl q)) (fun q => n (.inr (.inl q))) (KX.2 b o e fun q => n (.inr (.inr (.inl q))))), fun q => n (md_upd_val q)⟩
    · have hbL : b ≠ L := fun q => by rw [q, hL] at e; cases e
      simp only [List.mem_filter, List.cons_append, List.nil_append, List.mem_cons] at q
      rcases q.1 with q | q
      · exact hbL q
      · exact n q
    · have hbL : b ≠ L := fun q => by rw [q, hL] at e; cases e
      simp only [List.mem_filter, List.cons_append, List.nil_append, List.mem_cons, List.not_mem_nil, or_false, decide_eq_true_eq]
      exact ⟨.inr n, hbL⟩

end
/-! part L12 -/

def argM : List Str → List D → Map → Map
  | p :: ps, d :: ds, m => argM ps ds (upd m p (.val d))
  | _, _, m => m
def flD : Fl → D
  | .ret d => d
  | .next => .none
/-- the frame of a call -/
abbrev fcOf (A : Around) (fd : FuncData) (L fa : Addr) (n : Nat) : FC := ⟨A.deeper (callEnvC fd L fa), callEnvC fd L fa, (callEnvC fd L fa).cells.map (·.2), n⟩

section
variable {W : Wd}

theorem argM_ok {H : List Addr} {h : Heap} {kindOf : Str → Option NameKind} : ∀ (ps : List Str) (vs : List Value) (ds : List D) (mm : Str → Option Value) (m : Map), (∀ p ∈ ps, kindOf p = some .local) → RepAll W H h vs ds →
    (∀ x e, m x = some e → ∃ v, kindOf x = some .local ∧ mm x = some v ∧ EntIs W H h e v ∧ ∃ d, e = .val d) →
    ∀ x e, argM ps ds m x = some e → ∃ v, kindOf x = some .local ∧ bindL kindOf (ps.zip vs) mm x = some v ∧ EntIs W H h e v ∧ ∃ d, e = .val d
  | [], _, _, mm, m, _, _, hm, x, e, hx => hm x e hx
  | p :: ps, _, _, mm, m, _, .nil, hm, x, e, hx => hm x e hx
  | p :: ps, _, _, mm, m, hk, .cons (v := v) (d := d) (vs := vs) (ds := ds) r1 r2, hm, x, e, hx => by
    simp only [argM] at hx
    have hp := hk p List.mem_cons_self
    simp only [List.zip_cons_cons, bindL, if_pos hp]
    refine argM_ok ps vs ds _ _ (fun q hq => hk q (List.mem_cons_of_mem _ hq)) r2 (fun y e' hy => ?_) x e hx
    by_cases hyp : y = p
    · subst hyp
      simp only [upd, if_true, Option.some.injEq] at hy
      subst hy
      exact ⟨v, hp, by simp, r1, d, rfl⟩
    · simp only [upd, if_neg hyp] at hy
      obtain ⟨v', a, b, c⟩ := hm y e' hy
      exact ⟨v', a, by simp only [if_neg hyp]; exact b, c⟩

theorem call_body {fa : Addr} {n : Nat} {ds : List D} {K : D → W.Δ → Prop} {δ : W.Δ} {o : Obj} {fd : FuncData} {body : List Stmt} (ps : List Str) (ho : W.hb.get? fa = some o) (hd : o.data = .func fd) (hcd : W.hb.CodeRec fd.code fd.qualname)
    (hbody : fd.body = .stmts body) (hlen : ps.length = ds.length) (hbind : ∀ vs : List Value, vs.length = ds.length → bindArgs fd ⟨vs, []⟩ = pure (ps.zip vs)) (hclo : fd.closure = [])
    (hps : (ps.all fun p => decide (fd.scope.names.lookup p = some .local)) = true) (hnd : ((cellsFrom 0 fd.scope.names []).map (·.1)).Nodup)
    (h : ∀ A L, stW W (fcOf A fd L fa n) body (fun fl _ δ' => K (flD fl) δ') (argM ps ds fun _ => none) δ)
    (hg : fd.globals = mainGlobals := by rfl) (hbl : fd.builtins = builtinsNs := by rfl)
    (hco : fd.scope.isCoroutine = false := by rfl) (hgen : fd.scope.isGenerator = false := by rfl) (hk : fd.scope.kind = .function := by rfl) : CallOK W fa (n + 1) ds K δ := by
  intro A E s H vs hh hroom hunits hgd G r
  have hp : ∀ p ∈ ps, fd.scope.names.lookup p = some .local := fun p hp => by simpa using List.all_eq_true.mp hps p hp
  have hvl : vs.length = ds.length := r.length
  have lim : s.heap.NoLimit := W.lim.keeps fun b o e => (G.base b o e).1
  have hcd' : s.heap.CodeRec fd.code fd.qualname := hcd.keeps fun b o e => (G.base b o e).1
  refine wpAny_call (codeAny_call_cells (by omega) (G.base _ _ ho).1 hd lim hcd' hbody (hbind vs hvl) hclo (fun x hx => .inl (hp _ ?_)) (fun s1 x => ?_) hco hgen hk)
  · exact (List.of_mem_zip hx).1
  generalize hL : s.heap.objs.size = L at x ⊢
  have done := x.toInCall.done
  obtain ⟨h1, tk, hs1, keep⟩ := done
  have hcells : (callEnvC fd L fa).cells = cellsFrom (L + 1) fd.scope.names [] := rfl
  have hloc : (callEnvC fd L fa).locals = L := rfl
  have mem : ∀ n c, (n, c) ∈ (callEnvC fd L fa).cells → (callEnvC fd L fa).cells.lookup n = some c := fun n c hm => by
    rw [hcells] at hm ⊢
    exact lookup_of_mem_nodup (cellsFrom_names fd.scope.names 0 (L + 1) [] [] rfl ▸ hnd) hm
  have hw : ∀ b ∈ (L :: (callEnvC fd L fa).cells.map (·.2)), s.heap.get? b = none ∧ ∃ o, s1.heap.get? b = some o := fun b hb => by
    rcases List.mem_cons.mp hb with rfl | hb
    · obtain ⟨o, _, _, e, _⟩ := x.toInCall.ns
      refine ⟨?_, o, hloc ▸ e⟩
      rw [← hL]; exact fresh_none
    · obtain ⟨⟨nm, c⟩, hm, rfl⟩ := List.mem_map.mp hb
      have := x.above nm c hm
      rw [hloc] at this
      obtain ⟨o, e, _⟩ := x.cell nm c (mem nm c hm)
      refine ⟨?_, o, e⟩
      cases e' : s.heap.get? c with
      | none => rfl
      | some o' => exact absurd (hL ▸ Heap.lt_size e') (Nat.lt_asymm this)
  have KA : KeepA s s1 := ⟨by rw [hs1]; exact ⟨rfl, rfl, rfl⟩, fun b o e => by rw [hs1]; exact keep b o e⟩
  have sub : ∀ b, b ∈ H → b ∈ (L :: (callEnvC fd L fa).cells.map (·.2)) ++ H := fun b hb => List.mem_append.mpr (.inr hb)
  have nH : ∀ b ∈ (L :: (callEnvC fd L fa).cells.map (·.2)), b ∉ H := fun b hb q => by obtain ⟨o, e⟩ := G.hex b q; rw [(hw b hb).1] at e; cases e
  have tr : Trans H s.heap ((L :: (callEnvC fd L fa).cells.map (·.2)) ++ H) s1.heap := fun b o e n => ⟨KA.2 b o e, fun q => by
    rcases List.mem_append.mp q with q | q
    · rw [(hw b q).1] at e; cases e
    · exact n q⟩
  have G1 := G.keep KA
  have R1 : Rel W (fcOf A fd L fa n) ((L :: (callEnvC fd L fa).cells.map (·.2)) ++ H) (argM ps ds fun _ => none) δ s1 := by
    refine ⟨⟨fun b o e => ⟨(G1.base b o e).1, (tr b o (G.base b o e).1 (G.base b o e).2).2⟩, G1.deck, fun a ha => sub a (G.dh a ha), fun a ha => ?_⟩, hk, hg, hbl, hh, ?_, ?_, hgd, ⟨_, x.toInCall.ns, fun y e hy => ?_⟩, by show L ∈ _; simp, fun q => nH L (by simp) (G.dh L q), fun c hc => ⟨?_, fun q => ?_, ?_⟩, fun y c hky hc _ => ⟨_, x.cell y c hc⟩, fun y z c h1 h2 => name_of_addr x.apart (mem_of_lookup h1) (mem_of_lookup h2), fun y a d hy => ?_, fun y z a d e hy _ => ?_⟩
    · rcases List.mem_append.mp ha with q | q
      · exact (hw a q).2
      · exact G1.hex a q
    · show A.depth + 1 + n < recursionLimit; omega
    · show A.units + 3 + 8 * n + 80 < cLine; omega
    · obtain ⟨v, a, b, c, _⟩ := argM_ok (kindOf := (callEnvC fd L fa).kindOf) ps vs ds (fun _ => none) (fun _ => none) hp r (fun _ _ h => by cases h) y e hy
      exact ⟨v, .inl ⟨a, b⟩, c.mono tr fun a' d' ea => by obtain ⟨d, q⟩ := ‹∃ d, e = .val d›; rw [q] at ea; cases ea⟩
    · exact List.mem_append.mpr (.inl (List.mem_cons_of_mem _ hc))
    · exact nH c (List.mem_cons_of_mem _ hc) (G.dh c q)
    · obtain ⟨⟨nm, c'⟩, hm, rfl⟩ := List.mem_map.mp hc
      exact Nat.ne_of_gt (x.above nm c' hm)
    · obtain ⟨v, _, _, _, d', q⟩ := argM_ok (kindOf := (callEnvC fd L fa).kindOf) ps vs ds (fun _ => none) (fun _ => none) hp r (fun _ _ h => by cases h) y _ hy
      cases q
    · obtain ⟨v, _, _, _, d', q⟩ := argM_ok (kindOf := (callEnvC fd L fa).kindOf) ps vs ds (fun _ => none) (fun _ => none) hp r (fun _ _ h => by cases h) y _ hy
      cases q
  have nomd : ∀ b o, s.heap.get? b = some o → b ∉ W.da → ¬ Md W (fcOf A fd L fa n) (argM ps ds fun _ => none) b := fun b o e hda => by
    rintro (q | q | q | ⟨y, d, q⟩)
    · exact absurd e (by rw [q]; show ¬ s.heap.get? L = some o; rw [(hw L (by simp)).1]; intro z; cases z)
    · rw [(hw b (List.mem_cons_of_mem _ q)).1] at e; cases e
    · exact hda q
    · obtain ⟨v, _, _, _, d', q'⟩ := argM_ok (kindOf := (callEnvC fd L fa).kindOf) ps vs ds (fun _ => none) (fun _ => none) hp r (fun _ _ h => by cases h) y _ q
      cases q'
  refine wpAny_mono (h A L _ s1 _ R1) ?_ fun _ _ e => e
  rintro f s2 ⟨H2, m2, δ2, F2, R2, h2⟩
  have hid : ∀ b, b ∈ H → b ∈ H2 := fun b hb => by
    obtain ⟨o, e⟩ := R1.gs.hex b (sub b hb)
    rcases F2.three b o e (sub b hb) with q | ⟨y, d, q⟩
    · exact q
    · obtain ⟨v, _, _, _, d', q'⟩ := argM_ok (kindOf := (callEnvC fd L fa).kindOf) ps vs ds (fun _ => none) (fun _ => none) hp r (fun _ _ h => by cases h) y _ q
      cases q'
  have KX : KeepX W s s2 := ⟨KA.1.trans F2.like, fun b o e n => (F2.one b o (KA.2 b o e) (nomd b o e n)).1⟩
  have GG : GS W H δ2 s2 := ⟨fun b o e => ⟨(R2.gs.base b o e).1, (G.base b o e).2⟩, R2.gs.deck, G.dh, fun b hb => by
    obtain ⟨o, e⟩ := G.hex b hb
    by_cases hm : b ∈ W.da
    · exact R2.gs.hex b (R2.gs.dh b hm)
    · exact ⟨o, KX.2 b o e hm⟩⟩
  have tr2 : Trans H2 s2.heap H s2.heap := fun b o e n => ⟨e, fun q => n (hid b q)⟩
  cases f with
  | next => exact ⟨.none, δ2, KX, GG, .none, h2⟩
  | ret v =>
    obtain ⟨d, rd, hd'⟩ := h2
    exact ⟨d, δ2, KX, GG, rd.mono tr2, hd'⟩
  | brk => exact h2.elim
  | cont => exact h2.elim
end
/-! part L13 -/
section
variable {W : Wd} {C : FC} {m : Map} {δ : W.Δ} {P : Fl → Map → W.Δ → Prop}

theorem own_rep {H : List Addr} {h : Heap} {a : Addr} {d : D} (x : EntIs W H h (.own a d) (.ref a)) : Rep W (H.filter (· ≠ a)) h (.ref a) d := by
  have tr : Trans H h (H.filter (· ≠ a)) h := fun b o e n => ⟨e, fun q => n (List.mem_filter.mp q).1⟩
  have na : a ∉ H.filter (· ≠ a) := fun q => by simp at q
  cases d with
  | list ds => obtain ⟨_, vs, l, r⟩ := x; exact .list na l (r.mono tr)
  | dict ds => obtain ⟨_, q, kvs, l, k, r⟩ := x; exact .dict na q l k (r.mono tr)
  | _ => exact x.elim

/-- a look at an owned list or dict -/
theorem te_in_own {l : Expr} {x : Str} {xp pos : Pos} {a : Addr} {d : D} {op : CmpOp} {K : Bool → W.Δ → Prop} (hx : m x = some (.own a d))
    (h : evW W C l (fun b δ' => op2W W C.A (compareOp op) b d (fun r => ∃ c, r = .bool c ∧ K c δ')) m δ)
    (hm : behindInMarks op (.Name x xp) = false := by with_unfolding_all rfl) (hd : (x == ("__debug__" : Str)) = false := by decide) : teW W C (.Compare l [op] [.Name x xp] pos) K m δ := fun E s H R => by
  refine wpAny_isTrue_Compare1 (wpAny_mono (h E s H R) ?_ fun _ _ e => e) hm
  rintro v s1 ⟨b, δ1, k1, G1, r1, h1⟩
  have R1 := R.keepX k1 G1
  refine own_ref R1 hx (fun en => ?_) hd
  have G1' : GS W (H.filter (· ≠ a)) δ1 s1 := (R1.freeze hx).1.gs
  refine wpAny_mono (h1 E s1 _ δ1 v (.ref a) R.hh R.u80 G1' (r1.mono fun b o e n => ⟨e, fun q => n (List.mem_filter.mp q).1⟩) (own_rep en)) ?_ fun _ _ e => e
  rintro r s2 ⟨_, k2, r2, c, rfl, h2⟩
  cases r2
  exact wpAny_truthy_bool ⟨δ1, k1.trans k2.x, G1.keep k2, h2⟩

theorem b_len {A : Around} {l : List D} {K : D → Prop} (hl : (l.length : Int) < 2 ^ 63) (h : K (.int l.length)) : BltOK W (.builtin "len") A [.list l] K := fun E s H δ vs _ _ _ G r => by
  obtain ⟨v, rfl, r1⟩ := reps_one r
  obtain ⟨a, vs, rfl, n, pl, q⟩ := rep_list r1
  exact call_len_list pl.isList (by simpa [q.length] using hl) (by rw [List.size_toArray, q.length]; exact ⟨_, .tok, .int _ _, h⟩)

theorem ev_len_own {x f : Str} {xp fp pos : Pos} {a : Addr} {l : List D} {K : D → W.Δ → Prop} (hx : m x = some (.own a (.list l))) (hg : W.mg f = none) (hf : W.mb f = some (.builtin "len")) (hl : (l.length : Int) < 2 ^ 63) (h : K (.int l.length) δ)
    (hk : C.env.kindOf f = some .globalImplicit := by rfl) (hd' : (f == ("__debug__" : Str)) = false := by decide) (hd : (x == ("__debug__" : Str)) = false := by decide) :
    evW W C (.Call (.Name f fp) [.Name x xp] [] pos) K m δ := fun E s H R => by
  refine Call_ (builtin_name R hk hg hf ?_ hd')
  rw [starEach_plain _ _ rfl, backTo_plain]
  refine callWith_builtin plain_args (evalArgs_all (spliced_cons (own_ref R hx (fun en => spliced_nil ?_) hd)))
  obtain ⟨_, vs, pl, q⟩ := en
  refine call_len_list pl.isList (by simpa [q.length] using hl) (by rw [List.size_toArray, q.length]; exact ⟨_, δ, KeepA.tok.x, R.gs.keep .tok, .int _ _, h⟩)

/-- while -/
theorem ex_while {t : Expr} {body : List Stmt} {pos : Pos} (I : Nat → Map → W.Δ → Prop) (h0 : ∃ n, I n m δ)
    (turn : ∀ n m δ, I n m δ → teW W C t (fun b δ₁ => if b = true then stW W C body (fun fl m2 δ2 => match fl with | .next => ∃ n', n' < n ∧ I n' m2 δ2 | .ret d => P (.ret d) m2 δ2) m δ₁ else P .next m δ₁) m δ) :
    exW W C (.While t body [] pos) P m δ := fun E s H R => by
  obtain ⟨n0, h0⟩ := h0
  refine wpAny_While (codeAny_whileLoop (fun n s' => ∃ H' m' δ', Fm W C m H s m' H' s' ∧ Rel W C H' m' δ' s' ∧ I n m' δ') ?_ n0 ⟨H, m, δ, .refl, R, h0⟩)
  rintro n s1 ⟨H1, m1, δ1, F1, R1, hI⟩
  refine wpAny_mono (turn n m1 δ1 hI _ s1 H1 R1) ?_ fun _ _ e => e
  rintro b s2 ⟨δ2, k2, G2, h2⟩
  have R2 := R1.keepX k2 G2
  have F2 := F1.trans R R1 (Fm.ofX k2)
  cases b with
  | false =>
    simp only [Bool.false_eq_true, if_false] at h2 ⊢
    exact wpAny_execs_nil ⟨H1, m1, δ2, F2, R2, h2⟩
  | true =>
    simp only [if_true] at h2 ⊢
    refine wpAny_mono (h2 _ s2 H1 R2) ?_ fun _ _ e => e
    rintro f s3 ⟨H3, m3, δ3, F3, R3, h3⟩
    cases f with
    | next => obtain ⟨n', hn, hI'⟩ := h3; exact ⟨n', hn, H3, m3, δ3, F2.trans R R2 F3, R3, hI'⟩
    | ret v => exact ⟨H3, m3, δ3, F2.trans R R2 F3, R3, h3⟩
    | brk => exact h3.elim
    | cont => exact h3.elim

theorem unpackItems_n {M : Program} {w : World} {A : Around} {E : Value → Shared → Prop} {s : Shared} {t : Addr} {items : Array Value} {n : Nat} {Q : List Value → Shared → Prop} (hh : A.handled = none) (ht : IsTup s.heap t items) (hn : n = items.size)
    (hQ : ∀ h', Heap.ExtBut s.heap.objs.size s.heap h' → Q items.toList { s with heap := h' }) : wpAny (model M w) A (unpackItems (.ref t) n none) Q E s := by
  subst hn
  exact PyProof.Rows.unpackItems_tuple hh ht hQ

/-- unpacking -/
theorem ex_unpack {ts : List Expr} {k : Nat} {tp pos : Pos} {value : Expr} (h : evW W C value (fun d δ' => asW W C (.Tuple ts k tp) d (fun m' => P .next m' δ') m) m δ)
    (hs : swapsWithSole [.Tuple ts k tp] value pos.line C.env = pure false := by rfl) (hw : swappedStores [.Tuple ts k tp] value C.env = pure none := by rfl) : exW W C (.Assign [.Tuple ts k tp] value pos) P m δ := fun E s H R => by
  refine Assign_Tuple (wpAny_mono (h E s H R) ?_ fun _ _ e => e) hs hw
  rintro v s1 ⟨d, δ1, k1, G1, r1, h1⟩
  have R1 := R.keepX k1 G1
  refine wpAny_mono (h1 E s1 H δ1 v R1 r1) ?_ fun _ _ e => e
  rintro _ s2 ⟨m2, F2, R2, h2⟩
  exact ⟨H, m2, δ1, (Fm.ofX k1).trans R R1 F2, R2, h2⟩

theorem ex_swap2 {x y : Str} {ts : List Expr} {k : Nat} {tp pos : Pos} {value : Expr} (h : evW W C value (fun d δ' => ∃ a b, d = .tup [a, b] ∧ P .next (upd (upd m y (.val b)) x (.val a)) δ') m δ) (hx : Sto C x) (hy : Sto C y)
    (hs : swapsWithSole [.Tuple ts k tp] value pos.line C.env = pure false := by rfl) (hw : swappedStores [.Tuple ts k tp] value C.env = pure (some [x, y]) := by rfl) : exW W C (.Assign [.Tuple ts k tp] value pos) P m δ := fun E s H R => by
  refine Assign_Tuple_swapped (wpAny_mono (h E s H R) ?_ fun _ _ e => e) hs hw
  rintro v s1 ⟨d, δ1, k1, G1, r1, a, b, rfl, h1⟩
  have R1 := R.keepX k1 G1
  cases r1 with
  | tup n ht q =>
    rename_i t vs
    cases q with
    | cons ra q =>
      cases q with
      | cons rb q =>
        cases q
        rename_i va vb
        refine unpackItems_n R.hh ht rfl fun h' he => ?_
        have k2 : KeepA s1 { s1 with heap := h' } := keepA_ext (n := s1.toks) he
        have R2 := R1.keep k2
        show wpAny _ _ (assignInOrder [fun v => bindName C.env y v, fun v => bindName C.env x v] [vb, va]) _ _ _
        refine assignInOrder_cons (wpAny_bindName (store_val R2 hy (rb.mono k2.tr) fun s3 R3 F3 => assignInOrder_cons (wpAny_bindName (store_val R3 hx ((ra.mono k2.tr).mono (F3.tr R2)) fun s4 R4 F4 => assignInOrder_nil ?_))))
        exact ⟨H, _, δ1, ((Fm.ofX k1).trans R R1 (.ofX k2.x)).trans R R2 (F3.trans R2 R3 F4), R4, h1⟩

/-- `x, y = ([], i)`: x is owned -/
theorem ex_swap_own {x y : Str} {ts : List Expr} {k k2 k3 : Nat} {tp lp ip vp pos : Pos} {i : Int} (hxy : x ≠ y) (h : ∀ a, P .next (upd (upd m y (.val (.int i))) x (.own a (.list []))) δ) (hx : Sto C x) (hy : Sto C y)
    (hs : swapsWithSole [.Tuple ts k tp] (.Tuple [.List [] lp, .Constant (.int i) k2 ip] k3 vp) pos.line C.env = pure false := by rfl)
    (hw : swappedStores [.Tuple ts k tp] (.Tuple [.List [] lp, .Constant (.int i) k2 ip] k3 vp) C.env = pure (some [x, y]) := by rfl) : exW W C (.Assign [.Tuple ts k tp] (.Tuple [.List [] lp, .Constant (.int i) k2 ip] k3 vp) pos) P m δ := fun E s H R => by
  refine Assign_Tuple_swapped (Tuple_ ?_) hs hw
  rw [starEach_plain _ _ rfl, backTo_plain]
  refine spliced_cons (List_ (args_nil (wpAny_newList ?_ (by simp))))
  refine spliced_cons (wpAny_Constant_int (spliced_nil (wpAny_newTuple ?_)))
  have hsz : (s.heap.push { cls := .type "list", data := .seq ([] : List Value).toArray }).objs.size = s.heap.objs.size + 1 := Heap.size_push ..
  generalize hh1 : s.heap.push { cls := .type "list", data := .seq ([] : List Value).toArray } = h1 at hsz
  dsimp only
  have hL1 : h1.get? s.heap.objs.size = some { cls := .type "list", data := .seq ([] : List Value).toArray } := by rw [← hh1]; exact Heap.get?_push_size _ rfl
  have k01 : ∀ b o, s.heap.get? b = some o → h1.get? b = some o := fun b o e => by rw [← hh1]; exact Heap.get?_push_of_some _ e
  generalize hh2 : h1.push { cls := .type "tuple", data := .seq [Value.ref s.heap.objs.size, .int i s.toks].toArray } = h2
  have hT : h2.get? h1.objs.size = some { cls := .type "tuple", data := .seq [Value.ref s.heap.objs.size, .int i s.toks].toArray } := by rw [← hh2]; exact Heap.get?_push_size _ rfl
  have k12 : ∀ b o, h1.get? b = some o → h2.get? b = some o := fun b o e => by rw [← hh2]; exact Heap.get?_push_of_some _ e
  have KA : KeepA s { s with heap := h2, toks := s.toks + 1 } := ⟨.refl, fun b o e => k12 b o (k01 b o e)⟩
  have hw' : ∀ b ∈ [s.heap.objs.size], s.heap.get? b = none ∧ ∃ o, ({ s with heap := h2, toks := s.toks + 1 } : Shared).heap.get? b = some o := fun b hb => by
    rw [List.mem_singleton.mp hb]; exact ⟨fresh_none, _, k12 _ _ hL1⟩
  obtain ⟨R1, F1⟩ := R.hideX KA.x (R.gs.keep KA) hw'
  have tT : IsTup ({ s with heap := h2, toks := s.toks + 1 } : Shared).heap h1.objs.size [Value.ref s.heap.objs.size, .int i s.toks].toArray := ⟨_, hT, rfl, _, rfl⟩
  refine unpackItems_n R.hh tT rfl fun h' he => ?_
  have k2 : KeepA { s with heap := h2, toks := s.toks + 1 } { s with heap := h', toks := s.toks + 1 } := ⟨.refl, fun b o x => he b o (Nat.ne_of_lt (Heap.lt_size x)) x⟩
  have R2 := R1.keep k2
  show wpAny _ _ (assignInOrder [fun v => bindName C.env y v, fun v => bindName C.env x v] [.int i s.toks, .ref s.heap.objs.size]) _ _ _
  refine assignInOrder_cons (wpAny_bindName (store_val R2 hy (.int _ _) fun s3 R3 F3 => assignInOrder_cons (wpAny_bindName ?_)))
  have F13 : Fm W C m H s (upd m y (.val (.int i))) ([s.heap.objs.size] ++ H) s3 := F1.trans R R1 ((Fm.ofX k2.x).trans R1 R2 F3)
  have ne : ∀ a ∈ H, a ≠ s.heap.objs.size := fun a h => let ⟨_, e⟩ := R.gs.hex a h; Nat.ne_of_lt (Heap.lt_size e)
  have nMd : ¬ Md W C m s.heap.objs.size := fun q => ne _ (R.md q) rfl
  have pl3 : PlainL s3.heap s.heap.objs.size ([] : List Value).toArray := by
    refine ⟨_, _, (F3.one _ _ (k2.2 _ _ (k12 _ _ hL1)) fun q => nMd q).1, rfl, rfl, rfl⟩
  refine store_gen R3 hx (e := .own s.heap.objs.size (.list [])) ⟨rfl, [], pl3, .nil⟩ (fun a d' e => ?_) fun s' l R4 k4 => assignInOrder_nil ⟨_, _, δ, ⟨F13.like.trans l, fun b o e n => ?_, fun b o e n => F13.two b o e n, fun b o e n => F13.three b o e n⟩, R4, h _⟩
  · cases e
    refine ⟨by simp, fun q => ne _ (R.gs.dh _ q) rfl, fun q => ne _ R.lh q.symm, fun q => ne _ (R.cw _ q).1 rfl, fun z d' hz => ?_⟩
    by_cases hzy : z = y
    · subst hzy; simp [upd] at hz
    · simp only [upd, if_neg hzy] at hz
      exact absurd rfl (ne _ (R.own z _ d' hz).1)
  · obtain ⟨a1, a2⟩ := F13.one b o e n
    refine ⟨k4 b o (fun q => n (.inl q)) (fun q => n (.inr (.inl q))) a1, ?_⟩
    rintro (q | q | q | ⟨z, d', q⟩)
    · exact n (.inl q)
    · exact n (.inr (.inl q))
    · exact n (.inr (.inr (.inl q)))
    · by_cases hzx : z = x
      · subst hzx
        simp only [upd, if_true, Option.some.injEq, Ent.own.injEq] at q
        exact absurd (Heap.lt_size e) (by rw [← q.1]; exact Nat.lt_irrefl _)
      · simp only [upd, if_neg hzx] at q
        exact a2 (.inr (.inr (.inr ⟨z, d', by simpa [upd] using q⟩)))
end
/-! part L14 -/

def dints (l : List Int) : List D := l.map D.int
section
variable {W : Wd} {A : Around} {K : D → Prop} {H : List Addr} {h : Heap}

theorem rep_ints {ns : List Int} : ∀ {vs : List Value}, RepAll W H h vs (dints ns) → IntsAre vs ns := by
  induction ns with
  | nil => intro vs r; cases r; exact .nil
  | cons n ns ih =>
    intro vs r
    change RepAll W H h vs (.int n :: dints ns) at r
    cases r with
    | cons a b => obtain ⟨t, rfl⟩ := rep_int a; exact .cons n t (ih b)
theorem dints_rep : ∀ {vs : List Value} {ns : List Int}, IntsAre vs ns → RepAll W H h vs (dints ns)
  | _, _, .nil => .nil
  | _, _, .cons n t r => .cons (.int n t) (dints_rep r)

theorem blt1 {f : Value} {a : D} (h : ∀ (E : Value → Shared → Prop) (s : Shared) (H : List Addr) (δ : W.Δ) (v : Value), A.handled = Option.none → A.units + 80 < cLine → A.guards = some [] → GS W H δ s → Rep W H s.heap v a →
    wpAny (model W.prog W.w) A (call f [v]) (OpP W H s K) E s) : BltOK W f A [a] K := fun E s H δ vs x y z G r => by
  obtain ⟨v, rfl, r1⟩ := reps_one r
  exact h E s H δ v x y z G r1
theorem b_abs {i : Int} (h : K (.int (if i < 0 then -i else i))) : BltOK W (.builtin "abs") A [.int i] K := blt1 fun E s H δ v _ _ _ G r => by
  obtain ⟨t, rfl⟩ := rep_int r
  exact call_abs_int fun u tk => ⟨_, .tok, .int _ _, h⟩
theorem b_intb {b : Bool} (h : K (.int (if b then 1 else 0))) : BltOK W (.type "int") A [.bool b] K := blt1 fun E s H δ v _ _ _ G r => by
  cases r
  exact call_int_bool ⟨_, .tok, .int _ _, h⟩
theorem b_sum {l : List Int} (h : K (.int l.sum)) : BltOK W (.builtin "sum") A [.list (dints l)] K := blt1 fun E s H δ v hh _ _ G r => by
      obtain ⟨a, vs, rfl, n, pl, q⟩ := rep_list r
      have hi := rep_ints q
      obtain ⟨xs, hxs⟩ := hi.allInts.items
      have hl := pl.isList
      rw [hxs] at hl
      refine sum_intListG hh hl fun h' tk t' hk => ?_
      have e : preSum (numAt xs) xs.size = l.sum := by
        rw [preSum_eq, List.take_of_length_le (by simp)]
        have := nums_intItems xs
        rw [← hxs, show vs.toArray.toList = vs from rfl, hi.numsOf] at this
        rw [← this]
      rw [e]
      exact ⟨_, ⟨.refl, hk⟩, .int _ _, h⟩


theorem collect_src {prog : Program} {w : World} {A : Around} {E : Value → Shared → Prop} {s : Shared} {T : String} {r d : Addr} {n : Nat} {Pz : Nat → Value → Prop} {OK : Heap → Prop} {Q : List Value → Shared → Prop} (Kd : KdlSrc prog w T r d n Pz OK) (hh : A.handled = none) (hok : OK s.heap) (hn : n ≤ sizeLine)
    (h : ∀ h' tk (acc' : Array Value), (∀ b o, s.heap.get? b = some o → h'.get? b = some o) → ItemsOf Pz acc' n → Q acc'.toList { s with heap := h', toks := tk }) : wpAny (model prog w) A (collect (.ref r)) Q E s := by
  have hlt := Kd.there _ hok
  unfold collect
  refine wpAny_bind (wpAny_runValue (codeAny_builtin entry_proto_collect' ?_))
  rw [Around.under_plainId PySem.F.plain_proto_collect _]
  show wpAny _ A.in1 (newList [] >>= fun l => again (.builtin "list.__iadd__" ⟨[l, .ref r], []⟩)) _ _ s
  refine wpAny_bind (wpAny_newObj_type ?_)
  refine wpAny_pure ⟨plainId_quiet PySem.F.plain_list_iadd _, codeAny_builtin entry_list_iadd' ?_⟩
  rw [Around.under_plainId PySem.F.plain_list_iadd _]
  have hS₁ : (s.heap.push { cls := .type "list", data := .seq ([] : List Value).toArray }).get? s.heap.objs.size = some { cls := .type "list", data := .seq #[] } := Heap.get?_push_size _ rfl
  show wpAny _ A.in1 (Builtin.List.listExtendWith (.ref s.heap.objs.size) (.ref r) (.ref s.heap.objs.size)) _ _ _
  have key := kdl_extend (A := A) (s := { s with heap := s.heap.push { cls := .type "list", data := .seq ([] : List Value).toArray } })
    (R := fun (q : Result) (s' : Shared) => ∃ (h' : Heap) (tk : Nat) (acc' : Array Value) (c' : Nat), q = .ok (.ret (.ref s.heap.objs.size)) ∧ s' = { s with heap := h', toks := tk } ∧
      (∀ b o, s.heap.get? b = some o → h'.get? b = some o) ∧ h'.get? s.heap.objs.size = some { cls := .type "list", dict := none, data := .seq acc' c', slots := #[] } ∧ ItemsOf Pz acc' n) Kd
    hh (Kd.keep _ _ hok fun b _ o e => Heap.get?_push_of_some _ e) s.heap.objs.size (Nat.ne_of_gt hlt.1) (Nat.ne_of_gt hlt.2) (.ref s.heap.objs.size) 0 hS₁
    (fun h' tk acc' c' hk hS' hacc => ⟨h', tk, acc', c', rfl, rfl, fun b o e => hk b o (Nat.ne_of_lt (Heap.lt_size e)) (Heap.get?_push_of_some _ e), hS', hacc⟩) hn
  refine wpAny_mono key (fun fin s' x => ?_) fun e s' x => ?_
  · cases fin with
    | done f =>
      obtain ⟨h', tk, acc', c', e, rfl, hk, hS', hacc⟩ := x
      cases e
      show wpAny _ A (load s.heap.objs.size >>= _) _ _ _
      refine wpAny_bind (wpAny_load hS' ?_)
      exact wpAny_pure (h h' tk acc' hk hacc)
    | again c =>
      refine ⟨x.1, codeAny_mono x.2 fun q s' z => ?_⟩
      obtain ⟨h', tk, acc', c', e, rfl, hk, hS', hacc⟩ := z
      subst e
      show wpAny _ A (load s.heap.objs.size >>= _) _ _ _
      refine wpAny_bind (wpAny_load hS' ?_)
      exact wpAny_pure (h h' tk acc' hk hacc)
  · obtain ⟨h', tk, acc', c', e, _⟩ := x
    cases e

/-- sorted over anything that collects to dints -/
theorem sorted_of {prog : Program} {w : World} {A : Around} {E : Value → Shared → Prop} {s : Shared} {r : Addr} {ns : List Int} {Q : Value → Shared → Prop} (h64 : ns.length < 64)
    (hc : ∀ (E' : Value → Shared → Prop) (Q' : List Value → Shared → Prop), (∀ h' tk (vs : List Value), (∀ b o, s.heap.get? b = some o → h'.get? b = some o) → IntsAre vs ns → Q' vs { s with heap := h', toks := tk }) → wpAny (model prog w) A.in1 (collect (.ref r)) Q' E' s)
    (h : ∀ h' tk (a : Addr) (vs : List Value) (ns' : List Int), s.heap.get? a = none → (∀ b o, s.heap.get? b = some o → h'.get? b = some o) → (∃ e, h'.get? a = some (seqObj "list" vs.toArray e)) → IntsAre vs ns' → ns'.Perm ns → ns'.Pairwise (· ≤ ·) → Q (.ref a) { s with heap := h', toks := tk }) :
    wpAny (model prog w) A (call (.builtin "sorted") [.ref r]) Q E s := by
  refine Calls.call_function_entry kind_sorted plain_sorted entry_sorted (args_sorted1 _) ?_
  unfold Builtin.«sorted»
  refine wpAny_bind (m := checkCount "sorted" 1 1 _) (wpAny_pure ?_)
  refine wpAny_bind (hc _ _ fun h1 tk vs hk hI => ?_)
  refine wpAny_bind (wpAny_newList ?_)
  have hoL : (h1.push (seqObj "list" vs.toArray 0)).get? h1.objs.size = some (seqObj "list" vs.toArray 0) := Heap.get?_push_size _ rfl
  have hfr : s.heap.get? h1.objs.size = none := by
    cases e : s.heap.get? h1.objs.size with
    | none => rfl
    | some o => exact absurd (Heap.lt_size (hk _ _ e)) (Nat.lt_irrefl _)
  refine wpAny_bind (wpAny_holding (wpAny_call_entry slot_list_sort ⟨_, hoL, rfl⟩ entry_list_sort (list_sort_tree hoL hI (by rw [hI.length]; exact h64) fun out ns' a1 a2 a3 => ⟨_, rfl, ?_⟩) (args_list_sort _)))
  refine wpAny_pure ⟨_, rfl, ?_⟩
  obtain ⟨e, he⟩ := sortedHeap_at (out := out) hoL
  refine h _ tk h1.objs.size out.toList ns' hfr (fun b o eo => ?_) ⟨e, by simpa using he⟩ a1 a2 a3
  have hlt : b < h1.objs.size := Heap.lt_size (hk b o eo)
  have h1' : (h1.push (seqObj "list" vs.toArray 0)).get? b = some o := Heap.get?_push_of_some _ (hk b o eo)
  rw [sortedHeap_old (Nat.ne_of_lt hlt) (Heap.lt_size h1')]
  exact h1'

theorem items_ints {kvs : List (Int × Value)} {prog : Program} {w : World} {acc : Array Value} (x : ItemsOf (fun i v => ∃ k x, kvs[i]? = some (k, x) ∧ (intKind prog w).is k v = true) acc kvs.length) : IntsAre acc.toList (kvs.map (·.1)) := by
  obtain ⟨hz, hx⟩ := x
  have : ∀ (l : List Value) (kvs : List (Int × Value)), l.length = kvs.length → (∀ (j : Nat) (v : Value), l[j]? = some v → ∃ k x, kvs[j]? = some (k, x) ∧ (intKind prog w).is k v = true) → IntsAre l (kvs.map (·.1)) := by
    intro l
    induction l with
    | nil => intro kvs hl _; cases kvs with | nil => exact .nil | cons _ _ => cases hl
    | cons v l ih =>
      intro kvs hl hj
      cases kvs with
      | nil => cases hl
      | cons p kvs =>
        obtain ⟨k, x, e, hk⟩ := hj 0 v rfl
        simp only [List.getElem?_cons_zero, Option.some.injEq] at e
        subst e
        obtain ⟨t, rfl⟩ := Value.isInt_shape hk
        exact .cons k t (ih kvs (by simpa using hl) fun j v e => by simpa using hj (j + 1) v (by simpa using e))
  exact this _ _ (by simpa using hz) fun j v e => hx j v (by rw [← Array.getElem?_toList]; exact e)

theorem b_sortedD {l : List (Int × D)} (h64 : l.length < 64) (h : ∀ l', l'.Perm (l.map (·.1)) → l'.Pairwise (· ≤ ·) → K (.list (dints l'))) : BltOK W (.builtin "sorted") A [.dict l] K := blt1 fun E s H δ v hh _ _ G r => by
      obtain ⟨a, kvs, rfl, q, hd, e, r⟩ := rep_dict r
      obtain ⟨ep, ha⟩ := hd.dictAt
      have hlen : kvs.length = l.length := by simpa using congrArg List.length e
      refine sorted_of (ns := l.map (·.1)) (by simpa using h64) (fun E' Q' hQ => collect_src (A := A.in1) (kdl_dict q) hh ha (by rw [hlen, sizeLine_eq]; omega) fun h' tk acc' hk hI => hQ h' tk acc'.toList hk (e ▸ items_ints hI)) ?_
      intro h' tk b vs' ns' hb hk he a1 a2 a3
      obtain ⟨e', he⟩ := he
      refine ⟨_, ⟨.refl, hk⟩, .list (vs := vs') (fun q => ?_) ⟨_, e', he, rfl, rfl, rfl⟩ (dints_rep a1), h ns' a2 a3⟩
      obtain ⟨o, e⟩ := G.hex _ q
      rw [hb] at e; cases e
end
section
variable {W : Wd} {C : FC} {m : Map} {δ : W.Δ} {K : D → W.Δ → Prop}

/-- list(range(e)) -/
theorem ev_list_range {f g : Str} {fp gp pos pos2 : Pos} {e : Expr} (hgl : W.mg f = none) (hfl : W.mb f = some (.type "list")) (hgr : W.mg g = none) (hfr : W.mb g = some (.type "range"))
    (h : evW W C e (fun a δ₁ => ∃ b : Int, a = .int b ∧ 0 ≤ b ∧ b ≤ 2 ^ 20 ∧ K (.list ((List.range b.toNat).map fun i => D.int (i : Nat))) δ₁) m δ) (hk : C.env.kindOf f = some .globalImplicit := by rfl) (hk' : C.env.kindOf g = some .globalImplicit := by rfl)
    (hs : noStar [e] = true := by rfl) (hd : (f == ("__debug__" : Str)) = false := by decide) (hd' : (g == ("__debug__" : Str)) = false := by decide) : evW W C (.Call (.Name f fp) [.Call (.Name g gp) [e] [] pos2] [] pos) K m δ := fun E s H R => by
  refine Call_ (builtin_name R hk hgl hfl ?_ hd)
  rw [starEach_plain _ _ rfl, backTo_plain]
  refine PyProof.Rows.callWith_type plain_args (evalArgs_all (spliced_cons ?_))
  refine Call_ (builtin_name R hk' hgr hfr ?_ hd')
  rw [starEach_plain _ _ hs, backTo_plain]
  refine PyProof.Rows.callWith_type plain_args (evalArgs_all (spliced_cons (wpAny_mono (h E s H R) ?_ fun _ _ e => e)))
  rintro x s1 ⟨a, δ1, k1, G1, r1, b, rfl, h1, h2, h3⟩
  cases r1 with | int _ t1 =>
  refine spliced_nil (call_range_1 (spliced_nil ?_))
  have kp : KeepA s1 { s1 with heap := s1.heap.push { cls := .type "range", data := .fields #[.int 0 s1.toks, .int b t1, .int 1 (s1.toks + 1)] }, toks := s1.toks + 1 + 1 } := .push
  have hr := IsRange.new s1.heap 0 b 1 s1.toks t1 (s1.toks + 1)
  have hsz : Builtin.Range.rangeSize 0 b 1 = (b.toNat : Int) := by rw [rangeSize_one]; split <;> omega
  refine call_list_range R.hh hr (small_one (by decide) (by decide) (by omega) (by omega)) hsz (by omega) fun h' tk acc' c' hk3 he hI => ?_
  have G2 := G1.keep kp
  have k3 : KeepA { s1 with heap := s1.heap.push { cls := .type "range", data := .fields #[.int 0 s1.toks, .int b t1, .int 1 (s1.toks + 1)] }, toks := s1.toks + 1 + 1 } { s1 with heap := h', toks := tk } := ⟨.refl, hk3⟩
  refine ⟨_, δ1, (k1.trans kp.x).trans k3.x, G2.keep k3, .list (vs := acc'.toList) G2.fresh ⟨_, c', he, rfl, rfl, by simp⟩ ?_, h3⟩
  obtain ⟨hz, hx⟩ := hI
  have : ∀ (l : List Value) (n k : Nat), l.length = n → (∀ (j : Nat) (v : Value), l[j]? = some v → ∃ t, v = Value.int ((k + j : Nat) : Int) t) → RepAll W H h' l ((List.range' k n).map fun i => D.int (i : Nat)) := by
    intro l
    induction l with
    | nil => intro n k hl _; simp at hl; subst hl; exact .nil
    | cons v l ih =>
      intro n k hl hj
      cases n with
      | zero => simp at hl
      | succ n =>
        obtain ⟨t, rfl⟩ := hj 0 v rfl
        rw [List.range'_succ, List.map_cons]
        exact .cons (.int _ _) (ih n (k + 1) (by simpa using hl) fun j v e => by
          obtain ⟨t, q⟩ := hj (j + 1) v (by simpa using e)
          exact ⟨t, by rw [q]; congr 2; omega⟩)
  rw [List.range_eq_range']
  refine this _ _ _ (by simpa using hz) fun j v e => ?_
  obtain ⟨t, q⟩ := hx j v (by rw [← Array.getElem?_toList]; exact e)
  exact ⟨t, by rw [q]; simp⟩

/-- a method of a list or dict -/
theorem ev_meth {T : String} {name : Str} {id : String} {o : Expr} {args : List Expr} {ap pos : Pos} (pa : PlainAttrs T) (slot : Slot T name id) (hty : typeOf (.builtin id) = pure (.type "method_descriptor"))
    (h : evW W C o (fun a δ₁ => (∀ (H : List Addr) (h : Heap) (v : Value), Rep W H h v a → ∃ b ob, v = .ref b ∧ h.get? b = some ob ∧ ob.cls = .type T ∧ ob.dict = none) ∧ evsW W C args (fun ds δ₂ => BltOK W (.builtin id) C.A (a :: ds) (fun d => K d δ₂)) m δ₁) m δ)
    (hs : noStar args = true := by rfl) (hline : (ap.endLine == pos.line) = true := by rfl) (hlen : args.length < 30 := by decide)
    (hb : attributeBase o name C.env (eval o C.env) = eval o C.env := by rfl) : evW W C (.Call (.Attribute o name ap) args [] pos) K m δ := fun E s H R => by
  refine wpAny_Call_method_lateS hb ?_ hline (wpAny_mono (h E s H R) ?_ fun _ _ e => e)
  · rw [starEach_plain _ _ hs, backTo_plain]
    have : (List.all (args.map fun e => (false, eval e C.env)) fun x => !x.1) = true := by
      rw [List.all_map]; exact List.all_eq_true.mpr fun _ _ => rfl
    rw [this]
    simp [hlen, backToKw, keywordEach]
  · rintro v s1 ⟨a, δ1, k1, G1, r1, hT, h1⟩
    obtain ⟨b, ob, rfl, e1, e2, e3⟩ := hT _ _ _ r1
    refine ⟨T, id, pa, slot, hty, ⟨ob, e1, e2⟩, fun a' e => by cases e; exact ⟨ob, e1, e3⟩, ?_⟩
    rw [starEach_plain _ _ hs, backTo_plain]
    refine callWith_builtin plain_args (evalArgs_all (wpAny_mono (evs_spliced args h1 E s1 H (R.keepX k1 G1)) ?_ fun _ _ e => e))
    rintro vs s2 ⟨ds, δ2, k2, G2, r2, h2⟩
    refine wpAny_mono (h2 E s2 H δ2 (.ref b :: vs) R.hh R.u80 R.gd G2 (.cons (r1.mono (k2.tr G1)) r2)) ?_ fun _ _ e => e
    rintro r s3 ⟨d, k3, r3, h3⟩
    exact ⟨d, δ2, (k1.trans k2).trans k3.x, G2.keep k3, r3, h3⟩

theorem b_get {A : Around} {l : List (Int × D)} {k : Int} {d : D} {K : D → Prop} (h : K ((dget l k).getD d)) : BltOK W (.builtin "dict.get") A [.dict l, .int k, d] K := fun E s H δ vs hh _ _ G r => by
  cases r with
  | cons r1 r2 =>
    cases r2 with
    | cons r2 r3 =>
      cases r3 with
      | cons r3 r4 =>
        cases r4
        cases r2
        cases r1 with
        | dict n q hd e r =>
          rename_i dv _ _ _
          have := dget_rep (k := k) e r
          refine call_meetsIn PySem.F.slot_dict_get hd.typeIs PySem.F.entry_dict_get (PySem.F.args_dict_get_3 _ _ _) (meets_dict_get_default (intKind W.prog W.w) _ (intKind_is _ _ _ _) q _) ⟨_, hd.mapOf, ?_⟩
          have tr : Trans H s.heap H ({ s with toks := s.toks + 1 } : Shared).heap := KeepA.tr (s := s) .tok
          cases hq : dget l k with
          | none =>
            rw [hq] at this h
            simp only at this
            rw [this]
            exact ⟨_, .tok, r3.mono tr, h⟩
          | some x =>
            rw [hq] at this h
            obtain ⟨x', hx, rx⟩ := this
            rw [hx]
            exact ⟨_, .tok, rx.mono tr, h⟩

theorem b_index {A : Around} {l : List D} {d : D} {j : Nat} {y : D} {K : D → Prop} (hl : ∀ d ∈ l, Ok 7 d) (hd : Ok 8 d) (hj : l[j]? = some y) (hy : deq y d = true) (hno : ∀ i y', i < j → l[i]? = some y' → deq y' d = false) (hsm : (j : Int) < 2 ^ 63 - 1) (h : K (.int j)) :
    BltOK W (.builtin "list.index") A [.list l, d] K := fun E s H δ vs hh hu _ G r => by
  cases r with
  | cons r1 r2 =>
    cases r2 with
    | cons r2 r3 =>
      cases r3
      obtain ⟨bs, q2⟩ := rep_reads 8 r2 hd
      obtain ⟨l2, d2⟩ := ok_lay 8 d hd
      obtain ⟨l1, d1⟩ := ok_all 7 l hl
      cases r1 with
      | list n pl q =>
        rename_i x a vs
        obtain ⟨as, q1⟩ := repAll_reads 7 q hl
        obtain ⟨⟨cls, dd, data, sl⟩, ho, hc, n, hdt⟩ := id pl.isList
        simp only at hc hdt
        subst hc hdt
        have hat : ∀ i (hi : i < vs.length), ∃ y', l[i]? = some y' ∧ SeqAt.readOf s.heap vs[i] = y'.py := fun i hi => by
          obtain ⟨y', e, ry⟩ := q.get' (List.getElem?_eq_getElem hi)
          have hok : Ok 7 y' := hl y' (List.mem_of_getElem? e)
          obtain ⟨as', rd⟩ := rep_reads 7 ry hok
          exact ⟨y', e, SeqAt.readOf_eq (ok_lay 7 y' hok).1 rd⟩
        have hjl : j < vs.length := by rw [q.length]; exact (List.getElem?_eq_some_iff.mp hj).1
        refine call_meets PySem.F.slot_list_index ⟨_, ho, rfl⟩ PySem.F.entry_list_index (PySem.F.args_list_index_2 _ _)
          (SeqAt.list_indexAt a vs.toArray n dd sl x (fun y => PyData.eqv (SeqAt.readOf s.heap y) d.py) j (by simpa using hjl) hsm ?_ ?_) ⟨ho, ?_, ?_⟩
        · obtain ⟨y', e, hr⟩ := hat j hjl
          rw [hj] at e; cases e
          simp only [List.getElem_toArray, hr]; exact hy
        · intro i hi hlt
          have hi' : i < vs.length := by simpa using hi
          obtain ⟨y', e, hr⟩ := hat i hi'
          simp only [List.getElem_toArray, hr]; exact hno i y' hlt e
        · have := SeqAt.items_eqAt (A := A) (s := s) (vs := vs.toArray) (x := x) (by simpa using q1) q2 l1 l2 (by have := Nat.min_le_right (PyData.depthAll (pys l)) d.py.depth; omega)
          exact this
        · exact ⟨_, .tok, .int _ _, h⟩
end
/-! part L15 -/
section
variable {W : Wd} {C : FC} {m : Map} {δ : W.Δ}
theorem stW_mono {body : List Stmt} {P P' : Fl → Map → W.Δ → Prop} (h : stW W C body P m δ) (k : ∀ fl m δ, P fl m δ → P' fl m δ) : stW W C body P' m δ := fun E s H R =>
  wpAny_mono (h E s H R) (fun f s' ⟨H', m', δ', a, b, c⟩ => ⟨H', m', δ', a, b, by cases f <;> first | exact k _ _ _ c | exact c.elim | exact ⟨c.choose, c.choose_spec.1, k _ _ _ c.choose_spec.2⟩⟩) fun _ _ e => e
theorem asW_mono {t : Expr} {d : D} {K K' : Map → Prop} (h : asW W C t d K m) (k : ∀ m, K m → K' m) : asW W C t d K' m := fun E s H δ v R r =>
  wpAny_mono (h E s H δ v R r) (fun _ s' ⟨m', a, b, c⟩ => ⟨m', a, b, k _ c⟩) fun _ _ e => e
theorem teW_mono {e : Expr} {K K' : Bool → W.Δ → Prop} (h : teW W C e K m δ) (k : ∀ b δ', K b δ' → K' b δ') : teW W C e K' m δ := fun E s H R =>
  wpAny_mono (h E s H R) (fun _ s' ⟨δ', a, b, c⟩ => ⟨δ', a, b, k _ _ c⟩) fun _ _ e => e
theorem testsW_mono {ifs : List Expr} {K K' : Bool → W.Δ → Prop} (h : testsW W C ifs K m δ) (k : ∀ b δ', K b δ' → K' b δ') : testsW W C ifs K' m δ := by
  match ifs, h with
  | [], h => exact k _ _ h
  | [c], h => exact teW_mono h k
  | _ :: _ :: _, h => exact h.elim

theorem loop_ind {α : Type} {f : α → D} {tgt : Expr} {body : List Stmt} {P : Fl → Map → W.Δ → Prop} (Inv : List α → Map → W.Δ → Prop)
    (step : ∀ x r m δ, Inv (x :: r) m δ → asW W C tgt (f x) (fun m1 => stW W C body (fun fl m2 δ2 => match fl with | .next => Inv r m2 δ2 | .ret d => P (.ret d) m2 δ2) m1 δ) m)
    (done : ∀ m δ, Inv [] m δ → P .next m δ) : ∀ (l : List α) {m : Map} {δ : W.Δ}, Inv l m δ → loopW W C tgt body P (l.map f) m δ
  | [], _, _, h => done _ _ h
  | x :: r, m, δ, h => asW_mono (step x r m δ h) fun m1 h1 => stW_mono h1 fun fl m2 δ2 h2 => by
      cases fl with
      | next => exact loop_ind Inv step done r h2
      | ret d => exact h2

theorem comp_fm {α : Type} {f : α → D} {g : α → Option D} {tgt elt : Expr} {ifs : List Expr} {K : List D → W.Δ → Prop} (I : Map → Prop) : ∀ (l : List α) {acc : List D} {m : Map},
    (∀ x ∈ l, ∀ m, I m → asW W C tgt (f x) (fun m1 => testsW W C ifs (fun b δ1 => δ1 = δ ∧ if b = true then evW W C elt (fun d δ2 => δ2 = δ ∧ g x = some d ∧ I m1) m1 δ1 else g x = none ∧ I m1) m1 δ) m) →
    I m → K (acc ++ l.filterMap g) δ → compW W C tgt ifs elt K (l.map f) acc m δ
  | [], acc, m, _, _, h => by simpa [compW] using h
  | x :: r, acc, m, step, hi, h => by
    refine asW_mono (step x List.mem_cons_self m hi) fun m1 h1 => testsW_mono h1 fun b δ1 h2 => ?_
    obtain ⟨e, h2⟩ := h2
    replace e := e.symm
    subst e
    cases b with
    | true =>
      simp only [if_true] at h2 ⊢
      refine ev_mono h2 fun d δ2 h3 => ?_
      obtain ⟨e, h3, h4⟩ := h3
      replace e := e.symm
      subst e
      exact comp_fm I r (fun y hy => step y (List.mem_cons_of_mem _ hy)) h4 (by simpa [h3, List.filterMap_cons] using h)
    | false =>
      simp only [Bool.false_eq_true, if_false] at h2 ⊢
      exact comp_fm I r (fun y hy => step y (List.mem_cons_of_mem _ hy)) h2.2 (by simpa [h2.1, List.filterMap_cons] using h)

/-! facts of names: looked up by deciding the words apart -/
theorem upd_get {m : Map} {x y : Str} {e : Ent} {r : Option Ent} (h : if y = x then some e = r else m y = r) : upd m x e y = r := by
  unfold upd; split at h <;> simp_all
end
section
variable {W : Wd} {C : FC} {m : Map} {δ : W.Δ}
theorem after_next {rest : List Stmt} {P : Fl → Map → W.Δ → Prop} (h : stW W C rest P m δ) : afterW W C rest P .next m δ := h
theorem after_ret {rest : List Stmt} {P : Fl → Map → W.Δ → Prop} {d : D} (h : P (.ret d) m δ) : afterW W C rest P (.ret d) m δ := h
theorem evs_nil {K : List D → W.Δ → Prop} (h : K [] δ) : evsW W C [] K m δ := h
theorem evs_cons {e : Expr} {r : List Expr} {K : List D → W.Δ → Prop} (h : evW W C e (fun d δ₁ => evsW W C r (fun ds δ₂ => K (d :: ds) δ₂) m δ₁) m δ) : evsW W C (e :: r) K m δ := h
theorem ass_nil {K : Map → Prop} (h : K m) : assW W C [] [] K m := h
theorem ass_cons {t : Expr} {ts : List Expr} {d : D} {ds : List D} {K : Map → Prop} (h : asW W C t d (assW W C ts ds K) m) : assW W C (t :: ts) (d :: ds) K m := h
theorem tests_nil {K : Bool → W.Δ → Prop} (h : K true δ) : testsW W C [] K m δ := h
theorem tests_one {c : Expr} {K : Bool → W.Δ → Prop} (h : teW W C c K m δ) : testsW W C [c] K m δ := h
theorem argM_cons {p : Str} {ps : List Str} {d : D} {ds : List D} {m : Map} : argM (p :: ps) (d :: ds) m = argM ps ds (upd m p (.val d)) := rfl
theorem argM_nil {m : Map} : argM [] [] m = m := rfl
end
/-! part L16 -/

/-! lists that are changed in place -/
section
variable {prog : Program} {w : World} {A : Around} {E : Value → Shared → Prop} {s : Shared}
theorem plainL_up {h : Heap} {l : Addr} {its : Array Value} (hl : PlainL h l its) (f : Array Value → Array Value) : PlainL (h.update l (Obj.mapSeq f)) l (f its) := by
  obtain ⟨o, n, ho, hc, hdn, hd⟩ := id hl
  obtain ⟨n', hd'⟩ := Obj.data_mapSeq hd f
  refine ⟨_, n', Heap.get?_update_self _ ho (Obj.isFreed_of_seq hd'), (Obj.cls_mapSeq ..).trans hc, ?_, hd'⟩
  obtain ⟨c, d, dt, sl⟩ := o
  subst hd
  exact hdn

theorem setItem_plain {l : Addr} {items : Array Value} {k : Int} {t : Tok} {v : Value} {Q : Unit → Shared → Prop} (hl : PlainL s.heap l items)
    (h0 : 0 ≤ k) (hfit : k < 2 ^ 63) (hn : k < items.size)
    (hQ : ∀ h', PlainL h' l (items.setIfInBounds k.toNat v) → Heap.SameBut l s.heap h' → Q () { s with heap := h' }) :
    wpAny (model prog w) A (setItem (.ref l) (.int k t) v) Q E s := by
  obtain ⟨o, ho, hc, ne, hd⟩ := id hl.isList
  unfold setItem
  try with_reducible refine wpAny_holding ?_
  first | refine wpAny_bind (wpAny_pure ?_) | skip
  refine wpAny_bind (wpAny_sequenceKey hl.isList.typeIs (by decide) ?_)
  refine wpAny_bind (wpAny_callSpecial?_slot (name := Str.ofString "__setitem__") hl.isList.typeIs slot_list_setitem
    (wpAny_call_entry slot_list_setitem hl.isList.typeIs entry_list_setitem ?_ (args_list_setitem _ _ _)))
  show wpAny _ _ (Builtin.List.listSubscript? (.int k t) >>= _) _ _ s
  refine wpAny_bind (wpAny_listSubscript_int (fitsIndex_of h0 hfit) ?_)
  clear hfit
  obtain ⟨j, rfl⟩ := Int.eq_ofNat_of_zero_le h0
  have hj : j < items.size := by omega
  have hx' : items[j]? = some items[j] := Array.getElem?_eq_getElem hj
  show wpAny _ _ ((seqItemAt l j >>= fun r => pure (r.map (j, ·))) >>= _) _ _ s
  refine wpAny_bind (wpAny_bind (wpAny_seqItemAt ho hd (wpAny_pure ?_)))
  rw [hx']
  show wpAny _ _ (setSeqItemAt l j v >>= _) _ _ s
  have hfin := plainL_up hl (·.setIfInBounds j v)
  refine wpAny_bind (wpAny_setSeqItemAt ho hd ?_)
  first
    | exact wpAny_bind (wpAny_pure (wpAny_pure ⟨.none, rfl, wpAny_pure (hQ _ hfin (Heap.SameBut.update ..))⟩))
    | exact wpAny_pure ⟨.none, rfl, wpAny_pure (hQ _ hfin (Heap.SameBut.update ..))⟩

theorem list_pop_gen (l : Addr) (items : Array Value) (n : Nat) (dd : Option Addr) (sl : Array (Option Value)) (i : Int) (u : Tok) (k : Nat) (y : Value) (hfit : Builtin.List.listFitsIndex i = true) (hk : seqIndex? i items.size = some k) (hy : items[k]? = some y) (hs1 : items.size ≤ sizeLine := by size_fits) :
    Meets (Builtin.«list.pop» ⟨[.ref l, .int i u], []⟩)
      (fun _ R s => s.heap.get? l = some { cls := .type "list", dict := dd, data := .seq items n, slots := sl } ∧ R (.ok (.ret y)) { s with heap := s.heap.update l (Obj.mapSeq fun xs => xs.eraseIdxIfInBounds k) }) :=
  .of_wp fun prog w A R s h => by
    obtain ⟨hp, g, d, tk, os⟩ := s; obtain ⟨hl, h⟩ := h
    have hne : ¬ items.isEmpty = true := by
      intro he; have : items.size = 0 := by simpa using he
      simp [this] at hy
    have hf : ¬ (!Builtin.List.listFitsIndex i) = true := by simp [hfit]
    wp_walk using wpAny_loadPart' hl
    simp only [hk, hy, Option.bind_some, Option.map_some]
    have hz' : (items.eraseIdxIfInBounds k).size ≤ sizeLine + 1 := Nat.le_trans (MeetsSeq.size_erased items _) (Nat.le_succ_of_le hs1)
    wp_walk using (wpAny_updateSeq hl rfl (hz := hs1) (_hz' := hz')), wpAny_loadPart' hl
    exact ⟨_, rfl, h⟩
end

section
variable {W : Wd} {C : FC} {m : Map} {δ : W.Δ}
/-- entering a call, the end left open -/
theorem call_enter {fa : Addr} {n : Nat} {ds : List D} {δ : W.Δ} {o : Obj} {fd : FuncData} {body : List Stmt} (ps : List Str) (ho : W.hb.get? fa = some o) (hd : o.data = .func fd) (hcd : W.hb.CodeRec fd.code fd.qualname)
    (hbody : fd.body = .stmts body) (hbind : ∀ vs : List Value, vs.length = ds.length → bindArgs fd ⟨vs, []⟩ = pure (ps.zip vs)) (hclo : fd.closure = [])
    (hps : (ps.all fun p => decide (fd.scope.names.lookup p = some .local)) = true) (hnd : (cellsFrom 0 fd.scope.names []) = [])
    {A : Around} {E : Value → Shared → Prop} {s : Shared} {H : List Addr} {vs : List Value} {Q : Value → Shared → Prop} (hh : A.handled = Option.none) (hroom : A.depth + (n + 1) < recursionLimit) (hunits : A.units + 8 * (n + 1) + 80 < cLine) (hgd : A.guards = some []) (G : GS W H δ s) (r : RepAll W H s.heap vs ds)
    (h : ∀ E' L s1, KeepA s s1 → s.heap.get? L = none → Rel W (fcOf A fd L fa n) (L :: H) (argM ps ds fun _ => none) δ s1 → wpAny (model W.prog W.w) (fcOf A fd L fa n).A (execs body (fcOf A fd L fa n).env) (fun f s2 => match f with | .next => Q .none s2 | .ret v => Q v s2 | _ => False) E' s1)
    (hg : fd.globals = mainGlobals := by rfl) (hbl : fd.builtins = builtinsNs := by rfl)
    (hco : fd.scope.isCoroutine = false := by rfl) (hgen : fd.scope.isGenerator = false := by rfl) (hk : fd.scope.kind = .function := by rfl) :
    wpAny (model W.prog W.w) A (call (.ref fa) vs) Q E s := by
  have hp : ∀ p ∈ ps, fd.scope.names.lookup p = some .local := fun p hp => by simpa using List.all_eq_true.mp hps p hp
  have hvl : vs.length = ds.length := r.length
  have lim : s.heap.NoLimit := W.lim.keeps fun b o e => (G.base b o e).1
  have hcd' : s.heap.CodeRec fd.code fd.qualname := hcd.keeps fun b o e => (G.base b o e).1
  refine wpAny_call (codeAny_call_cells (by omega) (G.base _ _ ho).1 hd lim hcd' hbody (hbind vs hvl) hclo (fun x hx => .inl (hp _ ?_)) (fun s1 x => ?_) hco hgen hk)
  · exact (List.of_mem_zip hx).1
  generalize hL : s.heap.objs.size = L at x ⊢
  have done := x.toInCall.done
  obtain ⟨h1, tk, hs1, keep⟩ := done
  have hloc : (callEnvC fd L fa).locals = L := rfl
  have hcells : (callEnvC fd L fa).cells = [] := by
    show cellsFrom (L + 1) fd.scope.names [] = []
    have := cellsFrom_names fd.scope.names 0 (L + 1) [] [] rfl
    rw [hnd] at this
    simpa using this.symm
  have hLn : s.heap.get? L = none := by rw [← hL]; exact fresh_none
  have KA : KeepA s s1 := ⟨by rw [hs1]; exact ⟨rfl, rfl, rfl⟩, fun b o e => by rw [hs1]; exact keep b o e⟩
  have tr : Trans H s.heap (L :: H) s1.heap := fun b o e n => ⟨KA.2 b o e, fun q => by
    rcases List.mem_cons.mp q with q | q
    · rw [q, hLn] at e; cases e
    · exact n q⟩
  have LH : L ∉ H := fun q => by obtain ⟨o, e⟩ := G.hex L q; rw [hLn] at e; cases e
  have G1 := G.keep KA
  have hcw : (fcOf A fd L fa n).cw = [] := by show (callEnvC fd L fa).cells.map (·.2) = []; rw [hcells]; rfl
  have R1 : Rel W (fcOf A fd L fa n) (L :: H) (argM ps ds fun _ => none) δ s1 := by
    refine ⟨⟨fun b o e => ⟨(G1.base b o e).1, (tr b o (G.base b o e).1 (G.base b o e).2).2⟩, G1.deck, fun a ha => List.mem_cons_of_mem _ (G.dh a ha), fun a ha => ?_⟩, hk, hg, hbl, hh, ?_, ?_, hgd, ⟨_, x.toInCall.ns, fun y e hy => ?_⟩, by show L ∈ _; simp, fun q => LH (G.dh L q), fun c hc => ?_, fun y c hky hc _ => ⟨_, x.cell y c hc⟩, fun y z c h1 h2 => name_of_addr x.apart (mem_of_lookup h1) (mem_of_lookup h2), fun y a d hy => ?_, fun y z a d e hy _ => ?_⟩
    · rcases List.mem_cons.mp ha with q | q
      · obtain ⟨o, _, _, e, _⟩ := x.toInCall.ns; exact ⟨o, q ▸ e⟩
      · exact G1.hex a q
    · show A.depth + 1 + n < recursionLimit; omega
    · show A.units + 3 + 8 * n + 80 < cLine; omega
    · obtain ⟨v, a, b, c, _⟩ := argM_ok (kindOf := (callEnvC fd L fa).kindOf) ps vs ds (fun _ => none) (fun _ => none) hp r (fun _ _ h => by cases h) y e hy
      exact ⟨v, .inl ⟨a, b⟩, c.mono tr fun a' d' ea => by obtain ⟨d, q⟩ := ‹∃ d, e = .val d›; rw [q] at ea; cases ea⟩
    · rw [hcw] at hc; cases hc
    · obtain ⟨v, _, _, _, d', q⟩ := argM_ok (kindOf := (callEnvC fd L fa).kindOf) ps vs ds (fun _ => none) (fun _ => none) hp r (fun _ _ h => by cases h) y _ hy
      cases q
    · obtain ⟨v, _, _, _, d', q⟩ := argM_ok (kindOf := (callEnvC fd L fa).kindOf) ps vs ds (fun _ => none) (fun _ => none) hp r (fun _ _ h => by cases h) y _ hy
      cases q
  refine wpAny_mono (h _ L s1 KA hLn R1) ?_ fun _ _ e => e
  intro f s2 h2
  cases f <;> first | exact h2 | exact h2.elim
end
/-! part L17 -/

structure Deck1At (h : Heap) (o c e : Addr) (δ : List Int × Int) : Prop where
  oc : o ≠ c
  oe : o ≠ e
  ce : c ≠ e
  outer : h.IsList o #[.ref c, .ref e]
  cells : ∃ vs : List Value, PlainL h c vs.toArray ∧ IntsAre vs δ.1
  seed : ∃ t, PlainL h e #[.int δ.2 t]

abbrev deck1 (W : Wd) (o c e : Addr) : Wd :=
  { W with root := fun k => match k with | 0 => o | 1 => c | _ => e, da := [o, c, e], Δ := List Int × Int, rel := fun h δ => Deck1At h o c e δ, stable := fun h h' δ k d => ⟨d.oc, d.oe, d.ce, isList_at d.outer fun ob eo => k o (by simp) ob eo, let ⟨vs, a, b⟩ := d.cells; ⟨vs, plainL_at a fun ob eo => k c (by simp) ob eo, b⟩, let ⟨t, a⟩ := d.seed; ⟨t, plainL_at a fun ob eo => k e (by simp) ob eo⟩⟩ }

section
variable {W0 : Wd} {o c e : Addr} {C : FC} {m : Map} {δ : List Int × Int}

theorem as_deck {ts : List Expr} {k : Nat} {p : Pos} {K : Map → Prop} (hl : ts.length = 2) (h : assW (deck1 W0 o c e) C ts [.deck 1, .deck 2] K m) (hs : noStar ts = true := by rfl) : asW (deck1 W0 o c e) C (.Tuple ts k p) (.deck 0) K m := fun E s H δ v R r => by
  cases r
  have D := R.gs.deck
  have hL : s.heap.IsList o (#[.ref c, .ref e]) := D.outer
  rw [PyProof.Rows.assign_Tuple]
  refine wpAny_bind (wpAny_standAt ?_)
  unfold unpack
  have hn : (assignEach ts C.env).length = (#[Value.ref c, Value.ref e]).size := by rw [assignEach_plain _ _ hs]; simp [hl]
  rw [hn, show (assignEach ts C.env).findIdx? (·.1) = none by rw [assignEach_plain _ _ hs]; exact findIdx_plain _ _]
  refine wpAny_bind (wpAny_holding (kun_itemsOf R.hh hL fun h' he => ?_))
  rw [assignEach_plain _ _ hs, List.map_map]
  have k : KeepA s { s with heap := h' } := keepA_ext (n := s.toks) he
  refine wpAny_mono (ass_run ts _ h E { s with heap := h' } H δ [.ref c, .ref e] (R.keep k) (.cons (.deck (W := deck1 W0 o c e) 1) (.cons (.deck (W := deck1 W0 o c e) 2) .nil))) ?_ fun _ _ e => e
  rintro _ s1 ⟨m1, F1, R1, h1⟩
  exact ⟨m1, (Fm.ofX k.x).trans R (R.keep k) F1, R1, h1⟩

theorem deck_keep {H : List Addr} {s : Shared} {δ δ' : List Int × Int} {a : Addr} {h' : Heap} (G : GS (deck1 W0 o c e) H δ s) (ha : a ∈ [o, c, e]) (hs : Heap.SameBut a s.heap h') (D : Deck1At h' o c e δ') :
    KeepX (deck1 W0 o c e) s { s with heap := h' } ∧ GS (deck1 W0 o c e) H δ' { s with heap := h' } := by
  have ha' : a ∈ (deck1 W0 o c e).da := ha
  have aH := G.dh a ha'
  have k : ∀ b ob, b ≠ a → s.heap.get? b = some ob → h'.get? b = some ob := fun b ob n eo => hs.extBut b ob n eo
  refine ⟨⟨.refl, fun b ob eo n => k b ob (fun q => n (q ▸ ha')) eo⟩, ⟨fun b ob eo => ⟨k b ob (fun q => (G.base b ob eo).2 (q ▸ aH)) (G.base b ob eo).1, (G.base b ob eo).2⟩, D, G.dh, fun b hb => ?_⟩⟩
  by_cases q : b = a
  · subst q
    simp only [List.mem_cons, List.not_mem_nil, or_false] at ha
    rcases ha with rfl | rfl | rfl
    · obtain ⟨ob, eo, _⟩ := D.outer; exact ⟨ob, eo⟩
    · obtain ⟨vs, ⟨ob, n, eo, _⟩, _⟩ := D.cells; exact ⟨ob, eo⟩
    · obtain ⟨t, ⟨ob, n, eo, _⟩⟩ := D.seed; exact ⟨ob, eo⟩
  · obtain ⟨ob, eo⟩ := G.hex b hb
    exact ⟨ob, k b ob q eo⟩

theorem te_deck_ne {x : Str} {p lp pos : Pos} {K : Bool → (List Int × Int) → Prop} (hx : m x = some (.val (.deck 1))) (h : K (!δ.1.isEmpty) δ) (hz : δ.1.length ≤ 2 ^ 10)
    (hd : (x == ("__debug__" : Str)) = false := by decide) (hm : behindInMarks .NotEq (.List [] lp) = false := by with_unfolding_all rfl) : teW (deck1 W0 o c e) C (.Compare (.Name x p) [.NotEq] [.List [] lp] pos) K m δ := fun E s H R => by
  refine wpAny_isTrue_Compare1 (wpAny_Name (ev_load R hx fun v hv => ?_) hd) hm
  cases hv
  refine List_ (args_nil (wpAny_newList ?_ (by simp)))
  have kp : KeepA s { s with heap := s.heap.push { cls := .type "list", data := .seq ([] : List Value).toArray } } := .push
  have G1 := R.gs.keep kp
  obtain ⟨vs, pl, hi⟩ := G1.deck.cells
  have r1 : Rep { deck1 W0 o c e with root := fun _ => s.heap.objs.size } [] ({ s with heap := s.heap.push { cls := .type "list", data := .seq ([] : List Value).toArray } } : Shared).heap (.ref c) (.list (dints δ.1)) := .list (by simp) pl (dints_rep hi)
  have r2 : Rep { deck1 W0 o c e with root := fun _ => s.heap.objs.size } [] ({ s with heap := s.heap.push { cls := .type "list", data := .seq ([] : List Value).toArray } } : Shared).heap (.ref s.heap.objs.size) (.list []) := .list (by simp) ⟨_, _, Heap.get?_push_size _ rfl, rfl, rfl, rfl⟩ .nil
  have ha : Ok 8 (.list (dints δ.1)) := by
    intro d hd
    unfold dints at hd
    obtain ⟨i, _, rfl⟩ := List.mem_map.mp hd
    trivial
  have hb : Ok 8 (.list []) := by intro d hd; cases hd
  obtain ⟨as, q1⟩ := rep_reads 8 r1 ha
  obtain ⟨bs, q2⟩ := rep_reads 8 r2 hb
  obtain ⟨l1, d1⟩ := ok_lay 8 _ ha
  obtain ⟨l2, d2⟩ := ok_lay 8 _ hb
  refine cmp_ofNotEq (SeqAt.neOverData _ _ _ _ _ _ _ _ _ _ _ _ q1 q2 l1 l2 (by have hu := R.u80; have : min (D.list (dints δ.1)).py.depth (D.list []).py.depth ≤ 8 := Nat.le_trans (Nat.min_le_left _ _) d1; omega) ?_)
  have e1 : PyData.eqv (D.list (dints δ.1)).py (D.list []).py = δ.1.isEmpty := by
    cases δ.1 <;> simp [dints, D.py, pys, PyData.eqv, PyData.eqvAll]
  rw [e1]
  exact wpAny_truthy_bool ⟨δ, kp.x, G1, h⟩

theorem ev_deck1_0 {x : Str} {p ip pos : Pos} {k : Nat} {n : Int} {r : List Int} {K : D → (List Int × Int) → Prop} (hx : m x = some (.val (.deck 1))) (hc : δ.1 = n :: r) (h : K (.int n) δ)
    (hd : (x == ("__debug__" : Str)) = false := by decide)
    (hs : ∀ o j, subscripted (.Constant (.int 0) k ip) false o j = operate [o, j] (getItem o j) := by intro _ _; with_unfolding_all rfl) :
    evW (deck1 W0 o c e) C (.Subscript (.Name x p) (.Constant (.int 0) k ip) pos) K m δ := fun E s H R => by
  refine Subscript_ (wpAny_Name (ev_load R hx fun v hv => ?_) hd)
  cases hv
  refine wpAny_Constant_int ?_
  have kp : KeepA s { s with toks := s.toks + 1 } := .tok
  obtain ⟨vs, pl, hi⟩ := R.gs.deck.cells
  rw [hc] at hi
  obtain ⟨t, vs', rfl, hi'⟩ := hi.cons_inv
  exact tail_any (s := { s with toks := s.toks + 1 }) pl.isList.typeIs slot_list_getitem.lookup (wpAny_getItem_list (x := .int n t) pl.isList (by decide) (by decide) (by simp) ⟨_, δ, kp.x, R.gs.keep kp, .int _ _, h⟩) (hs _ _)
theorem ev_deck2_0 {x : Str} {p ip pos : Pos} {k : Nat} {K : D → (List Int × Int) → Prop} (hx : m x = some (.val (.deck 2))) (h : K (.int δ.2) δ)
    (hd : (x == ("__debug__" : Str)) = false := by decide)
    (hs : ∀ o j, subscripted (.Constant (.int 0) k ip) false o j = operate [o, j] (getItem o j) := by intro _ _; with_unfolding_all rfl) :
    evW (deck1 W0 o c e) C (.Subscript (.Name x p) (.Constant (.int 0) k ip) pos) K m δ := fun E s H R => by
  refine Subscript_ (wpAny_Name (ev_load R hx fun v hv => ?_) hd)
  cases hv
  refine wpAny_Constant_int ?_
  have kp : KeepA s { s with toks := s.toks + 1 } := .tok
  obtain ⟨t, pl⟩ := R.gs.deck.seed
  exact tail_any (s := { s with toks := s.toks + 1 }) pl.isList.typeIs slot_list_getitem.lookup (wpAny_getItem_list (x := .int δ.2 t) pl.isList (by decide) (by decide) (by simp) ⟨_, δ, kp.x, R.gs.keep kp, .int _ _, h⟩) (hs _ _)

theorem ex_deck2_set {x : Str} {p ip sp pos : Pos} {k : Nat} {v : Expr} {P : Fl → Map → (List Int × Int) → Prop} (hx : m x = some (.val (.deck 2))) (h : evW (deck1 W0 o c e) C v (fun d δ' => ∃ i, d = .int i ∧ P .next m (δ'.1, i)) m δ)
    (hsw : swapsWith v (some (.Subscript (.Name x p) (.Constant (.int 0) k ip) sp)) pos.line C.env = pure false := by rfl)
    (hd : (x == ("__debug__" : Str)) = false := by decide) : exW (deck1 W0 o c e) C (.Assign [.Subscript (.Name x p) (.Constant (.int 0) k ip) sp] v pos) P m δ := fun E s H R => by
  refine wpAny_Assign_Subscript (wpAny_mono (h E s H R) ?_ fun _ _ e => e) hsw
  rintro vv s1 ⟨d, δ1, k1, G1, r1, i, rfl, h1⟩
  have R1 := R.keepX k1 G1
  cases r1
  rename_i t0
  refine wpAny_Name (ev_load R1 hx fun v hv => ?_) hd
  cases hv
  refine wpAny_Constant_int ?_
  have kp : KeepA s1 { s1 with toks := s1.toks + 1 } := .tok
  have R2 := R1.keep kp
  obtain ⟨t, pl⟩ := G1.deck.seed
  refine setItem_plain (s := { s1 with toks := s1.toks + 1 }) pl (by decide) (by decide) (by simp) fun h' pl' hs' => ?_
  have D1 := G1.deck
  obtain ⟨k2, G2⟩ := deck_keep (a := e) (δ' := (δ1.1, i)) R2.gs (by simp) hs' ⟨D1.oc, D1.oe, D1.ce, isList_at D1.outer fun ob eo => hs'.extBut o ob D1.oe eo, let ⟨vs, a, b⟩ := D1.cells; ⟨vs, plainL_at a fun ob eo => hs'.extBut c ob D1.ce eo, b⟩, ⟨_, by simpa using pl'⟩⟩
  exact ⟨H, m, (δ1.1, i), .ofX ((k1.trans kp.x).trans k2), R2.keepX k2 G2, h1⟩

theorem ex_deck1_set {x : Str} {p ip sp pos : Pos} {k : Nat} {v : Expr} {P : Fl → Map → (List Int × Int) → Prop} (hx : m x = some (.val (.deck 1))) (h : evW (deck1 W0 o c e) C v (fun d δ' => ∃ i n r, d = .int i ∧ δ'.1 = n :: r ∧ P .next m (i :: r, δ'.2)) m δ)
    (hsw : swapsWith v (some (.Subscript (.Name x p) (.Constant (.int 0) k ip) sp)) pos.line C.env = pure false := by rfl)
    (hd : (x == ("__debug__" : Str)) = false := by decide) : exW (deck1 W0 o c e) C (.Assign [.Subscript (.Name x p) (.Constant (.int 0) k ip) sp] v pos) P m δ := fun E s H R => by
  refine wpAny_Assign_Subscript (wpAny_mono (h E s H R) ?_ fun _ _ e => e) hsw
  rintro vv s1 ⟨d, δ1, k1, G1, r1, i, n, r, rfl, hc, h1⟩
  have R1 := R.keepX k1 G1
  cases r1
  rename_i t0
  refine wpAny_Name (ev_load R1 hx fun v hv => ?_) hd
  cases hv
  refine wpAny_Constant_int ?_
  have kp : KeepA s1 { s1 with toks := s1.toks + 1 } := .tok
  have R2 := R1.keep kp
  obtain ⟨vs, pl, hi⟩ := G1.deck.cells
  rw [hc] at hi
  obtain ⟨t, vs', rfl, hi'⟩ := hi.cons_inv
  refine setItem_plain (s := { s1 with toks := s1.toks + 1 }) pl (by decide) (by decide) (by simp) fun h' pl' hs' => ?_
  have D1 := G1.deck
  obtain ⟨k2, G2⟩ := deck_keep (a := c) (δ' := (i :: r, δ1.2)) R2.gs (by simp) hs' ⟨D1.oc, D1.oe, D1.ce, isList_at D1.outer fun ob eo => hs'.extBut o ob D1.oc eo, ⟨.int i t0 :: vs', by simpa using pl', .cons i t0 hi'⟩, let ⟨t, a⟩ := D1.seed; ⟨t, plainL_at a fun ob eo => hs'.extBut e ob (Ne.symm D1.ce) eo⟩⟩
  exact ⟨H, m, (i :: r, δ1.2), .ofX ((k1.trans kp.x).trans k2), R2.keepX k2 G2, h1⟩

theorem ev_deck1_pop {x : Str} {p ip ap pos : Pos} {k : Nat} {n : Int} {r : List Int} {K : D → (List Int × Int) → Prop} (hx : m x = some (.val (.deck 1))) (hc : δ.1 = n :: r) (hz : δ.1.length ≤ 2 ^ 10) (h : K (.int n) (r, δ.2))
    (hd : (x == ("__debug__" : Str)) = false := by decide) (hline : (ap.endLine == pos.line) = true := by rfl)
    (hb : attributeBase (.Name x p) "pop" C.env (eval (.Name x p) C.env) = eval (.Name x p) C.env := by rfl) :
    evW (deck1 W0 o c e) C (.Call (.Attribute (.Name x p) "pop" ap) [.Constant (.int 0) k ip] [] pos) K m δ := fun E s H R => by
  refine wpAny_Call_method_lateS hb ?_ hline (wpAny_Name (ev_load R hx fun v hv => ?_) hd)
  · rw [starEach_plain _ _ rfl, backTo_plain]
    simp [backToKw, keywordEach]
  cases hv
  obtain ⟨vs, pl, hi⟩ := R.gs.deck.cells
  obtain ⟨ob, nn, eo, hcl, hdn, hdd⟩ := id pl
  refine ⟨"list", "list.pop", PySem.F.plainAttrs_list, PySem.F.slot_list_pop, PySem.F.type_list_pop, ⟨ob, eo, hcl⟩, fun a' e => by cases e; exact ⟨ob, eo, hdn⟩, ?_⟩
  rw [starEach_plain _ _ rfl, backTo_plain]
  refine callWith_builtin plain_args (evalArgs_all (spliced_cons (wpAny_Constant_int (spliced_nil ?_))))
  have kp : KeepA s { s with toks := s.toks + 1 } := .tok
  have G1 := R.gs.keep kp
  rw [hc] at hi
  obtain ⟨t, vs', rfl, hi'⟩ := hi.cons_inv
  obtain ⟨cls, dd, dat, sl⟩ := ob
  simp only at hcl hdn hdd
  subst hcl hdn hdd
  have hvz : (Value.int n t :: vs').length ≤ 2 ^ 10 := by have := hi'.length; rw [hc] at hz; simp only [List.length_cons] at hz ⊢; omega
  have hsz : 2 ^ 10 ≤ sizeLine := by decide
  refine call_meets (s := { s with toks := s.toks + 1 }) PySem.F.slot_list_pop ⟨_, eo, rfl⟩ PySem.F.entry_list_pop (PySem.F.args_list_pop_2 _ _) (list_pop_gen c _ nn none sl 0 s.toks 0 (.int n t) (by decide) (by simp [seqIndex?]) (by simp) (by simp only [List.size_toArray]; omega)) ⟨eo, ?_⟩
  have pl' := plainL_up pl (fun xs => xs.eraseIdxIfInBounds 0)
  have hs' : Heap.SameBut c s.heap (s.heap.update c (Obj.mapSeq fun xs => xs.eraseIdxIfInBounds 0)) := Heap.SameBut.update ..
  have D1 := G1.deck
  have e0 : (Value.int n t :: vs').toArray.eraseIdxIfInBounds 0 = vs'.toArray := by
    have := kl_erase [] vs' (Value.int n t)
    simpa using this
  rw [e0] at pl'
  obtain ⟨k2, G2⟩ := deck_keep (a := c) (δ' := (r, δ.2)) G1 (by simp) hs' ⟨D1.oc, D1.oe, D1.ce, isList_at D1.outer fun ob eo => hs'.extBut o ob D1.oc eo, ⟨vs', pl', hi'⟩, let ⟨t, a⟩ := D1.seed; ⟨t, plainL_at a fun ob eo => hs'.extBut e ob (Ne.symm D1.ce) eo⟩⟩
  exact ⟨_, _, kp.x.trans k2, G2, .int _ _, h⟩
end
/-! part L18 -/

theorem getAttrQ_miss_list {prog : Program} {w : World} {A : Around} {E : Value → Shared → Prop} {s : Shared} {a : Addr} {o : Obj} {xs : Array Value} {k : Nat} {name : Str} {Q : Option Value → Shared → Prop}
    (hx : s.heap.get? a = some o) (hc : o.cls = .type "list") (hdat : o.data = .seq xs k) (hd : o.dict = none) (hmiss : typeLookup (.type "list") name = pure none) (hname : (["__module__", "__name__", "__qualname__", "__doc__", "__annotations__"] : List Str).contains name = false) (hA : A.handled = none)
    (h : ∀ h' tk, (∀ b o, s.heap.get? b = some o → h'.get? b = some o) → Q none { s with heap := h', toks := tk }) (hsz : name.length + 100 ≤ sizeLine := by size_fits) :
    wpAny (model prog w) A (getAttr? (.ref a) name) Q E s := by
  obtain ⟨c, dct, dat, sl⟩ := o
  simp only at hc hdat hd
  subst hc hdat hd
  obtain ⟨hp, g, d, tk, os⟩ := s
  have hT : ∀ tk', (⟨hp, g, d, tk', os⟩ : Shared).TypeIs (.ref a) "list" := fun _ => ⟨_, hx, rfl⟩
  have f1 := sub_AttributeError
  have f3 := F.slot_list_getattribute.lookup
  have f4 := F.slot_list_getattribute.bind (.ref a)
  have f5 := am_list_getattr_none
  unfold getAttr? getAttrBy? getAttrBy
  repeat (any_goals (first | assumption | exact hT _ | ((with_reducible show wpAny _ _ (call (Value.builtin "list.__getattribute__") _ _) _ _ _); refine call_meets F.slot_list_getattribute (hT _) am_entry_list_getattribute (F.args_list_getattribute_2 _ _) (meets_getattribute_miss_list a xs k sl name _ hmiss hname hsz) ⟨hx, hA, fun h' tk' e hx' => ?_⟩) | wp_step))
  obtain ⟨t', u', he⟩ := hx'.there
  show wpAny _ _ (getattributeRaised _ _ _ _ _ _ _) _ _ _
  unfold getattributeRaised
  repeat (any_goals (first | assumption | wp_step))
  exact h _ _ hx'.keeps

theorem entry_dict_update_loop : entryFor table "dict.update.loop" = some Builtin.«dict.update.loop» := entryFor_of_tree (by kernel_rfl)
theorem plain_dict_update_loop : plainId "dict.update.loop" = true := by decide +kernel

theorem stored_rep {W : Wd} {H : List Addr} {h : Heap} {kvs : List (Int × Value)} {l : List (Int × D)} {k : Int} {v : Value} {d : D} (hk : kvs.map (·.1) = l.map (·.1)) (r' : RepAll W H h (kvs.map (·.2)) (l.map (·.2))) (r1' : Rep W H h v d) :
    (stored kvs k v).map (·.1) = (dset l k d).map (·.1) ∧ RepAll W H h ((stored kvs k v).map (·.2)) ((dset l k d).map (·.2)) := by
  have hany : kvs.any (fun kv => kv.1 = k) = l.any fun p => p.1 = k := by
    have := congrArg (List.any · (fun z => decide (z = k))) hk
    simpa [List.any_map, Function.comp_def] using this
  unfold stored dset
  rw [hany]
  split
  · clear hany
    induction kvs generalizing l with
    | nil => cases l with | nil => exact ⟨rfl, .nil⟩ | cons p l => simp at hk
    | cons p kvs ih =>
      cases l with
      | nil => simp at hk
      | cons p' l =>
        rename_i hh
        simp only [List.map_cons, List.cons.injEq] at hk
        cases r' with
        | cons ra rb =>
          obtain ⟨pk, pv⟩ := p
          obtain ⟨pk', pv'⟩ := p'
          simp only at hk ra
          obtain ⟨rfl, hk⟩ := hk
          have key : ∀ (kvs : List (Int × Value)) (l : List (Int × D)), kvs.map (·.1) = l.map (·.1) → RepAll W H h (kvs.map (·.2)) (l.map (·.2)) →
              (kvs.map (fun p => if p.1 = k then (p.1, v) else p)).map (·.1) = (l.map (fun p => if p.1 = k then (p.1, d) else p)).map (·.1) ∧ RepAll W H h ((kvs.map (fun p => if p.1 = k then (p.1, v) else p)).map (·.2)) ((l.map (fun p => if p.1 = k then (p.1, d) else p)).map (·.2)) := by
            intro kvs
            induction kvs with
            | nil => intro l hk _; cases l with | nil => exact ⟨rfl, .nil⟩ | cons p l => simp at hk
            | cons p kvs ih =>
              intro l hk r
              cases l with
              | nil => simp at hk
              | cons p' l =>
                simp only [List.map_cons, List.cons.injEq] at hk
                cases r with
                | cons ra rb =>
                  obtain ⟨e1, e2⟩ := ih l hk.2 rb
                  obtain ⟨pk, pv⟩ := p
                  obtain ⟨pk', pv'⟩ := p'
                  simp only at hk ra
                  obtain ⟨rfl, hk⟩ := hk
                  by_cases hpk : pk = k
                  · simp only [List.map_cons, hpk, if_true]
                    exact ⟨by simpa [hpk] using e1, .cons r1' e2⟩
                  · simp only [List.map_cons, if_neg hpk]
                    exact ⟨by simpa using e1, .cons ra e2⟩
          exact key ((pk, pv) :: kvs) ((pk, pv') :: l) (by simp [hk]) (.cons ra rb)
  · refine ⟨by simp [hk], ?_⟩
    simp only [List.map_append, List.map_cons, List.map_nil]
    exact r'.append (.cons r1' .nil)

section
variable {W : Wd} {H : List Addr} {A : Around}
theorem dict_loop {h0 : Heap} {l d it : Addr} {vs : List Value} {pairs : List (Int × D)} {R : Result → Shared → Prop} (hh : A.handled = none) (hq : RepAll W H h0 vs (pairs.map fun p => .tup [.int p.1, p.2])) (hl : h0.IsList l vs.toArray)
    (hd : h0.get? d = none) (hit : h0.get? it = none) (hne : d ≠ it) (hz : pairs.length ≤ 2 ^ 10) :
    ∀ (k i : Nat) (s : Shared) (kvs : List (Int × Value)) (ds : List (Int × D)), pairs.length - i = k → i ≤ pairs.length → (∀ b o, h0.get? b = some o → s.heap.get? b = some o) → s.heap.IsListIter it l i → s.heap.DictOf (intKind W.prog W.w) d kvs →
      kvs.map (·.1) = ds.map (·.1) → RepAll W H h0 (kvs.map (·.2)) (ds.map (·.2)) → ds.length ≤ i →
      (∀ s' kvs', Like s s' → (∀ b o, h0.get? b = some o → s'.heap.get? b = some o) → s'.heap.DictOf (intKind W.prog W.w) d kvs' → kvs'.map (·.1) = ((pairs.drop i).foldl (fun f p => dset f p.1 p.2) ds).map (·.1) →
        RepAll W H h0 (kvs'.map (·.2)) (((pairs.drop i).foldl (fun f p => dset f p.1 p.2) ds).map (·.2)) → R (.ok (.ret .none)) s') →
      codeAny (model W.prog W.w) A (.builtin "dict.update.loop" ⟨[.ref d, .ref it, rawInt i, .none], []⟩) R s := by
  have hvl : vs.length = pairs.length := by simpa using hq.length
  intro k
  induction k with
  | zero =>
    intro i s kvs ds hk hi keep hiter hD hke hr hdl hR
    have hin : i = pairs.length := by omega
    subst hin
    refine codeAny_builtin entry_dict_update_loop ?_
    rw [Around.under_plainId plain_dict_update_loop _]
    show wpAny _ A.in1 (pyNext (.ref it) >>= _) _ _ s
    refine wpAny_bind (wpAny_pyNext_list_end hh hiter (hl.at fun o e => keep l o e) (by simp [hvl]) fun h' he => ?_)
    show wpAny _ A.in1 (Builtin.Dict.addKeywords d [] >>= _) _ _ _
    refine wpAny_bind (wpAny_pure (wpAny_pure ?_))
    have k' : ∀ b o, h0.get? b = some o → h'.get? b = some o := fun b o e => he b o (fun q => by rw [q, hit] at e; cases e) (keep b o e)
    exact hR { s with heap := h' } kvs .refl k' (dictOf_at hD fun o e => he d o hne e) (by simpa using hke) (by simpa using hr)
  | succ k ih =>
    intro i s kvs ds hk hi keep hiter hD hke hr hdl hR
    have hlt : i < pairs.length := by omega
    have hvi : vs[i]? = some (vs[i]'(by omega)) := List.getElem?_eq_getElem (by omega)
    obtain ⟨dd, hdd, hrep⟩ := hq.get' hvi
    rw [List.getElem?_map, List.getElem?_eq_getElem hlt] at hdd
    simp only [Option.map_some, Option.some.injEq] at hdd
    subst hdd
    generalize hv : vs[i]'(by omega) = v at hvi hrep
    cases hrep with
    | tup n ht q =>
      rename_i t tvs
      cases q with
      | cons ra q =>
        cases q with
        | cons rb q =>
          cases q
          cases ra
          rename_i vb tok
          have hkz : kvs.length ≤ sizeLine := by
            have h1 : kvs.length = ds.length := by simpa using congrArg List.length hke
            have h2 : (2 : Nat) ^ 10 ≤ sizeLine := by decide
            omega
          have hdl2 : (dset ds pairs[i].1 pairs[i].2).length ≤ i + 1 := by
            have : (dset ds pairs[i].1 pairs[i].2).length ≤ ds.length + 1 := by unfold dset; split <;> simp
            omega
          refine codeAny_builtin entry_dict_update_loop ?_
          rw [Around.under_plainId plain_dict_update_loop _]
          show wpAny _ A.in1 (pyNext (.ref it) >>= _) _ _ s
          refine wpAny_bind (wpAny_pyNext_list_item hiter (hl.at fun o e => keep l o e) (x := .ref t) (by simpa using hvi) fun h' hiter' hs' => ?_)
          have k1 : ∀ b o, h0.get? b = some o → h'.get? b = some o := fun b o e => hs'.extBut b o (fun q => by rw [q, hit] at e; cases e) (keep b o e)
          have hD1 := dictOf_at hD fun o e => hs'.extBut d o hne e
          obtain ⟨o, ho, hc, e, hdata⟩ := isTup_at ht fun o e => k1 t o e
          refine wpAny_bind (wpAny_holding (wpAny_bind (wpAny_tryCatch ?_)))
          unfold Builtin.Dict.pairItems
          refine wpAny_bind (wpAny_typeOf (T := "tuple") ⟨o, ho, hc⟩ ?_)
          rw [if_pos (by decide)]
          refine wpAny_bind (wpAny_seqItems ho hdata (wpAny_pure ?_))
          show wpAny _ _ (holding [_, _] (dictSet d (.int _ tok) vb)) _ _ _
          refine wpAny_holding (wpAny_dictSet_pairs (intKind_is _ _ _ _) hD1 (fun h2 hD2 hs2 => ?_) hkz)
          have k2 : ∀ b o, h0.get? b = some o → h2.get? b = some o := fun b o e => hs2.extBut b o (fun q => by rw [q, hd] at e; cases e) (k1 b o e)
          obtain ⟨e1, e2⟩ := stored_rep hke hr rb
          have hdrop : pairs.drop i = pairs[i] :: pairs.drop (i + 1) := List.drop_eq_getElem_cons hlt
          rw [hdrop, List.foldl_cons] at hR
          refine wpAny_pure ⟨plainId_quiet plain_dict_update_loop _, ?_⟩
          have := ih (i + 1) { s with heap := h2, toks := s.toks + 1 } _ _ (by omega) hlt k2 (hiter'.extBut hs2.extBut (Ne.symm hne)) hD2 e1 e2 hdl2 hR
          exact this

theorem b_dictpairs {pairs : List (Int × D)} {K : D → Prop} (hz : pairs.length ≤ 2 ^ 10) (h : K (.dict (pairs.foldl (fun f p => dset f p.1 p.2) []))) : BltOK W (.type "dict") A [.list (pairs.map fun p => .tup [.int p.1, p.2])] K := blt1 fun E s H δ v hh _ _ G r => by
      obtain ⟨l, vs, rfl, n, pl, q⟩ := rep_list r
      refine callType_codes (Q₁ := fun obj s₁ => obj = .ref s.heap.objs.size ∧ s₁ = { s with heap := s.heap.push { cls := .type "dict", data := .dict #[] } }) F.kt_called_dict (F.kt_typeCall_dict_1 _) F.entry_dict_init (kt_code_dict_new _ ⟨rfl, rfl⟩) ?_
      rintro obj s₁ ⟨rfl, rfl⟩
      have hnew : (s.heap.push { cls := .type "dict", data := .dict #[] }).DictOf (intKind W.prog W.w) s.heap.objs.size [] := Heap.DictOf.new s.heap
      refine ⟨hnew.typeIs, F.args_dict_init_2 _ _, ?_⟩
      have pl1 : PlainL (s.heap.push { cls := .type "dict", data := .dict #[] }) l vs.toArray := plainL_at pl fun o e => Heap.get?_push_of_some _ e
      unfold Builtin.«dict.__init__»
      refine wpAny_bind ?_
      unfold Builtin.Dict.selfAndRest
      refine wpAny_bind (wpAny_notOrdered_dict hnew.typeIs ?_)
      show wpAny _ _ (pure (s.heap.objs.size, [Value.ref l])) _ _ _
      refine wpAny_pure ?_
      show wpAny _ _ (Builtin.Dict.updateFrom "dict.__init__" s.heap.objs.size (.ref l) [] .none) _ _ _
      unfold Builtin.Dict.updateFrom
      refine wpAny_bind (wpAny_typeOf (T := "list") pl1.isList.typeIs ?_)
      rw [if_pos (by decide)]
      obtain ⟨o, nn, eo, hc, hdn, hdd⟩ := id pl1
      refine wpAny_bind (getAttrQ_miss_list (name := "keys") eo hc hdd hdn (am_miss_of_fast (by kernel_rfl)) (by decide) hh fun h' tk hk => ?_)
      simp only [Option.isNone_none, if_true]
      refine wpAny_bind (wpAny_rule ?_)
      have pl2 : PlainL h' l vs.toArray := plainL_at pl1 fun o e => hk l o e
      refine wpAny_bind (wpAny_pyIter_list pl2.isList ?_)
      have hdnone : s.heap.get? s.heap.objs.size = Option.none := fresh_none
      have hdsome : ∃ o, h'.get? s.heap.objs.size = some o := ⟨_, hk _ _ (Heap.get?_push_size _ rfl)⟩
      have hlt : s.heap.objs.size < h'.objs.size := let ⟨o, e⟩ := hdsome; Heap.lt_size e
      have hitn : s.heap.get? h'.objs.size = Option.none := by
        cases e : s.heap.get? h'.objs.size with
        | none => rfl
        | some o => exact absurd (Heap.lt_size e) (Nat.lt_asymm hlt)
      refine wpAny_pure ⟨plainId_quiet plain_dict_update_loop _, ?_⟩
      refine dict_loop (A := A.in1) (W := W) (H := H) (h0 := s.heap) (vs := vs) (l := l) (pairs := pairs) (d := s.heap.objs.size) (it := h'.objs.size) (show A.in1.handled = none from hh) q pl.isList hdnone hitn (Nat.ne_of_lt hlt) hz pairs.length 0 _ [] [] (by omega) (Nat.zero_le _)
        ?_ ?_ ?_ rfl .nil (Nat.zero_le _) ?_
      · exact fun b o e => Heap.get?_push_of_some _ (hk b o (Heap.get?_push_of_some _ e))
      · exact ⟨_, Heap.get?_push_size _ rfl, rfl, rfl⟩
      · exact dictOf_at hnew fun o e => Heap.get?_push_of_some _ (hk _ o e)
      intro s' kvs' lk keep hD hke hr
      rw [List.drop_zero] at hke hr
      have KA : KeepA s s' := ⟨lk, keep⟩
      refine ⟨rfl, _, KA, .dict G.fresh G.big hD hke (hr.mono KA.tr), h⟩
end
/-! part S1 -/
/-! small sets of small ints: their tables -/
def tabM (l : List Int) : Nat := if l.length ≤ 4 then 7 else 31
def tabN (led : Bool) (l : List Int) : SetTable := { mask := tabM l, place := (l.map fun v => v.toNat % (tabM l + 1)).toArray, dummies := #[], finger := 0, led, moves := if l.length ≤ 4 then 0 else 1, plain := true }
def insL (p : Nat) (l : List Int) (v : Int) : List Int := l.take p ++ v :: l.drop p
def posL (l : List Int) (v : Int) : Nat := SetTable.below ((l.map fun v => v.toNat % (tabM l + 1)).toArray) (v.toNat % (tabM l + 1))
def chkFree (led : Bool) (l : List Int) (v : Int) : Bool := (tabN led l).freeSlot v == some (v.toNat % (tabM l + 1), false)
/-- the table of five just before it grows -/
def tab5 (led : Bool) (l : List Int) : SetTable := { mask := 7, place := (l.map fun v => v.toNat % 8).toArray, dummies := #[], finger := 0, led, moves := 0, plain := true }
def chkGrow (led : Bool) (l : List Int) : Bool := (tab5 led l).relaid l.toArray 20 == some (tabN led l, (List.range 5).toArray)
def chkWalk (l : List Int) : Bool := (List.range (l.length + 1)).all fun i => SetTable.below (l.map fun v => v.toNat % (tabM l + 1)).toArray (if i = 0 then 0 else (l.map fun v => v.toNat % (tabM l + 1)).getD (i - 1) 0 + 1) == i
def subs : List Int → List (List Int)
  | [] => [[]]
  | a :: r => subs r ++ (subs r).map (a :: ·)
theorem mem_subs {l U : List Int} (h : l.Sublist U) : l ∈ subs U := by
  induction h with
  | slnil => exact .head _
  | cons a _ ih => exact List.mem_append_left _ ih
  | cons_cons a _ ih => exact List.mem_append_right _ (List.mem_map.mpr ⟨_, ih, rfl⟩)
structure UOk (U : List Int) : Prop where
  nn : ∀ v ∈ U, 0 ≤ v ∧ v < 64
  len : U.length ≤ 8
  ins : ((subs U).all fun l => U.all fun v => l.contains v || (insL (posL l v) l v).isSublist U) = true
  free : ∀ led, ((subs U).all fun l => U.all fun v => l.contains v || chkFree led l v) = true
  grow : ∀ led, ((subs U).all fun l => l.length != 5 || chkGrow led l) = true
  walk : ((subs U).all chkWalk) = true
theorem uLab : UOk [10, 11, 12, 13] := ⟨by decide, by decide, by decide +kernel, by decide +kernel, by decide +kernel, by decide +kernel⟩
set_option profiler true
theorem uPl1 : ((subs [0, 1, 2, 3, 4, 5, 6, 7]).all fun l => [0, 1, 2, 3, 4, 5, 6, 7].all fun v => l.contains v || (insL (posL l v) l v).isSublist [0, 1, 2, 3, 4, 5, 6, 7]) = true := by decide +kernel
theorem uPl2 : ∀ led, ((subs [0, 1, 2, 3, 4, 5, 6, 7]).all fun l => [0, 1, 2, 3, 4, 5, 6, 7].all fun v => l.contains v || chkFree led l v) = true := by decide +kernel
theorem uPl3 : ∀ led, ((subs [0, 1, 2, 3, 4, 5, 6, 7]).all fun l => l.length != 5 || chkGrow led l) = true := by decide +kernel
theorem uPl4 : ((subs [0, 1, 2, 3, 4, 5, 6, 7]).all chkWalk) = true := by decide +kernel
theorem uPlace : UOk [0, 1, 2, 3, 4, 5, 6, 7] := ⟨by decide, by decide, uPl1, uPl2, uPl3, uPl4⟩
/-! part S2 -/
structure ElemsAt (es : List (Int × Value)) (l : List Int) : Prop where
  keys : es.map (·.1) = l
  vals : ∀ e ∈ es, ∃ t, e.2 = Value.int e.1 t
structure SetL (h : Heap) (a : Addr) (led : Bool) (l : List Int) (ep : Nat) (es : Array (Int × Value)) : Prop where
  at_ : h.get? a = some { cls := .type "set", dict := none, data := .set es ep (tabN led l), slots := #[] }
  el : ElemsAt es.toList l
theorem tabN_fits (led : Bool) {l : List Int} (h : l.length ≤ 8) : (tabN led l).fits l.length = true := by
  unfold SetTable.fits SetTable.fill tabN tabM
  simp only [List.size_toArray, List.length_map, List.length_nil, beq_self_eq_true, Bool.true_and, decide_eq_true_eq]
  split <;> omega
theorem ElemsAt.size {es : Array (Int × Value)} {l : List Int} (h : ElemsAt es.toList l) : es.size = l.length := by rw [← h.keys]; simp
section
variable {prog : Program} {w : World} {A : Around} {E : Value → Shared → Prop} {s : Shared} {U l : List Int} {led : Bool} {a : Addr}
theorem ElemsAt.of {es : List (Int × Value)} {l : List Int} (h : ElemsAt es l) (hn : ∀ v ∈ l, 0 ≤ v ∧ v < 64) : ElemsOf (intKind prog w) es := fun e he => by
  obtain ⟨t, ht⟩ := h.vals e he
  have hv : e.1 ∈ l := by rw [← h.keys]; exact List.mem_map_of_mem he
  refine ⟨⟨e.1, by rw [ht]; exact intKind_is _ _ _ _, ?_⟩, by rw [ht]; rfl⟩
  have := (by decide : ∀ k : Fin 64, hashInt (k.val : Int) = (k.val : Int)) ⟨e.1.toNat, by have := hn _ hv; omega⟩
  have e2 : ((e.1.toNat : Nat) : Int) = e.1 := by have := hn _ hv; omega
  simp only [e2] at this
  exact this.symm
theorem hash_small {v : Int} (hn : 0 ≤ v ∧ v < 64) : hashInt v = v := by
  have := (by decide : ∀ k : Fin 64, hashInt (k.val : Int) = (k.val : Int)) ⟨v.toNat, by omega⟩
  have e2 : ((v.toNat : Nat) : Int) = v := by omega
  simpa only [e2] using this
theorem sub_len (hU : UOk U) (hl : l.Sublist U) : l.length ≤ 8 := Nat.le_trans hl.length_le hU.len

theorem layNew_of (hU : UOk U) (hl : l.Sublist U) {v : Int} (hv : v ∈ U) (hn : v ∉ l) {es : Array (Int × Value)} (he : ElemsAt es.toList l) (t : Tok) :
    (layNew (tabN led l) es v (.int v t)).2.2 = (false, false) ∧ ElemsAt (layNew (tabN led l) es v (.int v t)).1.toList (insL (posL l v) l v) ∧
    (layNew (tabN led l) es v (.int v t)).2.1 = (if l.length = 4 then tab5 led (insL (posL l v) l v) else tabN led (insL (posL l v) l v)) := by
  have hlen := sub_len hU hl
  have hfree : (tabN led l).freeSlot v = some (v.toNat % (tabM l + 1), false) := by
    have := List.all_eq_true.mp (List.all_eq_true.mp (hU.free led) l (mem_subs hl)) v hv
    simpa [hn, chkFree] using this
  have hpl : ((tabN led l).place) = (l.map fun v => v.toNat % (tabM l + 1)).toArray := rfl
  have hlen2 : (insL (posL l v) l v).length = l.length + 1 := by unfold insL; simp; omega
  have hdu : SetTable.has (tabN led l).dummies (v.toNat % (tabM l + 1)) = false := by unfold SetTable.has tabN; simp
  have hput : (tabN led l).put (v.toNat % (tabM l + 1)) = ({ tabN led l with place := ((insL (posL l v) l v).map fun v => v.toNat % (tabM l + 1)).toArray }, posL l v) := by
    unfold SetTable.put
    simp only [hdu, Bool.false_eq_true, if_false]
    have hP : SetTable.insertAt (tabN led l).place (SetTable.below (tabN led l).place (v.toNat % (tabM l + 1))) (v.toNat % (tabM l + 1)) = ((insL (posL l v) l v).map fun v => v.toNat % (tabM l + 1)).toArray := by
      apply Array.toList_inj.mp
      rw [SetTable.toList_insertAt]
      show (l.map _).take (posL l v) ++ _ :: (l.map _).drop (posL l v) = _
      unfold insL
      rw [List.map_append, List.map_cons, List.map_take, List.map_drop]
    rw [hP]
    rfl
  have hes : (SetTable.insertAt es (posL l v) (v, Value.int v t)).toList = es.toList.take (posL l v) ++ (v, Value.int v t) :: es.toList.drop (posL l v) := SetTable.toList_insertAt ..
  have hsz : (SetTable.insertAt es (posL l v) (v, Value.int v t)).size = l.length + 1 := by
    rw [← Array.length_toList, hes]
    have := he.size
    rw [← Array.length_toList] at this
    simp only [List.length_append, List.length_cons, List.length_take, List.length_drop, this]; omega
  have hEl : ElemsAt (SetTable.insertAt es (posL l v) (v, Value.int v t)).toList (insL (posL l v) l v) := by
    rw [hes]
    refine ⟨?_, fun e hm => ?_⟩
    · unfold insL; rw [List.map_append, List.map_cons, List.map_take, List.map_drop, he.keys]
    · rcases List.mem_append.mp hm with hm | hm
      · exact he.vals e (List.mem_of_mem_take hm)
      · rcases List.mem_cons.mp hm with rfl | hm
        · exact ⟨t, rfl⟩
        · exact he.vals e (List.mem_of_mem_drop hm)
  have hfit : ({ tabN led l with place := ((insL (posL l v) l v).map fun v => v.toNat % (tabM l + 1)).toArray } : SetTable).fits (l.length + 1) = true := by
    unfold SetTable.fits SetTable.fill tabN tabM
    simp only [List.size_toArray, List.length_map, List.length_nil, hlen2, beq_self_eq_true, Bool.true_and, decide_eq_true_eq]
    have hlt : l.length < 8 := by
      have : (insL (posL l v) l v).Sublist U := by
        have := List.all_eq_true.mp (List.all_eq_true.mp hU.ins l (mem_subs hl)) v hv
        simpa [hn] using this
      have := this.length_le
      have := hU.len
      omega
    split <;> omega
  unfold layNew
  rw [hfree]
  simp only [hput, hsz, hfit, SetTable.orStandIn, if_true, Bool.not_true]
  refine ⟨trivial, hEl, ?_⟩
  split
  · rename_i h4
    unfold tab5 tabN tabM
    simp [h4]
  · rename_i h4
    unfold tabN tabM
    rw [hlen2]
    have c : (l.length ≤ 4) = (l.length + 1 ≤ 4) := propext ⟨fun _ => by omega, fun _ => by omega⟩
    simp only [c]
end
/-! part S3 -/
section
variable {prog : Program} {w : World} {A : Around} {E : Value → Shared → Prop} {s : Shared} {U l : List Int} {led : Bool} {a : Addr}
theorem ins_sub (hU : UOk U) (hl : l.Sublist U) {v : Int} (hv : v ∈ U) (hn : v ∉ l) : (insL (posL l v) l v).Sublist U := by
  have := List.all_eq_true.mp (List.all_eq_true.mp hU.ins l (mem_subs hl)) v hv
  simpa [hn] using this
theorem ins_len (p : Nat) (v : Int) : (insL p l v).length = l.length + 1 := by unfold insL; simp; omega
theorem ins_mem (p : Nat) (v x : Int) : x ∈ insL p l v ↔ x ∈ l ∨ x = v := by
  unfold insL
  rw [List.mem_append, List.mem_cons]
  have e : x ∈ l ↔ x ∈ l.take p ∨ x ∈ l.drop p := by rw [← List.mem_append, List.take_append_drop]
  rw [e]
  constructor
  · rintro (h | h | h)
    · exact .inl (.inl h)
    · exact .inr h
    · exact .inl (.inr h)
  · rintro ((h | h) | h)
    · exact .inl h
    · exact .inr (.inr h)
    · exact .inr (.inl h)
theorem relay_of (hU : UOk U) (hl : l.Sublist U) (h5 : l.length = 5) {es : Array (Int × Value)} (he : ElemsAt es.toList l) : relayAll (tab5 led l) es (SetTable.grown 5) = (es, tabN led l, false) := by
  have hr : (tab5 led l).relaid (es.map (·.1)) (SetTable.grown 5) = some (tabN led l, (List.range 5).toArray) := by
    have e : es.map (·.1) = l.toArray := by apply Array.toList_inj.mp; rw [Array.toList_map, he.keys]
    rw [e]
    have := List.all_eq_true.mp (hU.grow led) l (mem_subs hl)
    simpa [h5, chkGrow, SetTable.grown] using this
  have hs : es.size = 5 := he.size.trans h5
  unfold relayAll
  rw [hr]
  have e1 : (List.range 5).toArray.filterMap (fun i => es[i]?) = es := by
    apply Array.toList_inj.mp
    rw [Array.toList_filterMap]
    have := filterMap_getElem?_range es
    rw [hs] at this
    exact this
  simp only [e1, hs]
  have hf : (tabN led l).fits 5 = true := h5 ▸ tabN_fits led (sub_len hU hl)
  rw [hf]
  rfl
theorem setAdd_of (hU : UOk U) (hl : l.Sublist U) {v : Int} (hv : v ∈ U) {t : Tok} {ep : Nat} {es : Array (Int × Value)} (hS : SetL s.heap a led l ep es) {Q : Bool → Shared → Prop}
    (h : ∀ h' l' ep' es' b, Heap.SameBut a s.heap h' → l'.Sublist U → (∀ x, x ∈ l' ↔ x ∈ l ∨ x = v) → SetL h' a led l' ep' es' → Q b { s with heap := h', toks := s.toks + 1 }) :
    wpAny (model prog w) A (setAdd a (.int v t)) Q E s := by
  have hlen := sub_len hU hl
  have hnn : ∀ x ∈ l, 0 ≤ x ∧ x < 64 := fun x hx => hU.nn x (hl.subset hx)
  have hel : ElemsOf (intKind prog w) es.toList := hS.el.of hnn
  have hsz := hS.el.size
  have hf : (tabN led l).fits es.size = true := by rw [hsz]; exact tabN_fits led hlen
  have hb : es.size < scanBound := by rw [hsz]; unfold scanBound; omega
  have hk : (intKind prog w).is v (.int v t) = true := intKind_is _ _ _ _
  unfold setAdd
  refine wpAny_holding (wpAny_bind ((intKind prog w).pyHash (k := v) hk ?_))
  unfold setAddHashed setAddHashedIn
  refine wpAny_holding (wpAny_bind (wpAny_setState_of (s := { s with toks := s.toks + 1 }) hS.at_ rfl hf ?_))
  dsimp only
  rw [byScan_of (knd := intKind prog w) rfl hb hel]
  simp only [↓reduceIte]
  unfold setAddByScan
  refine wpAny_bind ?_
  refine wpAny_bind (wpAny_rule ?_)
  refine wpAny_bind (wpAny_setScan_of (s := { s with toks := s.toks + 1 }) hk hS.at_ rfl hf hel ?_)
  have hmem : v ∈ l ↔ ∃ e ∈ es.toList, (intKind prog w).is v e.2 = true := by
    rw [← hS.el.keys, List.mem_map]
    constructor
    · rintro ⟨e, he, rfl⟩
      obtain ⟨t', ht⟩ := hS.el.vals e he
      exact ⟨e, he, by rw [ht]; exact intKind_is _ _ _ _⟩
    · rintro ⟨e, he, hi⟩
      obtain ⟨t', ht⟩ := hS.el.vals e he
      obtain ⟨t2, e2⟩ := Value.isInt_shape hi
      rw [ht] at e2
      injection e2 with e3 _
      exact ⟨e, he, e3⟩
  cases hr : List.findIdx? (fun e => (intKind prog w).is v e.2) es.toList with
  | some j =>
    dsimp only
    obtain ⟨hj, hpj, _⟩ := List.findIdx?_eq_some_iff_getElem.mp hr
    have hvl : v ∈ l := hmem.mpr ⟨es.toList[j], List.getElem_mem hj, hpj⟩
    refine wpAny_pure (wpAny_pure ?_)
    exact h s.heap l ep es _ (Heap.SameBut.refl a s.heap) hl (fun x => ⟨.inl, fun q => q.elim id fun e => e ▸ hvl⟩) hS
  | none =>
    dsimp only
    have hvl : v ∉ l := fun q => by
      obtain ⟨e, he, hi⟩ := hmem.mp q
      have := List.findIdx?_eq_none_iff.mp hr e he
      rw [hi] at this; exact Bool.noConfusion this
    have hash : (intKind prog w).hash v = v := hash_small (hU.nn v hv)
    rw [hash]
    obtain ⟨n1, n2, n3⟩ := layNew_of (led := led) hU hl hv hvl hS.el t
    have hsub := ins_sub hU hl hv hvl
    have hil := ins_len (l := l) (posL l v) v
    have hsz1 := n2.size
    have hz1 : (layNew (tabN led l) es v (.int v t)).1.size ≤ sizeLine := by rw [hsz1, hil]; have : (16 : Nat) ≤ sizeLine := (by decide); omega
    have hpl : (layNew (tabN led l) es v (.int v t)).2.1.plain = true := by rw [n3]; split <;> rfl
    generalize layNew (tabN led l) es v (.int v t) = L at n1 n2 n3 hsz1 hz1 hpl ⊢
    obtain ⟨es1, t1, wasDummy, gave⟩ := L
    dsimp only at n1 n2 n3 hsz1 hz1 hpl ⊢
    cases n1
    refine wpAny_bind (wpAny_pure (a := ()) ?_)
    rw [if_pos hpl]
    refine wpAny_bind ?_
    rw [hashByValue_scannable 8 rfl]
    refine wpAny_pure ?_
    simp only [plainKind, ↓reduceIte]
    have hg : ∀ t2, (s.heap.update a (Obj.putSet es1 t2)).get? a = some { cls := .type "set", dict := none, data := .set es1 (ep + 1) t2, slots := #[] } := fun t2 => by
      have := Heap.get?_update_self (Obj.putSet es1 t2) hS.at_ (by rw [putSet_of es1 t2 rfl]; rfl)
      rw [putSet_of es1 t2 rfl] at this; exact this
    refine wpAny_bind (wpAny_storeSet_of (s := { s with toks := s.toks + 1 }) hS.at_ rfl ?_ hz1)
    by_cases h4 : l.length = 4
    · rw [if_pos h4] at n3
      subst n3
      have hfull : (tab5 led (insL (posL l v) l v)).tooFull = true := by
        unfold SetTable.tooFull SetTable.fill tab5
        simp only [List.size_toArray, List.length_map, List.length_nil, hil, h4]; decide
      rw [hfull]
      simp only [Bool.not_false, Bool.and_self, ↓reduceIte]
      have hr := relay_of (led := led) hU hsub (by rw [hil, h4]) n2
      rw [show es1.size = 5 by rw [hsz1, hil, h4], hr]
      refine wpAny_bind (wpAny_pure (a := ()) ?_)
      refine wpAny_bind (wpAny_storeSet_of (s := { s with heap := s.heap.update a (Obj.putSet es1 (tab5 led (insL (posL l v) l v))), toks := s.toks + 1 }) (hg _) rfl ?_ hz1)
      refine wpAny_pure (wpAny_pure ?_)
      refine h _ _ (ep + 1 + 1) es1 _ ((Heap.SameBut.update s.heap a (Obj.putSet es1 (tab5 led (insL (posL l v) l v)))).trans (Heap.SameBut.update _ a _)) hsub (ins_mem _ v) ⟨?_, n2⟩
      have := Heap.get?_update_self (Obj.putSet es1 (tabN led (insL (posL l v) l v))) (hg (tab5 led (insL (posL l v) l v))) (by rw [putSet_of es1 _ rfl]; rfl)
      rw [putSet_of es1 _ rfl] at this; exact this
    · rw [if_neg h4] at n3
      subst n3
      have hfull : (tabN led (insL (posL l v) l v)).tooFull = false := by
        have hl8 := sub_len hU hsub
        unfold SetTable.tooFull SetTable.fill tabN tabM
        simp only [List.size_toArray, List.length_map, List.length_nil, hil] at hl8 ⊢
        simp only [ge_iff_le, decide_eq_false_iff_not]
        split <;> omega
      rw [hfull]
      simp only [Bool.and_false, Bool.false_eq_true, ↓reduceIte]
      refine wpAny_pure (wpAny_pure ?_)
      exact h _ _ (ep + 1) es1 _ (Heap.SameBut.update s.heap a _) hsub (ins_mem _ v) ⟨hg _, n2⟩
end
/-! part S4 -/
section
variable {prog : Program} {w : World} {A : Around} {E : Value → Shared → Prop} {s : Shared} {U l : List Int} {led : Bool} {a : Addr}
theorem SetL.at' {h h' : Heap} {ep : Nat} {es : Array (Int × Value)} (x : SetL h a led l ep es) (k : ∀ o, h.get? a = some o → h'.get? a = some o) : SetL h' a led l ep es := ⟨k _ x.at_, x.el⟩
theorem set_loop (hU : UOk U) (hh : A.handled = none) {L S I : Addr} {items : Array Value} {ns : List Int} (hi : IntsAre items.toList ns) (hns : ∀ n ∈ ns, n ∈ U) (hSI : S ≠ I) (hSL : S ≠ L) (hLI : L ≠ I) {R : Result → Shared → Prop} :
    ∀ (k i : Nat) (s : Shared) (l : List Int) (ep : Nat) (es : Array (Int × Value)), items.size - i = k → i ≤ items.size → s.heap.IsListIter I L i → s.heap.IsList L items → l.Sublist U → (∀ x, x ∈ l ↔ x ∈ ns.take i) → SetL s.heap S led l ep es →
      (∀ h' tk l' ep' es', (∀ b o, b ≠ S → b ≠ I → s.heap.get? b = some o → h'.get? b = some o) → l'.Sublist U → (∀ x, x ∈ l' ↔ x ∈ ns) → SetL h' S led l' ep' es' → R (.ok (.ret .none)) { s with heap := h', toks := tk }) →
      codeAny (model prog w) A (.builtin "set.update.loop" ⟨[.ref S, .ref I], []⟩) R s := by
  have hnl : items.size = ns.length := by simpa using hi.length
  intro k
  induction k with
  | zero =>
    intro i s l ep es hk hile hit hls hl hm hS hR
    have hin : i = items.size := by omega
    subst hin
    refine codeAny_builtin PyProof.Rows.F.entry_set_update_loop ?_
    rw [Around.under_plainId PyProof.Rows.F.plain_set_update_loop _]
    show wpAny _ A.in1 (pyNext (.ref I) >>= _) _ _ s
    refine wpAny_bind (wpAny_pyNext_list_end hh hit hls (by simp) fun h' he => ?_)
    show wpAny _ A.in1 (ret Value.none) _ _ _
    exact wpAny_pure (hR h' s.toks l ep es (fun b o hb1 hb2 e => he b o hb2 e) hl (fun x => by rw [hm, hnl, List.take_length]) (hS.at' fun o e => he S o hSI e))
  | succ k ih =>
    intro i s l ep es hk hile hit hls hl hm hS hR
    have hlt : i < items.size := by omega
    refine codeAny_builtin PyProof.Rows.F.entry_set_update_loop ?_
    rw [Around.under_plainId PyProof.Rows.F.plain_set_update_loop _]
    show wpAny _ A.in1 (pyNext (.ref I) >>= _) _ _ s
    have hv : items[i]? = some items[i] := Array.getElem?_eq_getElem hlt
    obtain ⟨t, ht⟩ := IntsAre.int_at hi i items[i] (by rw [Array.getElem?_toList]; exact hv)
    have hin : i < ns.length := by omega
    have hni : ns.getD i 0 = ns[i] := by rw [List.getD_eq_getElem?_getD, List.getElem?_eq_getElem hin]; rfl
    rw [hni] at ht
    refine wpAny_bind (wpAny_pyNext_list_item hit hls (x := items[i]) hv fun h1 hit1 hs1 => ?_)
    rw [ht]
    show wpAny _ A.in1 (holding [_] (setAdd S (.int ns[i] t)) >>= _) _ _ _
    refine wpAny_bind (wpAny_holding (setAdd_of (s := { s with heap := h1 }) hU hl (hns _ (List.getElem_mem hin)) (hS.at' fun o e => hs1.extBut S o hSI e) fun h2 l2 ep2 es2 b hs2 hl2 hm2 hS2 => ?_))
    refine wpAny_pure ⟨plainId_quiet PyProof.Rows.F.plain_set_update_loop _, ?_⟩
    have k1 : ∀ b o, b ≠ S → b ≠ I → s.heap.get? b = some o → h2.get? b = some o := fun b o hb1 hb2 e => hs2.extBut b o hb1 (hs1.extBut b o hb2 e)
    refine ih (i + 1) { s with heap := h2, toks := s.toks + 1 } l2 ep2 es2 (by omega) hlt (hit1.extBut hs2.extBut (Ne.symm hSI)) (isList_at hls fun o e => k1 L o (Ne.symm hSL) hLI e) hl2 (fun x => ?_) hS2 fun h' tk l' ep' es' k' hl' hm' hS' => ?_
    · rw [hm2, hm, List.take_succ_eq_append_getElem hin, List.mem_append, List.mem_singleton]
    · exact hR h' tk l' ep' es' (fun b o hb1 hb2 e => k' b o hb1 hb2 (k1 b o hb1 hb2 e)) hl' hm' hS'

def ledW (w : World) : Bool := !(w.params.followText "set-order")
theorem set_newL (x : Value) {Q₁ : Value → Shared → Prop}
    (h : Q₁ (.ref s.heap.objs.size) { s with heap := s.heap.push { cls := .type "set", dict := none, data := .set #[] 0 (.fresh 0 0 (ledW w)) } }) :
    codeAny (model prog w) A (.call (.builtin "set.__new__") ⟨[.type "set", x], []⟩) (wants Q₁ E) s := by
  refine codeAny_of_tree ?_
  show wpAny _ A.in1 (do checkBuiltinCall "set.__new__" ⟨[.type "set", x], []⟩; again (.builtin "set.__new__" ⟨[.type "set", x], []⟩)) _ _ s
  refine wpAny_bind (wpAny_of_eq (PySem.F.newCall_set_1 x) (wpAny_pure ⟨plainId_quiet PySem.F.plain_set_new _, codeAny_builtin PySem.F.entry_set_new ?_⟩))
  rw [Around.under_plainId PySem.F.plain_set_new _]
  unfold Builtin.«set.__new__» Builtin.Frozenset.newClass
  have hsub := sub_set_self
  obtain ⟨hp, g, d, tk, os⟩ := s
  dsimp only
  wp_walk
  refine wpAny_askSetting (wpAny_pure ?_)
  dsimp only
  simp only [newObj]
  refine wpAny_bind (wpAny_alloc (wpAny_pure ?_))
  exact wpAny_pure h
end
/-! part S5 -/
section
variable {prog : Program} {w : World} {A : Around} {E : Value → Shared → Prop} {s : Shared} {U : List Int}
theorem call_setL (hU : UOk U) (hh : A.handled = none) {lst : Addr} {items : Array Value} {ns : List Int} {Q : Value → Shared → Prop} (hl : s.heap.IsList lst items) (hi : IntsAre items.toList ns) (hns : ∀ n ∈ ns, n ∈ U)
    (h : ∀ h' tk l ep es, s.heap.get? s.heap.objs.size = none → (∀ b o, s.heap.get? b = some o → h'.get? b = some o) → l.Sublist U → (∀ x, x ∈ l ↔ x ∈ ns) → SetL h' s.heap.objs.size (ledW w) l ep es → Q (.ref s.heap.objs.size) { s with heap := h', toks := tk }) :
    wpAny (model prog w) A (call (.type "set") [.ref lst]) Q E s := by
  obtain ⟨c, tl, hmro⟩ := PySem.F.called_set.mro
  have hmade := PySem.F.called_set.made
  have hsub := PySem.F.called_set.sub
  generalize hS0 : s.heap.objs.size = S at h
  have hSn : s.heap.get? S = none := by rw [← hS0]; exact fresh_none
  refine wpAny_call (codeAny_of_tree ?_)
  show wpAny _ _ (callAny (.type "set") _) _ _ _
  refine wpAny_pure ⟨Code.quiet_builtin _ (by decide +kernel), codeAny_builtin PySem.F.entry_type_call ?_⟩
  rw [Around.under_plain (weight_type_call_type "set" [.ref lst] []) rfl]
  have h1 := PySem.F.called_set.notType
  have h2 := PySem.F.called_set.canCreate
  have hct := PySem.F.typeCall_set_1 (.ref lst)
  repeat (any_goals (first | assumption | wp_step))
  refine codeAny_mono (set_newL (.ref lst) (E := E) (Q₁ := fun obj s₁ => obj = .ref S ∧ s₁ = { s with heap := s.heap.push { cls := .type "set", dict := none, data := .set #[] 0 (.fresh 0 0 (ledW w)) } }) ⟨by rw [hS0], rfl⟩) fun r s₁ hr => ?_
  cases r with
  | error e => exact hr
  | ok fl =>
    cases fl with
    | ret obj =>
      obtain ⟨rfl, rfl⟩ := hr
      have hS : (s.heap.push { cls := .type "set", dict := none, data := .set #[] 0 (.fresh 0 0 (ledW w)) }).get? S = some { cls := .type "set", dict := none, data := .set #[] 0 (.fresh 0 0 (ledW w)) } := by rw [← hS0]; exact Heap.get?_push_size _ rfl
      have hT : Shared.TypeIs { s with heap := s.heap.push { cls := .type "set", dict := none, data := .set #[] 0 (.fresh 0 0 (ledW w)) } } (.ref S) "set" := ⟨_, hS, rfl⟩
      have hli := PySem.F.called_set.init.lookup
      have hbi := PySem.F.called_set.init.bind (.ref S)
      repeat (any_goals (first | assumption | wp_step))
      refine codeAny_mono (codeAny_call_builtin (R := wants (fun r s₂ => r = .none ∧ ∃ h' tk l ep es, s₂ = { s with heap := h', toks := tk } ∧ (∀ b o, s.heap.get? b = some o → h'.get? b = some o) ∧ l.Sublist U ∧ (∀ x, x ∈ l ↔ x ∈ ns) ∧ SetL h' S (ledW w) l ep es) E)
        PySem.F.called_set.init.plain PySem.F.entry_set_init (check_set_init_1 hT ?_)) fun r₂ s₂ hr₂ => ?_
      · obtain ⟨ol, hol, hcl, nl, hdl⟩ := id hl
        obtain ⟨ocls, odict, odata, oslots⟩ := ol
        simp only at hcl hdl
        subst hcl; subst hdl
        have hol' : (s.heap.push { cls := .type "set", dict := none, data := .set #[] 0 (.fresh 0 0 (ledW w)) }).get? lst = some { cls := .type "list", dict := odict, data := .seq items nl, slots := oslots } := Heap.get?_push_of_some _ hol
        have hsls := PySem.F.sub_list_set
        have hslf := PySem.F.sub_list_frozenset
        have hne : (Value.type "list" == Value.type "dict") = false := by decide
        have hl1 : (s.heap.push { cls := .type "set", dict := none, data := .set #[] 0 (.fresh 0 0 (ledW w)) }).IsList lst items := ⟨_, hol', rfl, nl, rfl⟩
        unfold Builtin.«set.__init__» noKeywords Builtin.Frozenset.updateFrom
        generalize hPI : pyIter = PI
        wp_walk
        subst hPI
        refine wpAny_pyIter_list hl1 ?_
        refine wpAny_bind (wpAny_runValue ?_)
        have hlS : lst < s.heap.objs.size := Heap.lt_size hol
        have hsz : (s.heap.push { cls := .type "set", dict := none, data := .set #[] 0 (.fresh 0 0 (ledW w)) }).objs.size = S + 1 := by rw [Heap.size_push, hS0]
        have hSI : S ≠ (s.heap.push { cls := .type "set", dict := none, data := .set #[] 0 (.fresh 0 0 (ledW w)) }).objs.size := by rw [hsz]; exact Nat.ne_of_lt (Nat.lt_succ_self _)
        have hLI : lst ≠ (s.heap.push { cls := .type "set", dict := none, data := .set #[] 0 (.fresh 0 0 (ledW w)) }).objs.size := by rw [hsz, ← hS0]; exact Nat.ne_of_lt (Nat.lt_succ_of_lt hlS)
        refine set_loop (led := ledW w) hU (by simp [hh]) hi hns hSI (by rw [← hS0]; exact Nat.ne_of_gt hlS) hLI (items.size - 0) 0 _ [] 0 #[] (by omega) (Nat.zero_le _)
          ⟨_, Heap.get?_push_size _ rfl, rfl, rfl⟩ (hl1.push _) (List.nil_sublist _) (by simp) ⟨Heap.get?_push_of_some _ hS, rfl, fun e he => by simp at he⟩ fun h' tk l' ep' es' k' hl' hm' hS' => ?_
        show wpAny _ _ _ _ _ _
        refine wpAny_pure ?_
        show wpAny _ _ (ret Value.none) _ _ _
        refine wpAny_pure ⟨rfl, h', tk, l', ep', es', rfl, fun b o e => ?_, hl', hm', hS'⟩
        have hb : b < s.heap.objs.size := Heap.lt_size e
        exact k' b o (by rw [← hS0]; exact Nat.ne_of_lt hb) (by rw [hsz, ← hS0]; exact Nat.ne_of_lt (Nat.lt_succ_of_lt hb)) (Heap.get?_push_of_some _ (Heap.get?_push_of_some _ e))
      · cases r₂ with
        | error e => exact hr₂
        | ok fl₂ =>
          cases fl₂ with
          | ret r =>
            obtain ⟨rfl, h', tk, l', ep', es', rfl, k', hl', hm', hS'⟩ := hr₂
            repeat (any_goals (first | assumption | wp_step))
            exact h _ _ l' ep' es' hSn k' hl' hm' hS'
          | _ => exact hr₂.elim
    | _ => exact hr.elim
end
/-! part S6 -/
theorem slot_seti_next : Slot "set_iterator" "__next__" "set_iterator.__next__" :=
  .of (owner := "set_iterator") (n := "__next__") (by rw [typeLookup_type, builtinLookup_eq_fast]; kernel_rfl) (by decide +kernel) (by decide +kernel) (by decide +kernel)
    (by first | exact .inl (by decide +kernel) | exact .inr (by decide +kernel)) (by rw [isSubtype_type]; kernel_rfl)
theorem entry_seti_next : entryFor table "set_iterator.__next__" = some Builtin.«set_iterator.__next__» := entryFor_of_tree (by kernel_rfl)
theorem owner_seti : Manifest.owners.lookup (String.ofList ['r', 'o', 't', 'a', 'r', 'e', 't', 'i', '_', 't', 'e', 's'].reverse) = some Manifest.sig_set_iterator := by kernel_rfl
theorem args_seti_next (a : Value) : argsOk "set_iterator.__next__" ⟨[a], []⟩ := by
  unfold argsOk; rw [signature?_of (id := "set_iterator.__next__") (n := ['_', '_', 't', 'x', 'e', 'n', '_', '_']) (o := ['r', 'o', 't', 'a', 'r', 'e', 't', 'i', '_', 't', 'e', 's']) (by kernel_rfl) owner_seti]; kernel_rfl
theorem slot_seti_iter : Slot "set_iterator" "__iter__" "set_iterator.__iter__" :=
  .of (owner := "set_iterator") (n := "__iter__") (by rw [typeLookup_type, builtinLookup_eq_fast]; kernel_rfl) (by decide +kernel) (by decide +kernel) (by decide +kernel)
    (by first | exact .inl (by decide +kernel) | exact .inr (by decide +kernel)) (by rw [isSubtype_type]; kernel_rfl)
theorem entry_seti_iter : entryFor table "set_iterator.__iter__" = some Builtin.«dict_keyiterator.__iter__» :=
  entryFor_alias (id' := "dict_keyiterator.__iter__") (by kernel_rfl) rfl (by decide +kernel) (by kernel_rfl)
theorem args_seti_iter (a : Value) : argsOk "set_iterator.__iter__" ⟨[a], []⟩ := by
  unfold argsOk; rw [signature?_of (id := "set_iterator.__iter__") (n := ['_', '_', 'r', 'e', 't', 'i', '_', '_']) (o := ['r', 'o', 't', 'a', 'r', 'e', 't', 'i', '_', 't', 'e', 's']) (by kernel_rfl) owner_seti]; kernel_rfl
theorem entry_set_iterL : entryFor table "set.__iter__" = some Builtin.«frozenset.__iter__» :=
  entryFor_alias (id' := "frozenset.__iter__") (by kernel_rfl) rfl (by decide +kernel) (by kernel_rfl)

/-! the order of a walk -/
def ordE (w : World) (a ep : Nat) (es : Array (Int × Value)) : Array (Int × Value) := if w.params.followText "set-order" = true then pickOrder (w.params.setOrder a ep) es else es
theorem pick_go {α : Type} (next : Nat → Nat) : ∀ (fuel k : Nat) (left : List α) (out : Array α), fuel = left.length → (pickOrder.go next fuel k left out).toList.Perm (out.toList ++ left)
  | 0, k, left, out, h => by
    have : left = [] := List.length_eq_zero_iff.mp h.symm
    subst this
    unfold pickOrder.go
    simp
  | fuel + 1, k, left, out, h => by
    unfold pickOrder.go
    have hlt : next k % left.length < left.length := Nat.mod_lt _ (by omega)
    rw [List.getElem?_eq_getElem hlt]
    dsimp only
    refine (pick_go next fuel (k + 1) (left.eraseIdx (next k % left.length)) _ (by rw [List.length_eraseIdx_of_lt hlt]; omega)).trans ?_
    rw [Array.toList_push, List.append_assoc, List.singleton_append]
    refine List.Perm.append_left _ ?_
    rw [List.eraseIdx_eq_take_drop_succ]
    refine List.perm_middle.symm.trans ?_
    rw [List.getElem_cons_drop, List.take_append_drop]
theorem ordE_perm (w : World) (a ep : Nat) (es : Array (Int × Value)) : (ordE w a ep es).toList.Perm es.toList := by
  unfold ordE
  split
  · have := pick_go (w.params.setOrder a ep) es.size 0 es.toList #[] (by simp)
    simpa [pickOrder] using this
  · exact .rfl
/-! part S7 -/
def SetIt (h : Heap) (it a : Addr) (slot i n ep : Nat) : Prop := ∃ o, h.get? it = some o ∧ o.cls = .type "set_iterator" ∧ o.data = .fields #[.int slot 0, .int i 0, .ref a, .int n 0, .int ep 0]
theorem SetIt.typeIs {s : Shared} {it a : Addr} {slot i n ep : Nat} (x : SetIt s.heap it a slot i n ep) : s.TypeIs (.ref it) "set_iterator" := let ⟨o, ho, hc, _⟩ := x; ⟨o, ho, hc⟩
theorem SetIt.at' {h h' : Heap} {it a : Addr} {slot i n ep : Nat} (x : SetIt h it a slot i n ep) (k : ∀ o, h.get? it = some o → h'.get? it = some o) : SetIt h' it a slot i n ep := let ⟨o, ho, r⟩ := x; ⟨o, k _ ho, r⟩
def slotAt (led : Bool) (l : List Int) (i : Nat) : Nat := if led = true then (if i = 0 then 0 else (l.map fun v => v.toNat % (tabM l + 1)).getD (i - 1) 0 + 1) else 0
section
variable {prog : Program} {w : World} {A : Around} {E : Value → Shared → Prop} {s : Shared} {U l : List Int} {a : Addr} {ep : Nat} {es : Array (Int × Value)}
theorem SetL.typeIs {led : Bool} (x : SetL s.heap a led l ep es) : s.TypeIs (.ref a) "set" := ⟨_, x.at_, rfl⟩
theorem setState_of (hU : UOk U) (hl : l.Sublist U) {led : Bool} (hS : SetL s.heap a led l ep es) {Q : (Array (Int × Value) × Nat × SetTable) → Shared → Prop} (h : Q (es, ep, tabN led l) s) : wpAny (model prog w) A (setState a) Q E s :=
  wpAny_setState_of hS.at_ rfl (by rw [hS.el.size]; exact tabN_fits led (sub_len hU hl)) h
theorem setNext_of (hU : UOk U) (hl : l.Sublist U) (hS : SetL s.heap a (ledW w) l ep es) {i : Nat} (hi : i ≤ l.length) {Q : Option (Value × Nat) → Shared → Prop}
    (h : Q (((ordE w a ep es)[i]?).map fun e => (e.2, slotAt (ledW w) l (i + 1))) s) : wpAny (model prog w) A (setNext a (slotAt (ledW w) l i) i ep) Q E s := by
  unfold setNext
  refine wpAny_bind (setState_of hU hl hS ?_)
  dsimp only
  unfold setsByText
  refine wpAny_bind (wpAny_bind (wpAny_askSetting (wpAny_pure ?_)))
  dsimp only
  by_cases hb : w.params.followText "set-order" = true
  · have hb' : (model prog w).w.params.followText "set-order" = true := hb
    have hled : ledW w = false := by unfold ledW; rw [hb]; rfl
    rw [if_pos hb']
    rw [if_neg (by simp)]
    refine wpAny_bind ?_
    unfold setWalk
    refine wpAny_bind (setState_of hU hl hS ?_)
    dsimp only
    unfold setsByText
    refine wpAny_bind (wpAny_bind (wpAny_askSetting (wpAny_pure ?_)))
    dsimp only
    rw [if_pos hb']
    refine wpAny_bind (wpAny_askSetting (wpAny_pure ?_))
    dsimp only
    refine wpAny_pure ?_
    unfold ordE at h
    rw [if_pos hb] at h
    simp only [slotAt, hled] at h ⊢
    exact h
  · have hled : ledW w = true := by unfold ledW; simp [hb]
    have hb' : ¬ (model prog w).w.params.followText "set-order" = true := hb
    rw [if_neg hb', if_neg (fun q => Bool.noConfusion q)]
    unfold ordE at h
    rw [if_neg hb] at h
    rw [hled] at h ⊢
    refine wpAny_bind (wpAny_pure (a := ()) ?_)
    have hpl : (tabN true l).place = (l.map fun v => v.toNat % (tabM l + 1)).toArray := rfl
    have hbel : SetTable.below (tabN true l).place (slotAt true l i) = i := by
      rw [hpl]
      have := List.all_eq_true.mp (List.all_eq_true.mp hU.walk l (mem_subs hl)) i (by simp; omega)
      simpa [slotAt] using this
    rw [hbel]
    refine wpAny_pure ?_
    have hsz := hS.el.size
    by_cases hlt : i < l.length
    · rw [Array.getElem?_eq_getElem (by omega : i < es.size)] at h ⊢
      rw [hpl]
      simp only [List.getElem?_toArray, List.getElem?_map, List.getElem?_eq_getElem hlt, Option.map_some] at h ⊢
      simpa [slotAt, List.getD_eq_getElem?_getD, hlt] using h
    · rw [Array.getElem?_eq_none (by omega : es.size ≤ i)] at h ⊢
      exact h
end
/-! part S8 -/
section
variable {prog : Program} {w : World} {A : Around} {E : Value → Shared → Prop} {s : Shared} {U l : List Int} {a it : Addr} {ep : Nat} {es : Array (Int × Value)}
theorem ordE_size (hS : SetL s.heap a (ledW w) l ep es) : (ordE w a ep es).size = l.length := by
  rw [← Array.length_toList, (ordE_perm w a ep es).length_eq, Array.length_toList, hS.el.size]
theorem seti_set {h : Heap} {it a : Addr} {slot i n ep : Nat} {o : Obj} (ho : h.get? it = some o) (hc : o.cls = .type "set_iterator") (hd : o.data = .fields #[.int slot 0, .int i 0, .ref a, .int n 0, .int ep 0]) (slot' i' : Nat) :
    SetIt ((h.update it (Obj.mapFields (·.setIfInBounds 0 (rawInt slot')))).update it (Obj.mapFields (·.setIfInBounds 1 (rawInt i')))) it a slot' i' n ep ∧
    (h.update it (Obj.mapFields (·.setIfInBounds 0 (rawInt slot')))).get? it = some (Obj.mapFields (·.setIfInBounds 0 (rawInt slot')) o) ∧
    (Obj.mapFields (·.setIfInBounds 0 (rawInt slot')) o).data = .fields #[.int slot' 0, .int i 0, .ref a, .int n 0, .int ep 0] := by
  have d1 : (Obj.mapFields (·.setIfInBounds 0 (rawInt slot')) o).data = .fields #[.int slot' 0, .int i 0, .ref a, .int n 0, .int ep 0] := by rw [Obj.data_mapFields hd]; rfl
  have h1 := Heap.get?_update_self (Obj.mapFields (·.setIfInBounds 0 (rawInt slot'))) ho (Obj.isFreed_of_fields (Obj.data_mapFields hd _))
  have h2 := Heap.get?_update_self (Obj.mapFields (·.setIfInBounds 1 (rawInt i'))) h1 (Obj.isFreed_of_fields (Obj.data_mapFields d1 _))
  refine ⟨⟨_, h2, ?_, ?_⟩, h1, d1⟩
  · exact (Obj.cls_mapFields ..).trans ((Obj.cls_mapFields ..).trans hc)
  · rw [Obj.data_mapFields d1]; rfl
theorem seti_item (hU : UOk U) (hl : l.Sublist U) (hS : SetL s.heap a (ledW w) l ep es) {i : Nat} (hit : SetIt s.heap it a (slotAt (ledW w) l i) i l.length ep) {e : Int × Value} (he : (ordE w a ep es)[i]? = some e) {Q : Option Value → Shared → Prop}
    (hQ : ∀ h', SetIt h' it a (slotAt (ledW w) l (i + 1)) (i + 1) l.length ep → Heap.SameBut it s.heap h' → Q (some e.2) { s with heap := h' }) : wpAny (model prog w) A (pyNext (.ref it)) Q E s := by
  obtain ⟨o, ho, hc, hd⟩ := id hit
  have hlt : i < l.length := by
    have := (Array.getElem?_eq_some_iff.mp he).1
    rw [ordE_size hS] at this; exact this
  unfold pyNext
  refine wpAny_bind (wpAny_attempt (wpAny_callSpecial?_slot (name := Str.ofString "__next__") hit.typeIs slot_seti_next
    (wpAny_call_entry slot_seti_next hit.typeIs entry_seti_next ?_ (args_seti_next _))))
  unfold Builtin.«set_iterator.__next__»
  refine wpAny_bind (wpAny_pure ?_)
  refine wpAny_bind (wpAny_fieldsOf ho hd ?_)
  dsimp only
  unfold setEntries
  refine wpAny_bind (wpAny_bind (setState_of hU hl hS (wpAny_pure ?_)))
  rw [if_neg (by rw [hS.el.size]; simp)]
  simp only [Int.toNat_natCast]
  refine wpAny_bind (setNext_of hU hl hS (Nat.le_of_lt hlt) ?_)
  rw [he]
  simp only [Option.map_some]
  obtain ⟨x1, x2, x3⟩ := seti_set ho hc hd (slotAt (ledW w) l (i + 1)) (i + 1)
  refine wpAny_bind (wpAny_setField ho hd (by simp) ?_)
  refine wpAny_bind (wpAny_setField (s := { s with heap := s.heap.update it (Obj.mapFields (·.setIfInBounds 0 (rawInt (slotAt (ledW w) l (i + 1))))) }) x2 x3 (by simp) ?_)
  refine wpAny_pure ⟨_, rfl, wpAny_pure (hQ _ ?_ ((Heap.SameBut.update ..).trans (Heap.SameBut.update ..)))⟩
  exact x1
theorem seti_end (hh : A.handled = none) (hU : UOk U) (hl : l.Sublist U) (hS : SetL s.heap a (ledW w) l ep es) (hit : SetIt s.heap it a (slotAt (ledW w) l l.length) l.length l.length ep) {Q : Option Value → Shared → Prop}
    (hQ : ∀ h', Heap.ExtBut it s.heap h' → Q none { s with heap := h' }) : wpAny (model prog w) A (pyNext (.ref it)) Q E s := by
  obtain ⟨o, ho, hc, hd⟩ := id hit
  unfold pyNext
  refine wpAny_bind (wpAny_attempt (wpAny_callSpecial?_slot (name := Str.ofString "__next__") hit.typeIs slot_seti_next
    (wpAny_call_entry slot_seti_next hit.typeIs entry_seti_next ?_ (args_seti_next _))))
  unfold Builtin.«set_iterator.__next__»
  refine wpAny_bind (wpAny_pure ?_)
  refine wpAny_bind (wpAny_fieldsOf ho hd ?_)
  dsimp only
  unfold setEntries
  refine wpAny_bind (wpAny_bind (setState_of hU hl hS (wpAny_pure ?_)))
  rw [if_neg (by rw [hS.el.size]; simp)]
  simp only [Int.toNat_natCast]
  refine wpAny_bind (setNext_of hU hl hS (Nat.le_refl _) ?_)
  rw [Array.getElem?_eq_none (by rw [ordE_size hS]; exact Nat.le_refl _)]
  simp only [Option.map_none]
  refine wpAny_bind (wpAny_setField ho hd (by simp) ?_)
  show wpAny _ _ (newExc (.type "StopIteration") [] >>= _) _ _ _
  refine wpAny_bind ?_
  simp only [newExc, newTuple]
  refine wpAny_bind (wpAny_newObj_type ?_ (by size_fits))
  refine wpAny_bind (m := firstArgMember _ _) (wpAny_of_eq (a := Value.none) (by first | rfl | (simp only [firstArgMember]; rfl)) ?_)
  refine wpAny_newObj_type ?_ (by size_fits)
  simp only [raiseNew]
  refine wpAny_bind (wpAny_handled ?_)
  rw [show A.in1.handled = none from hh]
  refine wpAny_bind (wpAny_pure (wpAny_throw ?_))
  refine wpAny_bind (wpAny_isInstance (T := "StopIteration") (b := true) ⟨_, Heap.get?_push_size _ rfl, rfl⟩ isSubtype_stop ?_)
  exact wpAny_pure (hQ _ (((Heap.SameBut.update ..).extBut.push _).push _))
theorem set_iter (hU : UOk U) (hl : l.Sublist U) (hS : SetL s.heap a (ledW w) l ep es) {Q : Value → Shared → Prop}
    (hQ : Q (.ref s.heap.objs.size) { s with heap := s.heap.push { cls := .type "set_iterator", data := .fields #[.int 0 0, .int 0 0, .ref a, .int l.length 0, .int ep 0] } }) : wpAny (model prog w) A (pyIter (.ref a)) Q E s := by
  refine wpAny_pyIter_slot hS.typeIs PySem.F.slot_set_iter (wpAny_call_entry PySem.F.slot_set_iter hS.typeIs entry_set_iterL ?_ (PySem.F.args_set_iter_1 _))
  unfold Builtin.«frozenset.__iter__»
  refine wpAny_bind (wpAny_pure ?_)
  dsimp only
  unfold Builtin.Frozenset.sizeOf setEntries
  refine wpAny_bind (wpAny_bind (wpAny_bind (setState_of hU hl hS (wpAny_pure (wpAny_pure ?_)))))
  unfold setDrawn
  refine wpAny_bind (wpAny_bind (setState_of hU hl hS ?_))
  dsimp only
  unfold setsByText
  refine wpAny_bind (wpAny_bind (wpAny_askSetting (wpAny_pure ?_)))
  refine wpAny_pure ?_
  rw [if_neg (fun q => by
    have q' : (!(model prog w).w.params.followText "set-order" && false) = true := q
    simp at q')]
  refine wpAny_bind (wpAny_pure ?_)
  unfold setEpoch
  refine wpAny_bind (wpAny_bind (setState_of hU hl hS (wpAny_pure ?_)))
  unfold newFields
  refine wpAny_bind (wpAny_newObj_type (wpAny_pure ⟨_, rfl, "set_iterator", _, ⟨_, Heap.get?_push_size _ rfl, rfl⟩, slot_seti_next.lookup, ?_⟩))
  simpa [rawInt, hS.el.size] using hQ
theorem set_hint (hT : s.TypeIs (.ref a) "set") {Q : Bool → Shared → Prop} (h : Q false s) : wpAny (model prog w) A (Builtin.List.listLengthHint (.ref a)) Q E s := by
  unfold Builtin.List.listLengthHint
  refine wpAny_bind (wpAny_specialOf hT PySem.F.slot_set_len.lookup ?_)
  generalize hid : ("set.__len__" : String) = id0
  wp_delta
  rw [show splitId id0 = some ("set", "__len__") from by subst hid; decide +kernel]
  subst hid
  refine wpAny_bind (wpAny_isInstance (T := "set") (b := true) hT sub_set_self ?_)
  refine wpAny_ite_split (fun hab => absurd hab (by decide)) (fun _ => ?_)
  refine wpAny_ite_split (fun _ => ?_) (fun hab => absurd (by decide +kernel) hab)
  exact wpAny_bind (wpAny_typeOf hT (wpAny_pure h))
theorem seti_self {slot i n : Nat} (hit : SetIt s.heap it a slot i n ep) {Q : Value → Shared → Prop} (h : Q (.ref it) s) : wpAny (model prog w) A (pyIter (.ref it)) Q E s := by
  refine wpAny_pyIter_slot hit.typeIs slot_seti_iter (wpAny_call_entry slot_seti_iter hit.typeIs entry_seti_iter ?_ (args_seti_iter _))
  show wpAny _ _ (ret (.ref it)) _ _ s
  exact wpAny_pure ⟨_, rfl, "set_iterator", _, hit.typeIs, slot_seti_next.lookup, h⟩
theorem set_walks (hh : A.handled = none) (hU : UOk U) (hl : l.Sublist U) (hne : a ≠ it) :
    Walks prog w A it [it, a] [it] l.length (fun i v => ∃ e, (ordE w a ep es)[i]? = some e ∧ v = e.2) (fun i h => SetIt h it a (slotAt (ledW w) l i) i l.length ep ∧ SetL h a (ledW w) l ep es) where
  sub := fun b hb => by simp at hb; simp [hb]
  frame := fun _ _ _ st hk => ⟨st.1.at' fun o e => hk it (by simp) o e, st.2.at' fun o e => hk a (by simp) o e⟩
  item := fun i s Q E hi st hQ => by
    have hlt : i < (ordE w a ep es).size := by rw [ordE_size st.2]; exact hi
    refine seti_item hU hl st.2 st.1 (Array.getElem?_eq_getElem hlt) fun h' hit' hs' => ?_
    exact hQ _ h' s.toks ⟨_, Array.getElem?_eq_getElem hlt, rfl⟩ ⟨hit', st.2.at' fun o e => hs'.extBut a o hne e⟩ fun b o hb e => hs'.extBut b o (fun q => hb (by simp [q])) e
  done := fun s Q E st hQ => seti_end hh hU hl st.2 st.1 fun h' he' => hQ h' s.toks fun b o hb e => he' b o (fun q => hb (by simp [q])) e
  self := fun _ _ _ _ st hQ => seti_self st.1 hQ
theorem set_src (hU : UOk U) (hl : l.Sublist U) : KdlSrc prog w "set" a a l.length (fun i v => ∃ e, (ordE w a ep es)[i]? = some e ∧ v = e.2) (fun h => SetL h a (ledW w) l ep es) where
  type := fun _ hm => hm.typeIs
  there := fun _ hm => ⟨Heap.lt_size hm.at_, Heap.lt_size hm.at_⟩
  keep := fun _ _ hm hk => hm.at' fun o e => hk a (.inl rfl) o e
  notList := by decide
  notTuple := by decide
  hint := fun _ _ _ _ hm hq => set_hint hm.typeIs hq
  iter := fun _ _ hh hm => ⟨_, _, fun _ _ hq => set_iter hU hl hm hq, set_walks hh hU hl (Nat.ne_of_lt (Heap.lt_size hm.at_)), ⟨⟨_, Heap.get?_push_size _ rfl, rfl, by simp [slotAt]⟩, hm.at' fun o e => Heap.get?_push_of_some _ e⟩⟩
theorem items_set (hS : SetL s.heap a (ledW w) l ep es) {acc : Array Value} (x : ItemsOf (fun i v => ∃ e, (ordE w a ep es)[i]? = some e ∧ v = e.2) acc l.length) : IntsAre acc.toList ((ordE w a ep es).toList.map (·.1)) ∧ ((ordE w a ep es).toList.map (·.1)).Perm l := by
  refine ⟨?_, by have := (ordE_perm w a ep es).map (·.1); rw [hS.el.keys] at this; exact this⟩
  obtain ⟨hz, hx⟩ := x
  have hv : ∀ e ∈ (ordE w a ep es).toList, ∃ t, e.2 = Value.int e.1 t := fun e he => hS.el.vals e ((ordE_perm w a ep es).mem_iff.mp he)
  have hsz := ordE_size hS
  have key : ∀ (vs : List Value) (el : List (Int × Value)), (∀ e ∈ el, ∃ t, e.2 = Value.int e.1 t) → vs = el.map (·.2) → IntsAre vs (el.map (·.1)) := by
    intro vs el
    induction el generalizing vs with
    | nil => rintro _ rfl; exact .nil
    | cons e r ih =>
      rintro h rfl
      obtain ⟨t, ht⟩ := h e List.mem_cons_self
      rw [List.map_cons, List.map_cons, ht]
      exact .cons _ _ (ih _ (fun e he => h e (List.mem_cons_of_mem _ he)) rfl)
  refine key _ _ hv (List.ext_getElem? fun i => ?_)
  rw [List.getElem?_map]
  by_cases hi : i < l.length
  · have ha : acc.toList[i]? = some (acc.toList[i]'(by simpa using hz ▸ hi)) := List.getElem?_eq_getElem _
    obtain ⟨e, he, hve⟩ := hx i _ (by rw [← Array.getElem?_toList]; exact ha)
    rw [ha, Array.getElem?_toList, he, hve]; rfl
  · rw [List.getElem?_eq_none (by simp; omega), List.getElem?_eq_none (by simp; omega)]; rfl
end
/-! part S9 -/
section
variable {W : Wd} {C : FC} {m : Map} {δ : W.Δ} {K : D → W.Δ → Prop}
/-- sorted(set(e)), e a list of small ints -/
theorem ev_sorted_set {f g : Str} {fp gp pos pos2 : Pos} {e : Expr} {U : List Int} (hU : UOk U) (hUn : U.Nodup) (hgl : W.mg f = none) (hfl : W.mb f = some (.builtin "sorted")) (hgr : W.mg g = none) (hfr : W.mb g = some (.type "set"))
    (h : evW W C e (fun a δ₁ => ∃ xs : List Int, a = .list (dints xs) ∧ (∀ x ∈ xs, x ∈ U) ∧ ∀ l' : List Int, l'.Pairwise (· ≤ ·) → l'.Nodup → (∀ x, x ∈ l' ↔ x ∈ xs) → K (.list (dints l')) δ₁) m δ)
    (hk : C.env.kindOf f = some .globalImplicit := by rfl) (hk' : C.env.kindOf g = some .globalImplicit := by rfl)
    (hs : noStar [e] = true := by rfl) (hd : (f == ("__debug__" : Str)) = false := by decide) (hd' : (g == ("__debug__" : Str)) = false := by decide) : evW W C (.Call (.Name f fp) [.Call (.Name g gp) [e] [] pos2] [] pos) K m δ := fun E s H R => by
  refine Call_ (builtin_name R hk hgl hfl ?_ hd)
  rw [starEach_plain _ _ rfl, backTo_plain]
  refine callWith_builtin plain_args (evalArgs_all (spliced_cons ?_))
  refine Call_ (builtin_name R hk' hgr hfr ?_ hd')
  rw [starEach_plain _ _ hs, backTo_plain]
  refine PyProof.Rows.callWith_type plain_args (evalArgs_all (spliced_cons (wpAny_mono (h E s H R) ?_ fun _ _ e => e)))
  rintro x s1 ⟨a, δ1, k1, G1, r1, xs, rfl, hx, h1⟩
  cases r1 with
  | list n pl q =>
    have hh : C.A.handled = none := R.hh
    refine spliced_nil (call_setL hU hh pl.isList (by simpa using rep_ints q) hx fun h2 tk2 l ep es hnone keep hl hm hS => ?_)
    have k2 : KeepA s1 { s1 with heap := h2, toks := tk2 } := ⟨.refl, keep⟩
    have hlen := sub_len hU hl
    have hperm : ((ordE W.w s1.heap.objs.size ep es).toList.map (·.1)).Perm l := by have := (ordE_perm W.w s1.heap.objs.size ep es).map (·.1); rw [hS.el.keys] at this; exact this
    refine spliced_nil (sorted_of (ns := (ordE W.w s1.heap.objs.size ep es).toList.map (·.1)) (by rw [hperm.length_eq]; omega)
      (fun E' Q' hQ => collect_src (A := C.A.in1) (set_src hU hl) hh hS (by have : (16 : Nat) ≤ sizeLine := (by decide); omega) fun h' tk acc' hk hI => hQ h' tk acc'.toList hk (items_set (s := { s1 with heap := h2, toks := tk2 }) hS hI).1) ?_)
    intro h' tk b vs' ns' hb hk he a1 a2 a3
    obtain ⟨e', he⟩ := he
    have k3 : KeepA { s1 with heap := h2, toks := tk2 } { s1 with heap := h', toks := tk } := ⟨.refl, hk⟩
    have G2 := G1.keep k2
    refine ⟨_, δ1, (k1.trans k2.x).trans k3.x, G2.keep k3, .list (vs := vs') (fun q => ?_) ⟨_, e', he, rfl, rfl, rfl⟩ (dints_rep a1), h1 ns' a3 ?_ fun x => ?_⟩
    · obtain ⟨o, e⟩ := G2.hex _ q
      rw [hb] at e; cases e
    · exact (a2.trans hperm).nodup_iff.mpr (hUn.sublist hl)
    · rw [(a2.trans hperm).mem_iff]; exact hm x
end
/-! part T1 -/
/-! insert into a list that is being made -/
def insF (x : Int) (y : Value) (xs : Array Value) : Array Value := (xs.extract 0 (if x < 0 then (x + (xs.size : Int)).toNat else min x.toNat xs.size)).push y ++ xs.extract (if x < 0 then (x + (xs.size : Int)).toNat else min x.toNat xs.size)
theorem size_ins (xs : Array Value) (y : Value) (k : Nat) : ((xs.extract 0 k).push y ++ xs.extract k).size ≤ xs.size + 1 := by
  simp only [Array.size_append, Array.size_push, Array.size_extract]; omega
theorem list_insert_gen (l : Addr) (items : Array Value) (n : Nat) (dd : Option Addr) (sl : Array (Option Value)) (x : Int) (u : Tok) (y : Value) (hc0 : ¬(!Builtin.List.listFitsIndex x) = true) (hs1 : items.size ≤ sizeLine) :
    Meets (Builtin.«list.insert» ⟨[.ref l, .int x u, y], []⟩) (fun _ R s => s.heap.get? l = some { cls := .type "list", dict := dd, data := .seq items n, slots := sl } ∧ R (.ok (.ret Value.none)) { s with heap := s.heap.update l (Obj.mapSeq (insF x y)) }) :=
  .of_wp fun prog w A R s h => by
    obtain ⟨hp, g, d, tk, os⟩ := s; obtain ⟨hl, h⟩ := h
    have hz' : ((fun xs : Array Value => have k := if x < 0 then (x + (xs.size : Int)).toNat else min x.toNat xs.size; (xs.extract 0 k).push y ++ xs.extract k) items).size ≤ sizeLine + 1 := Nat.le_trans (size_ins items _ _) (Nat.add_le_add_right hs1 1)
    wp_walk using (wpAny_updateSeq hl rfl (hz := hs1) (_hz' := hz')), wpAny_loadPart' hl
    exact ⟨_, rfl, h⟩
theorem call_insert {prog : Program} {w : World} {A : Around} {E : Value → Shared → Prop} {s : Shared} {a : Addr} {vs : List Value} {x : Int} {t : Tok} {v : Value} {Q : Value → Shared → Prop} (pl : PlainL s.heap a vs.toArray) (h0 : 0 ≤ x) (hi : x ≤ (vs.length : Int)) (hz : vs.length < 1048576)
    (hQ : ∀ h', PlainL h' a (vs.take x.toNat ++ v :: vs.drop x.toNat).toArray → Heap.SameBut a s.heap h' → Q .none { s with heap := h' }) : wpAny (model prog w) A (call (.builtin "list.insert") [.ref a, .int x t, v]) Q E s := by
  obtain ⟨⟨cls, dd, dat, sl⟩, nn, eo, hcl, hdn, hdd⟩ := id pl
  simp only at hcl hdn hdd
  subst hcl hdn hdd
  have hsz : 1048576 ≤ sizeLine := by decide
  have hfit : ¬(!Builtin.List.listFitsIndex x) = true := by
    have : Builtin.List.listFitsIndex x = true := fitsIndex_of h0 (by omega)
    rw [this]; simp
  have hvz : vs.toArray.size ≤ sizeLine := by simp only [List.size_toArray]; omega
  have e0 : insF x v vs.toArray = (vs.take x.toNat ++ v :: vs.drop x.toNat).toArray := by
    unfold insF
    have h1 : ¬ (x < 0) := by omega
    have h2 : min x.toNat vs.length = x.toNat := by omega
    simp only [h1, if_false, List.size_toArray, h2]
    apply Array.toList_inj.mp
    simp [List.extract_eq_take_drop, List.take_of_length_le]
  have pl3 := plainL_up pl (insF x v)
  rw [e0] at pl3
  exact call_meets PySem.F.slot_list_insert ⟨_, eo, rfl⟩ PySem.F.entry_list_insert (PySem.F.args_list_insert_3 _ _ _) (list_insert_gen a vs.toArray nn none sl x t v hfit hvz) ⟨eo, hQ _ pl3 (Heap.SameBut.update ..)⟩
section
variable {W : Wd} {C : FC} {m : Map} {δ : W.Δ} {P : Fl → Map → W.Δ → Prop}
theorem RepAll.ins {H : List Addr} {h : Heap} {vs : List Value} {ds : List D} {v : Value} {d : D} (r : RepAll W H h vs ds) (k : Nat) (rv : Rep W H h v d) : RepAll W H h (vs.take k ++ v :: vs.drop k) (ds.take k ++ d :: ds.drop k) :=
  (r.take k).append (.cons rv (r.drop k))
theorem ex_insert {x : Str} {xp ap cp pos : Pos} {e1 e2 : Expr} {a : Addr} {l : List D} (hx : m x = some (.own a (.list l))) (hl : l.length < 1048576)
    (h : evW W C e1 (fun d1 δ1 => evW W C e2 (fun d δ' => ∃ i : Nat, d1 = .int i ∧ i ≤ l.length ∧ P .next (upd m x (.own a (.list (l.take i ++ d :: l.drop i)))) δ') m δ1) m δ)
    (hline : (ap.endLine == cp.line) = true := by rfl) (hs : noStar [e1, e2] = true := by rfl) (hi : interactive C.env = false := by rfl)
    (hsw : swapsWith (.Call (.Attribute (.Name x xp) "insert" ap) [e1, e2] [] cp) none pos.line C.env = pure false := by rfl)
    (hb : attributeBase (.Name x xp) "insert" C.env (eval (.Name x xp) C.env) = eval (.Name x xp) C.env := by rfl)
    (hd : (x == ("__debug__" : Str)) = false := by decide) :
    exW W C (.Expr (.Call (.Attribute (.Name x xp) "insert" ap) [e1, e2] [] cp) pos) P m δ := fun E s H R => by
  refine wpAny_Expr ?_ hi hsw
  refine wpAny_Call_method_lateS hb ?_ hline ?_
  · rw [starEach_plain _ _ hs, backTo_plain]
    simp [backToKw, keywordEach]
  refine own_ref R hx (fun en => ?_) hd
  obtain ⟨_, vs, pl, r⟩ := en
  obtain ⟨ob, nn, eo, hcl, hdn, hdd⟩ := id pl
  refine ⟨"list", "list.insert", PySem.F.plainAttrs_list, PySem.F.slot_list_insert, PySem.F.type_list_insert, ⟨ob, eo, hcl⟩, fun a' e => by cases e; exact ⟨ob, eo, hdn⟩, ?_⟩
  rw [starEach_plain _ _ hs, backTo_plain]
  refine callWith_builtin plain_args (evalArgs_all (spliced_cons (wpAny_mono (h E s H R) ?_ fun _ _ e => e)))
  rintro u1 s1 ⟨d1, δ1, k1, G1, r1, h1⟩
  have R1 := R.keepX k1 G1
  refine spliced_cons (wpAny_mono (h1 E s1 H R1) ?_ fun _ _ e => e)
  rintro v s2 ⟨d, δ2, k2, G2, r2, i, rfl, hil, h2⟩
  cases r1
  rename_i tk
  refine spliced_nil ?_
  have R2 := R1.keepX k2 G2
  have k12 := k1.trans k2
  have aH := R.own x a _ hx
  have eo2 : s2.heap.get? a = some ob := k12.2 _ _ eo aH.2.1
  have hvl : vs.length = l.length := r.length
  have pl2 : PlainL s2.heap a vs.toArray := ⟨ob, nn, eo2, hcl, hdn, hdd⟩
  show wpAny (model W.prog W.w) C.A (call (.builtin "list.insert") [.ref a, .int (i : Int) tk, v]) _ E s2
  refine call_insert (x := (i : Int)) pl2 (by omega) (by omega) (by omega) fun h' pl3 hs' => ?_
  rw [Int.toNat_natCast] at pl3
  have tr : Trans H s2.heap H h' := fun b o e n => ⟨hs'.extBut b o (fun q => n (q ▸ aH.1)) e, n⟩
  obtain ⟨R3, F3⟩ := R2.mutOwn (d' := .list (l.take i ++ d :: l.drop i)) (tk := s2.toks) hx hs' (let ⟨o, n, e, _⟩ := pl3; ⟨o, e⟩) ⟨rfl, _, pl3, ((r.mono (k12.tr R.gs)).mono tr).ins i (r2.mono tr)⟩
  exact ⟨H, _, δ2, (Fm.ofX k12).trans R R2 F3, R3, h2⟩
end
/-! part T2 -/
structure Deck2At (h : Heap) (o c : Addr) (cs : List Int) (i : Int) : Prop where
  oc : o ≠ c
  outer : ∃ t, PlainL h o #[.ref c, .int i t]
  cells : ∃ vs : List Value, PlainL h c vs.toArray ∧ IntsAre vs cs
abbrev deck2 (W : Wd) (o c : Addr) (cs : List Int) : Wd :=
  { W with root := fun _ => o, da := [o, c], Δ := Int, rel := fun h i => Deck2At h o c cs i, stable := fun h h' δ k d => ⟨d.oc, let ⟨t, a⟩ := d.outer; ⟨t, plainL_at a fun ob eo => k o (by simp) ob eo⟩, let ⟨vs, a, b⟩ := d.cells; ⟨vs, plainL_at a fun ob eo => k c (by simp) ob eo, b⟩⟩ }
section
variable {W0 : Wd} {o c : Addr} {cs : List Int} {C : FC} {m : Map} {δ : Int}
theorem ev_deck_i {x : Str} {p ip pos : Pos} {k : Nat} {K : D → Int → Prop} (hx : m x = some (.val (.deck 0))) (h : K (.int δ) δ)
    (hd : (x == ("__debug__" : Str)) = false := by decide)
    (hs : ∀ o j, subscripted (.Constant (.int 1) k ip) false o j = operate [o, j] (getItem o j) := by intro _ _; with_unfolding_all rfl) :
    evW (deck2 W0 o c cs) C (.Subscript (.Name x p) (.Constant (.int 1) k ip) pos) K m δ := fun E s H R => by
  refine Subscript_ (wpAny_Name (ev_load R hx fun v hv => ?_) hd)
  cases hv
  refine wpAny_Constant_int ?_
  have kp : KeepA s { s with toks := s.toks + 1 } := .tok
  obtain ⟨t, pl⟩ := R.gs.deck.outer
  exact tail_any (s := { s with toks := s.toks + 1 }) pl.isList.typeIs slot_list_getitem.lookup (wpAny_getItem_list (x := .int δ t) pl.isList (by decide) (by decide) (by simp) ⟨_, δ, kp.x, R.gs.keep kp, .int _ _, h⟩) (hs _ _)
/-- deck[0] as a raw value -/
theorem deck_cells {x : Str} {p ip pos : Pos} {k : Nat} {E : Value → Shared → Prop} {s : Shared} {H : List Addr} {Q : Value → Shared → Prop} (R : Rel (deck2 W0 o c cs) C H m δ s) (hx : m x = some (.val (.deck 0))) (h : Q (.ref c) { s with toks := s.toks + 1 })
    (hd : (x == ("__debug__" : Str)) = false := by decide)
    (hs : ∀ o j, subscripted (.Constant (.int 0) k ip) false o j = operate [o, j] (getItem o j) := by intro _ _; with_unfolding_all rfl) :
    wpAny (model (deck2 W0 o c cs).prog (deck2 W0 o c cs).w) C.A (eval (.Subscript (.Name x p) (.Constant (.int 0) k ip) pos) C.env) Q E s := by
  refine Subscript_ (wpAny_Name (ev_load R hx fun v hv => ?_) hd)
  cases hv
  refine wpAny_Constant_int ?_
  obtain ⟨t, pl⟩ := R.gs.deck.outer
  exact tail_any (s := { s with toks := s.toks + 1 }) pl.isList.typeIs slot_list_getitem.lookup (wpAny_getItem_list (x := .ref c) pl.isList (by decide) (by decide) (by simp) h) (hs _ _)
theorem ev_deck_cell {x : Str} {p ip ip2 pos : Pos} {k : Nat} {e : Expr} {K : D → Int → Prop} (hx : m x = some (.val (.deck 0))) (hz : cs.length < 2 ^ 60) (h : evW (deck2 W0 o c cs) C e (fun d δ' => ∃ j : Int, d = .int j ∧ 0 ≤ j ∧ j < cs.length ∧ ∀ n : Int, K (.int n) δ') m δ)
    (hd : (x == ("__debug__" : Str)) = false := by decide)
    (hs : ∀ o j, subscripted (.Constant (.int 0) k ip) false o j = operate [o, j] (getItem o j) := by intro _ _; with_unfolding_all rfl)
    (hs2 : ∀ o j, subscripted e false o j = operate [o, j] (getItem o j) := by intro _ _; with_unfolding_all rfl) :
    evW (deck2 W0 o c cs) C (.Subscript (.Subscript (.Name x p) (.Constant (.int 0) k ip) ip2) e pos) K m δ := fun E s H R => by
  refine Subscript_ (deck_cells R hx ?_ hd hs)
  have kp : KeepA s { s with toks := s.toks + 1 } := .tok
  refine wpAny_mono (h E _ H (R.keep kp)) ?_ fun _ _ e => e
  rintro u s2 ⟨d, δ2, k2, G2, r2, j, rfl, h0, h1, h2⟩
  cases r2
  obtain ⟨vs, pl, hi⟩ := G2.deck.cells
  have hl := hi.length
  have hj : j.toNat < vs.length := by omega
  obtain ⟨t, ht⟩ := IntsAre.int_at hi j.toNat vs[j.toNat] (List.getElem?_eq_getElem hj)
  exact tail_any pl.isList.typeIs slot_list_getitem.lookup (wpAny_getItem_list (x := .int (cs.getD j.toNat 0) t) pl.isList h0 (by omega) (by simp [hj, ht]) ⟨_, δ2, kp.x.trans k2, G2, .int _ _, h2 _⟩) (hs2 _ _)
theorem ev_len_deck {f x : Str} {fp p ip ip2 pos : Pos} {k : Nat} {K : D → Int → Prop} (hg : W0.mg f = none) (hf : W0.mb f = some (.builtin "len")) (hx : m x = some (.val (.deck 0))) (hz : cs.length ≤ sizeLine) (h : K (.int cs.length) δ)
    (hk : C.env.kindOf f = some .globalImplicit := by rfl) (hd : (x == ("__debug__" : Str)) = false := by decide) (hd' : (f == ("__debug__" : Str)) = false := by decide)
    (hs : ∀ o j, subscripted (.Constant (.int 0) k ip) false o j = operate [o, j] (getItem o j) := by intro _ _; with_unfolding_all rfl) :
    evW (deck2 W0 o c cs) C (.Call (.Name f fp) [.Subscript (.Name x p) (.Constant (.int 0) k ip) ip2] [] pos) K m δ := fun E s H R => by
  refine Call_ (builtin_name R hk hg hf ?_ hd')
  rw [starEach_plain _ _ rfl, backTo_plain]
  refine callWith_builtin plain_args (evalArgs_all (spliced_cons (deck_cells R hx (spliced_nil ?_) hd hs)))
  have kp : KeepA s { s with toks := s.toks + 1 } := .tok
  obtain ⟨vs, pl, hi⟩ := R.gs.deck.cells
  have kp2 : KeepA { s with toks := s.toks + 1 } { s with toks := s.toks + 1 + 1 } := .tok
  refine call_len_list (s := { s with toks := s.toks + 1 }) pl.isList (by have := hi.length; have : sizeLine < 2 ^ 63 := (by decide); simp only [List.size_toArray]; omega) ?_
  rw [List.size_toArray, hi.length]
  exact ⟨_, δ, kp.x.trans kp2.x, (R.gs.keep kp).keep kp2, .int _ _, h⟩
theorem ex_deck_set {x : Str} {p ip sp pos : Pos} {k : Nat} {v : Expr} {P : Fl → Map → Int → Prop} (hx : m x = some (.val (.deck 0))) (h : evW (deck2 W0 o c cs) C v (fun d δ' => ∃ i, d = .int i ∧ P .next m i) m δ)
    (hsw : swapsWith v (some (.Subscript (.Name x p) (.Constant (.int 1) k ip) sp)) pos.line C.env = pure false := by rfl)
    (hd : (x == ("__debug__" : Str)) = false := by decide) : exW (deck2 W0 o c cs) C (.Assign [.Subscript (.Name x p) (.Constant (.int 1) k ip) sp] v pos) P m δ := fun E s H R => by
  refine wpAny_Assign_Subscript (wpAny_mono (h E s H R) ?_ fun _ _ e => e) hsw
  rintro vv s1 ⟨d, δ1, k1, G1, r1, i, rfl, h1⟩
  have R1 := R.keepX k1 G1
  cases r1
  rename_i t0
  refine wpAny_Name (ev_load R1 hx fun v hv => ?_) hd
  cases hv
  refine wpAny_Constant_int ?_
  have kp : KeepA s1 { s1 with toks := s1.toks + 1 } := .tok
  have R2 := R1.keep kp
  obtain ⟨t, pl⟩ := G1.deck.outer
  refine setItem_plain (s := { s1 with toks := s1.toks + 1 }) pl (by decide) (by decide) (by simp) fun h' pl' hs' => ?_
  have D1 := G1.deck
  have DH : ∀ b ∈ [o, c], b ∈ H := fun b hb => R2.gs.dh b hb
  have k2 : KeepX (deck2 W0 o c cs) { s1 with toks := s1.toks + 1 } { s1 with heap := h', toks := s1.toks + 1 } := ⟨.refl, fun b ob eb n => hs'.extBut b ob (fun q => n (by rw [q]; exact .head _)) eb⟩
  have G2 : GS (deck2 W0 o c cs) H i { s1 with heap := h', toks := s1.toks + 1 } := by
    refine ⟨fun b ob eb => ⟨hs'.extBut b ob (fun q => (R2.gs.base b ob eb).2 (q ▸ DH o (.head _))) (R2.gs.base b ob eb).1, (R2.gs.base b ob eb).2⟩, ⟨D1.oc, ⟨_, by simpa using pl'⟩, let ⟨vs, a, b⟩ := D1.cells; ⟨vs, plainL_at a fun ob eo => hs'.extBut c ob (Ne.symm D1.oc) eo, b⟩⟩, R2.gs.dh, fun b hb => ?_⟩
    obtain ⟨ob, eb⟩ := R2.gs.hex b hb
    by_cases q : b = o
    · subst q; obtain ⟨o', n, e, _⟩ := pl'; exact ⟨o', e⟩
    · exact ⟨ob, hs'.extBut b ob q eb⟩
  exact ⟨H, m, i, .ofX ((k1.trans kp.x).trans k2), R2.keepX k2 G2, h1⟩
end
/-! part T3 -/
section
variable {W : Wd} {C : FC} {m : Map} {δ : W.Δ}
theorem b_list {A : Around} {l : List D} {K : D → Prop} (hz : l.length ≤ sizeLine) (h : K (.list l)) : BltOK W (.type "list") A [.list l] K := blt1 fun E s H δ v hh _ _ G r => by
  obtain ⟨a, vs, rfl, n, pl, q⟩ := rep_list r
  obtain ⟨o, nn, e, c, dn, dd⟩ := id pl
  refine call_list_seq a (.inl rfl) e c dd (fun h' c' hk hD => ?_) (by simpa [q.length] using hz)
  have kp : KeepA s { s with heap := h' } := ⟨.refl, hk⟩
  exact ⟨_, kp, .list G.fresh ⟨_, c', hD, rfl, rfl, rfl⟩ (q.mono kp.tr), h⟩
theorem shownAll_pys (l : List D) : PyData.shownAll (pys l) = l.map fun d => d.py.shown := by
  induction l with
  | nil => rfl
  | cons a r ih => simp only [pys, PyData.shownAll, List.map_cons, ih]
theorem showableAll_pys (l : List D) (h : ∀ d ∈ l, d.py.showable = true) : PyData.showableAll (pys l) = true := by
  induction l with
  | nil => rfl
  | cons a r ih => simp only [pys, PyData.showableAll, h a List.mem_cons_self, ih fun d hd => h d (List.mem_cons_of_mem _ hd), Bool.and_self]
theorem b_repr {A : Around} {l : List D} {K : D → Prop} (ho : ∀ d ∈ l, Ok 7 d) (hs : ∀ d ∈ l, d.py.showable = true ∧ d.py.shown.length ≤ 100) (hz : l.length ≤ 1000) (h : K (.str (D.list l).py.shown)) : BltOK W (.builtin "repr") A [.list l] K := blt1 fun E s H δ v hh hu hg G r => by
  obtain ⟨a, vs, rfl, n, pl, q⟩ := rep_list r
  have ok8 : Ok 8 (.list l) := by simpa [Ok] using ho
  obtain ⟨as, rd⟩ := rep_reads 8 r ok8
  obtain ⟨l1, d1⟩ := ok_lay 8 _ ok8
  have hsum : (l.map fun d => d.py.shown.length).sum ≤ 100 * l.length := by
    clear h rd d1 l1 ok8 q pl r ho hz
    induction l with
    | nil => simp
    | cons a r ih =>
      have h1 := (hs a List.mem_cons_self).2
      have h2 := ih fun d hd => hs d (List.mem_cons_of_mem _ hd)
      simp only [List.map_cons, List.sum_cons, List.length_cons]
      omega
  have hlen : (D.list l).py.shown.length ≤ sizeLine := by
    have := listText_len_le (PyData.shownAll (pys l))
    rw [shownAll_pys, List.map_map, List.length_map] at this
    have h2 : (D.list l).py.shown = listText (l.map fun d => d.py.shown) := by simp only [D.py, PyData.shown, shownAll_pys]
    rw [h2]
    have h3 : (l.map ((fun x : Str => x.length) ∘ fun d : D => d.py.shown)).sum = (l.map fun d => d.py.shown.length).sum := rfl
    rw [h3] at this
    have : 200000 ≤ sizeLine := by decide
    omega
  refine repr_of_reads' rd (by simp only [D.py, PyData.showable]; exact showableAll_pys l fun d hd => (hs d hd).1) (PyData.noDict_hsm (PyData.hasDict_of_canLay _ l1)) hg (by omega) (fun _ _ e => e) (fun h' u tk hk => ?_) hlen
  exact ⟨_, ⟨.refl, hk⟩, .str _ _, h⟩
theorem it_dict {tgt iter : Expr} {K : List D → W.Δ → Prop} (h : evW W C iter (fun a δ₁ => ∃ l : List (Int × D), a = .dict l ∧ K (l.map fun p => D.int p.1) δ₁) m δ) (hq : ∀ it v, letOwnedTupleGo tgt it v = pure ()) : itW W C tgt iter K m δ := fun E s H R => by
  refine wpAny_mono (h E s H R) ?_ fun _ _ e => e
  rintro x s1 ⟨a, δ1, k1, G1, r1, l, rfl, h1⟩
  cases r1 with
  | dict n q hd e r =>
    rename_i d kvs
    obtain ⟨ep, ha⟩ := hd.dictAt
    have hne : d ≠ s1.heap.objs.size := Nat.ne_of_lt ha.lt_size
    refine wpAny_pyIter_dict q ha ?_
    have kp : KeepA s1 { s1 with heap := s1.heap.push { cls := .type "dict_keyiterator", data := .fields #[.ref d, .int 0 0, .int kvs.length 0, .int ep 0] } } := .push
    have hnone : s.heap.get? s1.heap.objs.size = none := by
      cases e : s.heap.get? s1.heap.objs.size with
      | none => rfl
      | some o =>
        by_cases hm : s1.heap.objs.size ∈ W.da
        · exact absurd (G1.dh _ hm) G1.fresh
        · exact absurd (Heap.lt_size (k1.2 _ _ e hm)) (Nat.lt_irrefl _)
    have he : l.map (fun p => D.int p.1) = kvs.map fun p => D.int p.1 := by
      have := congrArg (List.map D.int) e
      simp only [List.map_map] at this
      exact this.symm
    rw [he] at h1
    refine ⟨_, _, _, _, .none, .none, _, δ1, rfl, k1.trans kp.x, G1.keep kp, turns_dict R.hh hne hq, ⟨⟨_, Heap.get?_push_size _ rfl, rfl, rfl⟩, ha.push _⟩, .none, fun b hb => ?_, fun b hb => ?_, fun it' v => .inr (hq it' v), h1⟩
    · rw [List.mem_singleton.mp hb]; exact ⟨hnone, _, Heap.get?_push_size _ rfl⟩
    · simp only [List.mem_cons, List.not_mem_nil, or_false] at hb
      rcases hb with rfl | rfl
      · exact .inl (by simp)
      · obtain ⟨o, es, eo, _⟩ := ha
        exact .inr ⟨n, o, Heap.get?_push_of_some _ eo⟩
end
/-! part T4 -/
section
variable {W : Wd} {C : FC} {H : List Addr} {m : Map} {δ : W.Δ} {s : Shared}
theorem keepA_flat {s s' : Shared} (hda : W.da = []) (k : KeepX W s s') : KeepA s s' := ⟨k.1, fun b o e => k.2 b o e (by rw [hda]; simp)⟩
/-- `value[:hi]`, the new list's place told -/
theorem slice_raw {value hi : Expr} {p pos : Pos} {KK : List D → W.Δ → Prop} {E : Value → Shared → Prop} {Q : Value → Shared → Prop} (hda : W.da = []) (R : Rel W C H m δ s)
    (h : evW W C value (fun a δ₁ => ∃ l : List D, a = .list l ∧ l.length ≤ sizeLine ∧ evW W C hi (fun b δ₂ => ∃ i : Int, b = .int i ∧ 0 ≤ i ∧ KK (l.take i.toNat) δ₂) m δ₁) m δ)
    (hQ : ∀ c vs l s' δ', KeepA s s' → GS W H δ' s' → s.heap.get? c = none → PlainL s'.heap c (List.toArray vs) → RepAll W H s'.heap vs l → KK l δ' → Q (.ref c) s')
    (hs : ∀ o i, subscripted (.Slice none (some hi) none p) false o i = operate [i, o] (getItem o i) := by intro _ _; with_unfolding_all rfl) : wpAny (model W.prog W.w) C.A (eval (.Subscript value (.Slice none (some hi) none p) pos) C.env) Q E s := by
  refine Subscript_ (wpAny_mono (h E s H R) ?_ fun _ _ e => e)
  rintro v s1 ⟨a, δ1, k1, G1, r1, l, rfl, hz, h1⟩
  cases r1 with
  | list n1 hL q1 =>
    rename_i al vs
    have hvz : vs.toArray.size ≤ sizeLine := by simp only [List.size_toArray, q1.length]; exact hz
    refine wpAny_Slice ?_
    refine wpAny_pure (a := Value.none) ?_
    refine wpAny_mono (h1 E s1 H (R.keepX k1 G1)) ?_ fun _ _ e => e
    rintro u s2 ⟨b, δ2, k2, G2, r2, i, rfl, h0, h2⟩
    cases r2
    rename_i t
    rw [evalPart_none]
    have hL2 : PlainL s2.heap al vs.toArray := plainL_at hL fun o eo => k2.2 _ _ eo fun hm => n1 (G1.dh _ hm)
    refine wpAny_pure (tail_any (hL2.isList.push _).typeIs list_getitem_lookup (wpAny_getItem_list_slice (hL2.isList.push _) (Heap.IsSliceOf.new ..) .none (.int i t) .none (by simp) ?_ hvz) (hs _ _))
    have e1 : slicePick vs.toArray none (some i) none = (vs.take i.toNat).toArray := by
      have := slicePick_upto' vs.toArray i.toNat
      rw [Int.toNat_of_nonneg h0] at this
      simpa using this
    rw [e1]
    have kA := keepA_flat hda (k1.trans k2)
    have e : (s2.heap.push { cls := .type "slice", data := .fields #[.none, .int i t, .none] }).objs.size = s2.heap.objs.size + 1 := Heap.size_push ..
    have k3 : KeepA s2 { s2 with heap := (s2.heap.push { cls := .type "slice", data := .fields #[.none, .int i t, .none] }).push { cls := .type "list", data := .seq (vs.take i.toNat).toArray } } :=
      ⟨.refl, fun b o eb => Heap.get?_push_of_some _ (Heap.get?_push_of_some _ eb)⟩
    refine hQ _ (vs.take i.toNat) (l.take i.toNat) _ δ2 (kA.trans k3) (G2.keep k3) ?_ ⟨_, _, Heap.get?_push_size _ rfl, rfl, rfl, rfl⟩ (((q1.mono (k2.tr G1)).take i.toNat).mono k3.tr) h2
    show s.heap.get? (s2.heap.push { cls := .type "slice", data := .fields #[.none, .int i t, .none] }).objs.size = none
    rw [e]
    cases q : s.heap.get? (s2.heap.objs.size + 1) with
    | none => rfl
    | some o => exact absurd (Heap.lt_size (kA.2 _ _ q)) (Nat.not_lt.mpr (Nat.le_succ _))
end
section
variable {W0 : Wd} {C : FC} {m : Map} {δ : W0.Δ}
theorem rel_deck2 {H : List Addr} {s1 s' : Shared} {o c : Addr} {cs : List Int} {i : Int} (R1 : Rel W0 C H m δ s1) (KA : KeepA s1 s') (ho : s1.heap.get? o = none) (hc : s1.heap.get? c = none) (D : Deck2At s'.heap o c cs i) :
    Rel (deck2 W0 o c cs) C ([o, c] ++ H) (fun _ => none) i s' := by
  have R' := R1.keep KA
  have nw : ∀ b, (∃ ob, s1.heap.get? b = some ob) → b ∉ [o, c] := by
    rintro b ⟨ob, eb⟩ q
    simp only [List.mem_cons, List.not_mem_nil, or_false] at q
    rcases q with rfl | rfl
    · rw [ho] at eb; cases eb
    · rw [hc] at eb; cases eb
  have sub : ∀ {b}, b ∈ H → b ∈ [o, c] ++ H := fun h => List.mem_append.mpr (.inr h)
  have nH : ∀ b ∈ H, b ∉ [o, c] := fun b hb => nw b (R1.gs.hex b hb)
  refine ⟨⟨fun b ob eb => ⟨(R'.gs.base b ob eb).1, fun q => ?_⟩, D, fun a ha => List.mem_append.mpr (.inl ha), fun a ha => ?_⟩, R'.fn, R'.gl, R'.bl, R'.hh, R'.room, R'.units, R'.gd, ?_, sub R'.lh, nH _ R'.lh, fun x hx => ⟨sub (R'.cw x hx).1, nH _ (R'.cw x hx).1, (R'.cw x hx).2.2⟩, R'.cx, R'.ci, fun x a d hx => (nomatch hx), fun x y a d e hx => (nomatch hx)⟩
  · rcases List.mem_append.mp q with q | q
    · exact nw b ⟨ob, (R1.gs.base b ob eb).1⟩ q
    · exact (R1.gs.base b ob eb).2 q
  · rcases List.mem_append.mp ha with q | q
    · simp only [List.mem_cons, List.not_mem_nil, or_false] at q
      rcases q with rfl | rfl
      · obtain ⟨t, ⟨ob, n, eo, _⟩⟩ := D.outer; exact ⟨ob, eo⟩
      · obtain ⟨vs, ⟨ob, n, eo, _⟩, _⟩ := D.cells; exact ⟨ob, eo⟩
    · exact R'.gs.hex a q
  · obtain ⟨mm, hn, _⟩ := R'.loc
    exact ⟨mm, hn, fun x e hx => nomatch hx⟩
/-- deck = [list(script)[:50], 0], and what follows -/
theorem law2_first (hda : W0.da = []) {H : List Addr} {s : Shared} {ns : List Int} {x f y : Str} {p1 p2 p3 p4 p5 p6 p7 p8 p9 lp : Pos} {k1 k2 : Nat} {rest : List Stmt} {Q : Flow → Shared → Prop} {E : Value → Shared → Prop}
    (R : Rel W0 C H m δ s) (hm : m y = some (.val (.list (dints ns)))) (hz : ns.length ≤ 63) (hg : W0.mg f = none) (hf : W0.mb f = some (.type "list"))
    (hkx : C.env.kindOf x = some .local) (hkf : C.env.kindOf f = some .globalImplicit) (hdx : (f == ("__debug__" : Str)) = false) (hdy : (y == ("__debug__" : Str)) = false)
    (hs : swapsWith (.List [.Subscript (.Call (.Name f p2) [.Name y p3] [] p4) (.Slice none (some (.Constant (.int 50) k1 p6)) none p7) p8, .Constant (.int 0) k2 p9] lp) (some (.Name x p1)) p5.line C.env = pure false)
    (hrest : ∀ o c cs, cs.length ≤ 50 → stW (deck2 W0 o c cs) C rest (fun fl _ _ => flD fl = .bool true) (upd (fun _ => none) x (.val (.deck 0))) 0)
    (hQ : ∀ s', Like s s' → (∀ b o, W0.hb.get? b = some o → s'.heap.get? b = some o) → Q (.ret (.bool true)) s') :
    wpAny (model W0.prog W0.w) C.A (execs (.Assign [.Name x p1] (.List [.Subscript (.Call (.Name f p2) [.Name y p3] [] p4) (.Slice none (some (.Constant (.int 50) k1 p6)) none p7) p8, .Constant (.int 0) k2 p9] lp) p5 :: rest) C.env) Q E s := by
  have hsz : 2 ^ 10 ≤ sizeLine := by decide
  refine wpAny_execs_cons (wpAny_Assign_Name (List_ ?_) hs)
  rw [starEach_plain _ _ rfl, backTo_plain]
  refine spliced_cons (slice_raw (KK := fun l _ => l = dints (ns.take 50)) hda R (ev_callt hg hf (evs_cons (ev_name hm (evs_nil (b_list (by unfold dints; rw [List.length_map]; omega) ⟨_, rfl, by unfold dints; rw [List.length_map]; omega, ev_int ⟨50, rfl, by decide, ?_⟩⟩)) hdy)) hkf rfl hdx) ?_)
  · unfold dints; rw [List.map_take]; rfl
  rintro c vs l s1 δ1 KA G1 hcn pl rp rfl
  refine spliced_cons (wpAny_Constant_int (spliced_nil (wpAny_newList ?_ (by simp; omega))))
  have hi := rep_ints rp
  have kp : KeepA s1 { s1 with heap := s1.heap.push { cls := .type "list", data := .seq [Value.ref c, .int 0 s1.toks].toArray }, toks := s1.toks + 1 } := .push
  have KA2 := KA.trans kp
  have hclt : c < s1.heap.objs.size := pl.lt
  have hon : s.heap.get? s1.heap.objs.size = none := by
    cases q : s.heap.get? s1.heap.objs.size with
    | none => rfl
    | some o => exact absurd (Heap.lt_size (KA.2 _ _ q)) (Nat.lt_irrefl _)
  have DA : Deck2At (s1.heap.push { cls := .type "list", data := .seq [Value.ref c, .int 0 s1.toks].toArray }) s1.heap.objs.size c (ns.take 50) 0 :=
    ⟨Nat.ne_of_gt hclt, ⟨s1.toks, _, _, Heap.get?_push_size _ rfl, rfl, rfl, rfl⟩, vs, plainL_at pl fun o e => Heap.get?_push_of_some _ e, hi⟩
  have R2 := rel_deck2 (s' := { s1 with heap := s1.heap.push { cls := .type "list", data := .seq [Value.ref c, .int 0 s1.toks].toArray }, toks := s1.toks + 1 }) R KA2 hon hcn DA
  refine store_val R2 (d := .deck 0) (.inl hkx) (.deck (W := deck2 W0 s1.heap.objs.size c (ns.take 50)) 0) fun s3 R3 F3 => ?_
  refine wpAny_mono (hrest s1.heap.objs.size c (ns.take 50) (by rw [List.length_take]; omega) _ s3 _ R3) ?_ fun _ _ e => e
  rintro fl s4 ⟨H4, m4, δ4, F4, R4, hfl⟩
  have LK : Like s s4 := KA2.1.trans (F3.like.trans F4.like)
  have base : ∀ b o, W0.hb.get? b = some o → s4.heap.get? b = some o := fun b ob eb => (R4.gs.base b ob eb).1
  cases fl with
  | next => exact absurd hfl (by simp [FlOK, flD])
  | ret v =>
    obtain ⟨d, rd, hd⟩ := hfl
    have hd2 : d = .bool true := hd
    subst hd2
    cases rd
    exact hQ s4 LK base
  | brk => exact hfl.elim
  | cont => exact hfl.elim
end
local macro_rules | `(tactic| walk_at "lk") => `(tactic| ((repeat (first | with_reducible exact upd_self | with_reducible assumption | refine (upd_ne (by decide)).trans ?_)); done))
local macro_rules | `(tactic| walk_at "lap") => `(tactic|
 first | (
 (first
  | ((with_reducible show evW _ _ _ _ _ _); first
    | ((with_reducible show evW _ _ (Expr.Name _ _) _ _ _); refine ev_name (by walk_at "lk") ?_)
    | ((with_reducible show evW _ _ (Expr.Constant (Const.str _) _ _) _ _ _); refine ev_str ?_)
    | ((with_reducible show evW _ _ (Expr.Constant (Const.int _) _ _) _ _ _); refine ev_int ?_)
    | ((with_reducible show evW _ _ (Expr.Constant Const.none _ _) _ _ _); refine ev_none ?_)
    | ((with_reducible show evW _ _ (Expr.Constant (Const.bool _) _ _) _ _ _); refine ev_boolc ?_)
    | ((with_reducible show evW _ _ (Expr.BinOp _ _ _ _) _ _ _); refine ev_bin ?_)
    | ((with_reducible show evW _ _ (Expr.Compare _ _ _ _) _ _ _); refine ev_cmp ?_)
    | ((with_reducible show evW _ _ (Expr.UnaryOp _ _ _) _ _ _); refine ev_un ?_)
    | ((with_reducible show evW _ _ (Expr.IfExp _ _ _ _) _ _ _); refine ev_if ?_)
    | ((with_reducible show evW _ _ (Expr.Tuple _ _ _) _ _ _); refine ev_tuple ?_)
    | ((with_reducible show evW _ _ (Expr.List _ _) _ _ _); refine ev_list ?_)
    | ((with_reducible show evW _ _ (Expr.Subscript _ (Expr.Name _ _) _) _ _ _); refine ev_sub ?_)
    | ((with_reducible show evW _ _ (Expr.Subscript _ (Expr.Constant _ _ _) _) _ _ _); refine ev_sub ?_)
    | ((with_reducible show evW _ _ (Expr.Subscript _ (Expr.UnaryOp _ _ _) _) _ _ _); refine ev_sub ?_))
  | ((with_reducible show evsW _ _ _ _ _ _); first | refine evs_cons ?_ | refine evs_nil ?_)
  | ((with_reducible show op2W _ _ _ _ _ _); first
    | ((with_reducible show op2W _ _ (binaryOp .Add) (.int _) (.int _) _); refine o_add ?_)
    | ((with_reducible show op2W _ _ (binaryOp .Sub) (.int _) (.int _) _); refine o_sub ?_)
    | ((with_reducible show op2W _ _ (compareOp .Eq) (.str _) (.str _) _); refine o_eqs ?_)
    | ((with_reducible show op2W _ _ (compareOp .NotEq) (.str _) (.str _) _); refine o_nes ?_)
    | ((with_reducible show op2W _ _ (compareOp .Eq) (.int _) (.int _) _); refine o_eqi ?_)
    | ((with_reducible show op2W _ _ (compareOp .NotEq) (.int _) (.int _) _); refine o_nei ?_)
    | ((with_reducible show op2W _ _ (compareOp .Lt) (.int _) (.int _) _); refine o_lt ?_)
    | ((with_reducible show op2W _ _ (compareOp .LtE) (.int _) (.int _) _); refine o_le ?_)
    | ((with_reducible show op2W _ _ (compareOp .Is) _ .none _); refine o_is ?_)
    | ((with_reducible show op2W _ _ (compareOp .IsNot) _ .none _); refine o_isnot ?_)
    | ((with_reducible show op2W _ _ (compareOp .In) (.int _) (.dict _) _); refine o_ind ?_)
    | ((with_reducible show op2W _ _ (compareOp .NotIn) (.int _) (.dict _) _); refine o_notind ?_)
    | ((with_reducible show op2W _ _ (subscriptTail _ _) (.tup (_ :: _)) (.int 0) _); refine o_itemT (by decide) (by decide) rfl ?_)
    | ((with_reducible show op2W _ _ (subscriptTail _ _) (.tup (_ :: _ :: _)) (.int 1) _); refine o_itemT (by decide) (by decide) rfl ?_))
  | ((with_reducible show opW _ _ (unaryOp .USub) (.int _) _); refine o_neg ?_)
  | ((with_reducible show teW _ _ _ _ _ _); first
    | ((with_reducible show teW _ _ (Expr.UnaryOp .Not _ _) _ _ _); refine te_not ?_)
    | ((with_reducible show teW _ _ (Expr.BoolOp .And (_ :: _) _) _ _ _); refine te_and ?_)
    | ((with_reducible show teW _ _ (Expr.BoolOp .Or (_ :: _) _) _ _ _); refine te_or ?_)
    | ((with_reducible show teW _ _ (Expr.BoolOp .And [] _) _ _ _); refine te_and_nil ?_)
    | ((with_reducible show teW _ _ (Expr.BoolOp .Or [] _) _ _ _); refine te_or_nil ?_)
    | ((with_reducible show teW _ _ (Expr.Compare _ _ _ _) _ _ _); refine te_cmp ?_))
  | ((with_reducible show asW _ _ (Expr.Name _ _) _ _ _); refine as_name (.inl rfl) ?_)
  | ((with_reducible show asW _ _ (Expr.Tuple _ _ _) _ _ _); refine as_tuple rfl ?_)
  | ((with_reducible show assW _ _ _ _ _ _); first | refine ass_cons ?_ | refine ass_nil ?_)
  | ((with_reducible show testsW _ _ _ _ _ _); first | refine tests_nil ?_ | refine tests_one ?_)
  | ((with_reducible show stW _ _ [] _ _ _); refine st_nil ?_)
  | ((with_reducible show stW _ _ (_ :: _) _ _ _); refine st_cons ?_)
  | ((with_reducible show afterW _ _ _ _ .next _ _); refine after_next ?_)
  | ((with_reducible show afterW _ _ _ _ (.ret _) _ _); refine after_ret ?_)
  | ((with_reducible show exW _ _ _ _ _ _); first
    | ((with_reducible show exW _ _ (Stmt.If _ _ _ _) _ _ _); refine ex_if ?_)
    | ((with_reducible show exW _ _ (Stmt.Return (some _) _) _ _ _); refine ex_return ?_)
    | ((with_reducible show exW _ _ (Stmt.Assign [Expr.Name _ _] (Expr.List [] _) _) _ _ _); refine ex_newList ?_ (.inl rfl); intro _)
    | ((with_reducible show exW _ _ (Stmt.Assign [Expr.Name _ _] (Expr.Dict [] [] _) _) _ _ _); refine ex_newDict ?_ (.inl rfl); intro _)
    | ((with_reducible show exW _ _ (Stmt.Assign [Expr.Name _ _] _ _) _ _ _); refine ex_assign ?_ (.inl rfl))
    | ((with_reducible show exW _ _ (Stmt.Assign [Expr.Subscript (Expr.Name _ _) _ _] _ _) _ _ _); refine ex_setitem (by walk_at "lk") ?_ ?_; rotate_left)
    | ((with_reducible show exW _ _ (Stmt.Expr (Expr.Call (Expr.Attribute _ "append" _) _ _ _) _) _ _ _); refine ex_append (by walk_at "lk") ?_ ?_; rotate_left))
  | with_reducible refine ⟨_, rfl, ?_⟩); walk_at "lap") | skip)

/-! part P1 -/
section
section
variable {W : Wd}

theorem gfun (X : (heapK W.w.params).In W.hb) {x : Str} {v : Value} (e : nsIn (heapK W.w.params) mainGlobals x = some (some v)) : W.mg x = some v := mg_of X W.hg e
theorem gnone (X : (heapK W.w.params).In W.hb) {x : Str} (e : nsIn (heapK W.w.params) mainGlobals x = some Option.none) : W.mg x = Option.none := mg_none_of X W.hg e

/-! dicts of ints -/
def dI (f : List (Int × Int)) : List (Int × D) := f.map fun p => (p.1, .int p.2)
def iset (l : List (Int × Int)) (k v : Int) : List (Int × Int) := if l.any (fun p => p.1 = k) then l.map (fun p => if p.1 = k then (p.1, v) else p) else l ++ [(k, v)]
def iget (l : List (Int × Int)) (k : Int) : Option Int := (l.find? fun p => p.1 = k).map (·.2)
theorem dset_dI (f : List (Int × Int)) (k v : Int) : dset (dI f) k (.int v) = dI (iset f k v) := by
  unfold dset iset dI
  simp only [List.any_map, Function.comp_def]
  split
  · simp only [List.map_map]; congr 1; funext p; simp only [Function.comp_apply]; split <;> simp_all
  · simp
theorem dget_dI (f : List (Int × Int)) (k : Int) : dget (dI f) k = (iget f k).map .int := by
  unfold dget iget dI
  rw [List.find?_map]
  simp [Function.comp_def]
theorem dI_len (f : List (Int × Int)) : (dI f).length = f.length := by simp [dI]
theorem iset_len (f : List (Int × Int)) (k d : Int) : (iset f k d).length ≤ f.length + 1 := by unfold iset; split <;> simp
/-! sets as dicts to True -/
def dT (f : List Int) : List (Int × D) := f.map fun p => (p, .bool true)
def addK (l : List Int) (k : Int) : List Int := if l.any (fun p => p = k) then l else l ++ [k]
theorem dset_dT (f : List Int) (k : Int) : dset (dT f) k (.bool true) = dT (addK f k) := by
  unfold dset addK dT
  simp only [List.any_map, Function.comp_def]
  split
  · simp only [List.map_map]; congr 1; funext p; simp only [Function.comp_apply]; split <;> simp_all
  · simp
theorem dget_dT (f : List Int) (k : Int) : (dget (dT f) k).isSome = f.any (fun p => p = k) := by
  unfold dget dT
  rw [List.find?_map]
  simp only [Function.comp_def, Option.isSome_map]
  rw [Bool.eq_iff_iff, List.find?_isSome]; simp
theorem dT_len (f : List Int) : (dT f).length = f.length := by simp [dT]
theorem addK_len (f : List Int) (k : Int) : (addK f k).length ≤ f.length + 1 := by unfold addK; split <;> simp

abbrev Line := Str × Int
abbrev lineD (p : Line) : D := .tup [.str p.1, .int p.2]
def lpl : List Line → List (Int × Int) → Int → List (Int × Int)
  | [], f, _ => f
  | (w, o) :: r, f, p => if (w == ("label" : Str)) = true then lpl r (iset f o p) p else lpl r f (p + 1)

theorem label_places_ok (X : (heapK W.w.params).In W.hb) {n : Nat} {l : List Line} {K : D → W.Δ → Prop} {δ : W.Δ} (hn : 1 ≤ n) (hl : l.length ≤ sizeLine) (h : K (.dict (dI (lpl l [] 0))) δ) : CallOK W 54 n [.list (l.map lineD)] K δ := by
  obtain ⟨n, rfl⟩ : ∃ k, n = k + 1 := ⟨n - 1, by omega⟩
  refine call_body ["lines"] (X _ _ (by rfl)) rfl (codeRec_of X (by rfl)) rfl rfl (by rintro (_ | ⟨v, _ | ⟨_, _⟩⟩) h <;> first | rfl | cases h) rfl rfl (by decide) fun A L => ?_
  rw [argM_cons, argM_nil]
  walk_at "lap"
  refine ex_for (it_list (ev_name (by walk_at "lk") ⟨_, rfl, ?_⟩) (.inr ⟨_, _, _, rfl⟩))
  refine loop_ind (Inv := fun r m δ' => δ' = δ ∧ ∃ a f p, m "found" = some (.own a (.dict (dI f))) ∧ m "place" = some (.val (.int p)) ∧ lpl r f p = lpl l [] 0 ∧ f.length + r.length ≤ l.length) ?_ ?_ l ⟨rfl, _, [], _, (show _ = some (Ent.own _ (D.dict [])) by walk_at "lk"), by walk_at "lk", rfl, by simp⟩
  · rintro ⟨w, o⟩ r m δ' ⟨rfl, a, f, p, h1, h2, h3, h4⟩
    simp only [List.length_cons] at h4
    have hd := iset_len f o p
    change (if _ then _ else _) = _ at h3
    walk_at "lap"
    split
    · rename_i hc
      rw [if_pos hc] at h3
      walk_at "lap"
      · exact ⟨rfl, _, _, _, by rw [← dset_dI]; walk_at "lk", by walk_at "lk", h3, by omega⟩
      · rw [dI_len]; omega
    · rename_i hc
      rw [if_neg hc] at h3
      walk_at "lap"
      exact ⟨rfl, _, _, _, by walk_at "lk", by walk_at "lk", h3, by omega⟩
  · rintro m δ' ⟨rfl, a, f, p, h1, h2, h3, h4⟩
    refine st_freeze "found" h1 ?_
    walk_at "lap"
    have e : f = lpl l [] 0 := h3
    rw [e]; exact h
end

end
/-! part P2 -/
section
section
variable {W : Wd} {C : FC} {m : Map} {δ : W.Δ} {K : D → W.Δ → Prop}
theorem ev_glob {x : Str} {pos : Pos} {v : Value} {d : D} (hg : W.mg x = some v) (hr : ∀ (H : List Addr) (δ : W.Δ) (s : Shared), GS W H δ s → Rep W H s.heap v d) (h : K d δ)
    (hk : C.env.kindOf x = some .globalImplicit := by rfl) (hd' : (x == ("__debug__" : Str)) = false := by decide) : evW W C (.Name x pos) K m δ := fun E s H R =>
  global_name R hk hg ⟨d, δ, .refl, R.gs, hr _ _ _ R.gs, h⟩ hd'

def jumpW : List Str := ["goto", "gotoifnil", "gotoifnonnil", "gotoifnilelsepop", "gotoifnonnilelsepop", "pushcatch", "pushcondition"]
def rowW : List Str := ["const", "varref", "varset", "varbind", "unbind", "dup", "discard", "stackref", "call", "plain", "return", "goto", "gotoifnil", "gotoifnonnil", "gotoifnilelsepop", "gotoifnonnilelsepop", "pushcatch", "pushcondition", "pophandler", "protect", "saveexcursion", "saverestriction", "savecurrentbuffer"]
def isJ (w : Str) : Bool := jumpW.any (· == w)

theorem rowKeys (X : (heapK W.w.params).In W.hb) : ∃ (es : Array DictEntry) (n : Nat), (heapK W.w.params).lookup 16 = some ⟨.type "dict", none, .dict es n, #[]⟩ ∧ KeysLit W.w.params es.toList :=
  ⟨_, _, by rfl, by repeat (first | exact trivial | refine ⟨⟨_, _, rfl, rfl⟩, ?_⟩)⟩

theorem rowsAt (P : Params) : ∀ w ∈ rowW, ∃ (a : Addr) (k : Str) (t : Tok) (i1 i2 i3 i4 : Int) (t1 t2 t3 t4 : Tok) (n : Nat) (dd : Option Addr) (sl : Array (Option Value)), nsIn (heapK P) 16 w = some (some (.ref a)) ∧
    (heapK P).lookup a = some ⟨.type "tuple", dd, .seq [.str k t, .int i1 t1, .int i2 t2, .int i3 t3, .int i4 t4].toArray n, sl⟩ ∧ (k == ("place" : Str)) = isJ w := by
  unfold rowW
  intro w hw
  repeat' (first | (rcases List.mem_cons.mp hw with rfl | hw; exact ⟨_, _, _, _, _, _, _, _, _, _, _, _, _, _, by rfl, by rfl, by decide⟩) | cases hw)

theorem ev_rows (X : (heapK W.w.params).In W.hb) {e : Expr} {p pos : Pos} (h : evW W C e (fun d δ' => ∃ w, d = .str w ∧ w ∈ rowW ∧ ∀ k r, (k == ("place" : Str)) = isJ w → K (.tup (.str k :: r)) δ') m δ)
    (hk : C.env.kindOf "ROWS" = some .globalImplicit := by rfl)
    (hs : ∀ o j, subscripted e false o j = operate [o, j] (getItem o j) := by intro _ _; with_unfolding_all rfl) : evW W C (.Subscript (.Name "ROWS" p) e pos) K m δ := fun E s H R => by
  refine Subscript_ (global_name R hk (gfun X (v := .ref 16) (by rfl)) ?_ (by decide))
  refine wpAny_mono (h E s H R) ?_ fun _ _ e => e
  rintro v s1 ⟨d, δ1, k1, G1, r1, w, rfl, hw, h1⟩
  cases r1
  obtain ⟨es, n, hl, hkeys⟩ := rowKeys X
  obtain ⟨a, k, t, i1, i2, i3, i4, t1, t2, t3, t4, n', dd, sl, e1, e2, e3⟩ := rowsAt W.w.params w hw
  have X1 : (heapK W.w.params).In s1.heap := X.keeps fun b o e => (G1.base b o e).1
  have hm := mapOf_K (prog := W.prog) X1 hl hkeys
  refine tail_any hm.typeIs slot_dict_getitem.lookup (wpAny_getItem_of (strKind_is W.prog W.w w _) hm (find_K hl e1) ?_) (hs _ _)
  have k2 : KeepA s1 { s1 with toks := s1.toks + 1 } := .tok
  exact ⟨_, δ1, k1.trans k2.x, G1.keep k2, .tup (vs := [.str k t, .int i1 t1, .int i2 t2, .int i3 t3, .int i4 t4]) (G1.base _ _ (X _ _ e2)).2 ⟨_, X1 _ _ e2, rfl, n', rfl⟩ (.cons (.str _ _) (.cons (.int _ _) (.cons (.int _ _) (.cons (.int _ _) (.cons (.int _ _) .nil))))), h1 k _ e3⟩

theorem is_jump_ok (X : (heapK W.w.params).In W.hb) {n : Nat} {w : Str} (hn : 1 ≤ n) (hw : w ∈ rowW) (h : K (.bool (isJ w)) δ) : CallOK W 47 n [.str w] K δ := by
  obtain ⟨n, rfl⟩ : ∃ k, n = k + 1 := ⟨n - 1, by omega⟩
  refine call_body ["word"] (X _ _ (by rfl)) rfl (codeRec_of X (by rfl)) rfl rfl (by rintro (_ | ⟨v, _ | ⟨_, _⟩⟩) h <;> first | rfl | cases h) rfl rfl (by decide) fun A L => ?_
  rw [argM_cons, argM_nil]
  refine st_cons (ex_return (ev_cmp (ev_sub (ev_rows X ?_))))
  walk_at "lap"
  refine ⟨hw, fun k r hkr => ?_⟩
  refine ev_int (o_itemT (by decide) (by decide) rfl ?_)
  refine ev_glob (gfun X (v := .str "place" 195) (by rfl)) (fun _ _ _ _ => .str _ _) ?_
  walk_at "lap"
  show K _ _
  rw [flD, hkr]; exact h
end

end
/-! part P3 -/
section
section
variable {W : Wd} {C : FC} {m : Map} {δ : W.Δ}
theorem te_isj (X : (heapK W.w.params).In W.hb) {K : Bool → W.Δ → Prop} {e : Expr} {fp pos : Pos} (hn : 1 ≤ C.n) (h : evW W C e (fun d δ' => ∃ w, d = .str w ∧ w ∈ rowW ∧ K (isJ w) δ') m δ)
    (hk : C.env.kindOf "is_jump" = some .globalImplicit := by rfl) (hs : noStar [e] = true := by rfl) : teW W C (.Call (.Name "is_jump" fp) [e] [] pos) K m δ :=
  te_bool (ev_call (gfun X (by rfl)) (X _ _ (by rfl)) rfl (evs_cons (ev_mono h fun d δ' ⟨w, e, hw, hk⟩ => evs_nil (by subst e; exact is_jump_ok X hn hw ⟨_, rfl, hk⟩))) hk hs (by decide))

theorem upd_lines {x : Str} {a : Addr} {acc : List Line} {w : Str} {o : Int} : upd m x (.own a (.list (acc.map lineD ++ [.tup [.str w, .int o]]))) x = some (.own a (.list ((acc ++ [(w, o)]).map lineD))) := by simp [upd, lineD]
theorem lines_len {acc : List Line} : (acc.map lineD).length = acc.length := List.length_map ..

def nolab (l : List Line) : List Line := l.filter fun p => p.1 != ("label" : Str)
def asm1 (P : List (Int × Int)) (p : Line) : Line := if isJ p.1 = true then (p.1, (iget P p.2).getD 0) else p
def asm (l : List Line) : List Line := (nolab l).map (asm1 (lpl l [] 0))
def WordsOk (l : List Line) : Prop := ∀ p ∈ l, p.1 = ("label" : Str) ∨ p.1 ∈ rowW
def JumpsIn (P : List (Int × Int)) (l : List Line) : Prop := ∀ p ∈ l, p.1 ≠ ("label" : Str) → isJ p.1 = true → (iget P p.2).isSome = true

theorem assembled_ok (X : (heapK W.w.params).In W.hb) {K : D → W.Δ → Prop} {n : Nat} {l : List Line} (hn : 2 ≤ n) (hl : l.length < sizeLine) (hw : WordsOk l) (hj : JumpsIn (lpl l [] 0) l) (h : K (.list ((asm l).map lineD)) δ) : CallOK W 61 n [.list (l.map lineD)] K δ := by
  obtain ⟨n, rfl⟩ : ∃ k, n = k + 1 := ⟨n - 1, by omega⟩
  refine call_body ["lines"] (X _ _ (by rfl)) rfl (codeRec_of X (by rfl)) rfl rfl (by rintro (_ | ⟨v, _ | ⟨_, _⟩⟩) h <;> first | rfl | cases h) rfl rfl (by decide) fun A L => ?_
  rw [argM_cons, argM_nil]
  walk_at "lap"
  refine ev_call (gfun X (by rfl)) (X _ _ (by rfl)) rfl (evs_cons (ev_name (by walk_at "lk") (evs_nil (label_places_ok X (by show 1 ≤ n; omega) (by omega) ?_))))
  walk_at "lap"
  refine ex_for (it_list (ev_name (by walk_at "lk") ⟨_, rfl, ?_⟩) (.inr ⟨_, _, _, rfl⟩))
  refine loop_ind (Inv := fun r m δ' => δ' = δ ∧ WordsOk r ∧ JumpsIn (lpl l [] 0) r ∧ ∃ a acc, m "found" = some (.own a (.list (acc.map lineD))) ∧ m "places" = some (.val (.dict (dI (lpl l [] 0)))) ∧ acc ++ (nolab r).map (asm1 (lpl l [] 0)) = asm l ∧ acc.length + r.length ≤ l.length) ?_ ?_ l
    ⟨rfl, hw, hj, _, [], (show _ = some (Ent.own _ (D.list [])) by walk_at "lk"), by walk_at "lk", rfl, by simp⟩
  · rintro ⟨w, o⟩ r m δ' ⟨rfl, hw, hj, a, acc, h1, h2, h3, h4⟩
    simp only [List.length_cons] at h4
    have hw' : WordsOk r := fun p hp => hw p (List.mem_cons_of_mem _ hp)
    have hj' : JumpsIn (lpl l [] 0) r := fun p hp => hj p (List.mem_cons_of_mem _ hp)
    have hw0 := hw (w, o) List.mem_cons_self
    have hj0 := hj (w, o) List.mem_cons_self
    walk_at "lap"
    split
    · rename_i hc
      have hne : w ≠ ("label" : Str) := by simpa using hc
      have hwr : w ∈ rowW := hw0.resolve_left hne
      have e3 : nolab ((w, o) :: r) = (w, o) :: nolab r := by simp only [nolab, List.filter_cons]; rw [if_pos (by simpa using hne)]
      rw [e3, List.map_cons] at h3
      walk_at "lap"
      · refine te_isj X (by show 1 ≤ n; omega) ?_
        walk_at "lap"
        refine ⟨hwr, ?_⟩
        split
        · rename_i hjw
          have hs := hj0 hne hjw
          obtain ⟨v, hv⟩ := Option.isSome_iff_exists.mp hs
          have ev : asm1 (lpl l [] 0) (w, o) = (w, v) := by simp only [asm1]; rw [if_pos hjw]; simp only at hv; rw [hv]; rfl
          rw [ev] at h3
          walk_at "lap"
          refine o_itemD (by rw [dget_dI]; simp only at hv; rw [hv]; rfl) ?_
          walk_at "lap"
          exact ⟨rfl, hw', hj', _, _, upd_lines, by walk_at "lk", by simpa using h3, by simp; omega⟩
        · rename_i hjw
          have ev : asm1 (lpl l [] 0) (w, o) = (w, o) := by simp only [asm1]; rw [if_neg hjw]
          rw [ev] at h3
          walk_at "lap"
          exact ⟨rfl, hw', hj', _, _, upd_lines, by walk_at "lk", by simpa using h3, by simp; omega⟩
      · rw [lines_len]; omega
    · rename_i hc
      have e3 : nolab ((w, o) :: r) = nolab r := by simp only [nolab, List.filter_cons]; rw [if_neg hc]
      rw [e3] at h3
      walk_at "lap"
      exact ⟨rfl, hw', hj', _, _, by walk_at "lk", by walk_at "lk", h3, by omega⟩
  · rintro m δ' ⟨rfl, hw, hj, a, acc, h1, h2, h3, h4⟩
    refine st_freeze "found" h1 ?_
    walk_at "lap"
    have e : acc = asm l := by simpa [nolab] using h3
    rw [e]; exact h
end

end
/-! part P4 -/
section
section
variable {W : Wd} {C : FC} {m : Map} {δ : W.Δ}
def Boot (W : Wd) : Prop := ∀ x : Str, x ≠ "__name__" → W.mb x = bootBuiltins x
theorem gblt (B : Boot W) {x : Str} {v : Value} (e : bootBuiltins x = some v) (hx : x ≠ "__name__" := by decide) : W.mb x = some v := (B x hx).trans e

def sortI (l : List Int) : List Int := l.mergeSort fun a b => decide (a ≤ b)
theorem sortI_perm (l : List Int) : (sortI l).Perm l := List.mergeSort_perm ..
theorem sortI_pw (l : List Int) : (sortI l).Pairwise (· ≤ ·) := by
  have := List.pairwise_mergeSort (le := fun a b : Int => decide (a ≤ b)) (fun a b c h1 h2 => by simp at *; omega) (fun a b => by simp; omega) l
  simpa [sortI] using this
theorem sortI_eq {l l' : List Int} (h : l'.Perm l) (hp : l'.Pairwise (· ≤ ·)) : l' = sortI l :=
  List.Perm.eq_of_pairwise (le := (· ≤ ·)) (fun a b _ _ h1 h2 => by omega) hp (sortI_pw l) (h.trans (sortI_perm l).symm)

def jops (l : List Line) : List Int := (l.filter fun p => isJ p.1).map (·.2)
def keysOf (l : List Int) : List Int := l.foldl addK []
def met (code : List Line) : List Int := sortI (keysOf (jops code))
theorem foldl_len : ∀ (l f : List Int), (l.foldl addK f).length ≤ f.length + l.length
  | [], f => by simp
  | x :: r, f => by rw [List.foldl_cons]; have := foldl_len r (addK f x); have := addK_len f x; simp only [List.length_cons]; omega
theorem jops_len (l : List Line) : (jops l).length ≤ l.length := by unfold jops; rw [List.length_map]; exact List.length_filter_le ..
theorem jops_cons (p : Line) (l : List Line) : jops (p :: l) = if isJ p.1 = true then p.2 :: jops l else jops l := by unfold jops; rw [List.filter_cons]; split <;> simp

def CodeOk (l : List Line) : Prop := ∀ p ∈ l, p.1 ∈ rowW

theorem met_places_ok (X : (heapK W.w.params).In W.hb) (B : Boot W) {K : D → W.Δ → Prop} {n : Nat} {l : List Line} (hn : 2 ≤ n) (hl : l.length < 64) (hw : CodeOk l) (h : K (.list (dints (met l))) δ) : CallOK W 68 n [.list (l.map lineD)] K δ := by
  obtain ⟨n, rfl⟩ : ∃ k, n = k + 1 := ⟨n - 1, by omega⟩
  refine call_body ["code"] (X _ _ (by rfl)) rfl (codeRec_of X (by rfl)) rfl rfl (by rintro (_ | ⟨v, _ | ⟨_, _⟩⟩) h <;> first | rfl | cases h) rfl rfl (by decide) fun A L => ?_
  rw [argM_cons, argM_nil]
  walk_at "lap"
  refine ex_for (it_list (ev_name (by walk_at "lk") ⟨_, rfl, ?_⟩) (.inr ⟨_, _, _, rfl⟩))
  refine loop_ind (Inv := fun r m δ' => δ' = δ ∧ CodeOk r ∧ ∃ a f, m "found" = some (.own a (.dict (dT f))) ∧ (jops r).foldl addK f = keysOf (jops l) ∧ f.length + r.length ≤ l.length) ?_ ?_ l ⟨rfl, hw, _, [], (show _ = some (Ent.own _ (D.dict [])) by walk_at "lk"), rfl, by simp⟩
  · rintro ⟨w, o⟩ r m δ' ⟨rfl, hw, a, f, h1, h3, h4⟩
    simp only [List.length_cons] at h4
    have hw' : CodeOk r := fun p hp => hw p (List.mem_cons_of_mem _ hp)
    have hw0 := hw (w, o) List.mem_cons_self
    rw [jops_cons] at h3
    have hd := addK_len f (w, o).2
    have hz : 64 ≤ sizeLine := by decide
    walk_at "lap"
    refine te_isj X (by show 1 ≤ n; omega) ?_
    walk_at "lap"
    refine ⟨hw0, ?_⟩
    split
    · rename_i hc
      rw [if_pos hc] at h3
      walk_at "lap"
      · exact ⟨rfl, hw', _, _, by rw [← dset_dT]; walk_at "lk", h3, by omega⟩
      · rw [dT_len]; omega
    · rename_i hc
      rw [if_neg hc] at h3
      walk_at "lap"
      exact ⟨rfl, hw', _, _, by walk_at "lk", h3, by omega⟩
  · rintro m δ' ⟨rfl, hw, a, f, h1, h3, h4⟩
    refine st_freeze "found" h1 ?_
    have e : f = keysOf (jops l) := h3
    subst e
    have hk := foldl_len (jops l) []
    have hj := jops_len l
    refine st_cons (ex_return (ev_callb (gnone X (by rfl)) (gblt B (by boot_fast)) (evs_cons (ev_name (by walk_at "lk") (evs_nil (b_sortedD (by rw [dT_len]; simp only [keysOf]; simp at hk; omega) fun l' hp hs => ?_))))))
    have e1 : (dT (keysOf (jops l))).map (·.1) = keysOf (jops l) := by simp [dT, Function.comp_def]
    rw [e1] at hp
    walk_at "lap"
    show K _ _
    rw [sortI_eq hp hs]; exact h

def lops (l : List Line) : List Int := (l.filter fun p => p.1 != ("label" : Str) && isJ p.1).map (·.2)
theorem lops_cons (p : Line) (l : List Line) : lops (p :: l) = if p.1 != ("label" : Str) && isJ p.1 then p.2 :: lops l else lops l := by unfold lops; rw [List.filter_cons]; split <;> simp
theorem labels_used_ok (X : (heapK W.w.params).In W.hb) {K : D → W.Δ → Prop} {n : Nat} {l : List Line} (hn : 2 ≤ n) (hl : l.length ≤ sizeLine) (hw : WordsOk l) (h : K (.dict (dT (keysOf (lops l)))) δ) : CallOK W 82 n [.list (l.map lineD)] K δ := by
  obtain ⟨n, rfl⟩ : ∃ k, n = k + 1 := ⟨n - 1, by omega⟩
  refine call_body ["lines"] (X _ _ (by rfl)) rfl (codeRec_of X (by rfl)) rfl rfl (by rintro (_ | ⟨v, _ | ⟨_, _⟩⟩) h <;> first | rfl | cases h) rfl rfl (by decide) fun A L => ?_
  rw [argM_cons, argM_nil]
  walk_at "lap"
  refine ex_for (it_list (ev_name (by walk_at "lk") ⟨_, rfl, ?_⟩) (.inr ⟨_, _, _, rfl⟩))
  refine loop_ind (Inv := fun r m δ' => δ' = δ ∧ WordsOk r ∧ ∃ a f, m "found" = some (.own a (.dict (dT f))) ∧ (lops r).foldl addK f = keysOf (lops l) ∧ f.length + r.length ≤ l.length) ?_ ?_ l ⟨rfl, hw, _, [], (show _ = some (Ent.own _ (D.dict [])) by walk_at "lk"), rfl, by simp⟩
  · rintro ⟨w, o⟩ r m δ' ⟨rfl, hw, a, f, h1, h3, h4⟩
    simp only [List.length_cons] at h4
    have hw' : WordsOk r := fun p hp => hw p (List.mem_cons_of_mem _ hp)
    have hw0 := hw (w, o) List.mem_cons_self
    rw [lops_cons] at h3
    have hd := addK_len f (w, o).2
    walk_at "lap"
    split
    · rename_i hc
      have hne : w ≠ ("label" : Str) := by simpa using hc
      have hwr : w ∈ rowW := hw0.resolve_left hne
      walk_at "lap"
      refine te_isj X (by show 1 ≤ n; omega) ?_
      walk_at "lap"
      refine ⟨hwr, ?_⟩
      split
      · rename_i hjw
        rw [if_pos (by simp only [hc, hjw]; rfl)] at h3
        walk_at "lap"
        split
        · walk_at "lap"
          · exact ⟨rfl, hw', _, _, by rw [← dset_dT]; walk_at "lk", h3, by omega⟩
          · rw [dT_len]; omega
        · rename_i q; exact absurd rfl q
      · rename_i hjw
        rw [if_neg (by simp [hjw])] at h3
        simp only [Bool.false_eq_true, if_false]
        walk_at "lap"
        exact ⟨rfl, hw', _, _, by walk_at "lk", h3, by omega⟩
    · rename_i hc
      rw [if_neg (by simp only [hc]; simp)] at h3
      simp only [Bool.false_eq_true, if_false]
      walk_at "lap"
      exact ⟨rfl, hw', _, _, by walk_at "lk", h3, by omega⟩
  · rintro m δ' ⟨rfl, hw, a, f, h1, h3, h4⟩
    refine st_freeze "found" h1 ?_
    have e : f = keysOf (lops l) := h3
    subst e
    walk_at "lap"
    exact h
end

end
/-! part P5 -/
section
section
variable {W : Wd} {C : FC} {m : Map} {δ : W.Δ}
theorem deq_int (a b : Int) : deq (.int a) (.int b) = decide (a = b) := by
  simp only [deq, D.py, PyData.eqv]
  by_cases h : a = b <;> simp [h]
theorem dints_any (l : List Int) (x : Int) : ((dints l).any fun y => deq y (.int x)) = l.any fun y => decide (y = x) := by
  unfold dints; rw [List.any_map]; congr 1
theorem dints_ok (l : List Int) (n : Nat) : ∀ d ∈ dints l, Ok n d := by
  intro d hd; unfold dints at hd; obtain ⟨i, _, rfl⟩ := List.mem_map.mp hd; cases n <;> trivial
def idxI (P : List Int) (x : Int) : Int := ((P.idxOf x : Nat) : Int)
theorem b_index_int {A : Around} {P : List Int} {x : Int} {K : D → Prop} (hx : x ∈ P) (hz : P.length < 2 ^ 60) (h : K (.int (idxI P x))) : BltOK W (.builtin "list.index") A [.list (dints P), .int x] K := by
  have hlt := List.idxOf_lt_length_iff.mpr hx
  refine b_index (j := P.idxOf x) (y := .int x) (dints_ok P 7) trivial ?_ (by rw [deq_int]; simp) ?_ (by omega) h
  · unfold dints; rw [List.getElem?_map, List.getElem?_eq_getElem hlt, List.getElem_idxOf hlt]; rfl
  · intro i y' hi hy
    unfold dints at hy
    rw [List.getElem?_map, Option.map_eq_some_iff] at hy
    obtain ⟨z, hz', rfl⟩ := hy
    rw [deq_int]
    simp only [decide_eq_false_iff_not]
    intro e
    subst e
    have := List.not_of_lt_findIdx (xs := P) (p := (· == z)) (i := i) (by simpa [List.idxOf] using hi)
    have hi' : i < P.length := by omega
    rw [List.getElem?_eq_getElem hi'] at hz'
    simp at this hz'
    exact absurd hz' (by simpa using this)
theorem rep_list_type {H : List Addr} {h : Heap} {v : Value} {l : List D} (r : Rep W H h v (.list l)) : ∃ b ob, v = .ref b ∧ h.get? b = some ob ∧ ob.cls = .type "list" ∧ ob.dict = none := by
  cases r with
  | list n pl q => obtain ⟨o, n, e, c, dn, dd⟩ := pl; exact ⟨_, o, rfl, e, c, dn⟩
/-- places.index(e) -/
theorem ev_index {o : Expr} {e : Expr} {ap pos : Pos} {K : D → W.Δ → Prop} (h : evW W C o (fun a δ₁ => ∃ P, a = .list (dints P) ∧ P.length < 2 ^ 60 ∧ evW W C e (fun d δ₂ => ∃ x, d = .int x ∧ x ∈ P ∧ K (.int (idxI P x)) δ₂) m δ₁) m δ)
    (hs : noStar [e] = true := by rfl) (hline : (ap.endLine == pos.line) = true := by rfl)
    (hb : attributeBase o "index" C.env (eval o C.env) = eval o C.env := by rfl) : evW W C (.Call (.Attribute o "index" ap) [e] [] pos) K m δ := by
  refine ev_meth PySem.F.plainAttrs_list PySem.F.slot_list_index PySem.F.type_list_index ?_ hs hline (by simp) hb
  refine ev_mono h fun a δ1 ⟨P, e1, hz, h1⟩ => ?_
  subst e1
  refine ⟨fun H h v r => rep_list_type r, evs_cons (ev_mono h1 fun d δ2 ⟨x, e2, hx, hk⟩ => ?_)⟩
  subst e2
  exact evs_nil (b_index_int hx hz hk)

theorem enumD_lines (l : List Line) : enumD (l.map lineD) = l.zipIdx.map fun p => D.tup [.int (p.2 : Nat), lineD p.1] := by
  unfold enumD
  apply List.ext_getElem?
  intro i
  simp only [List.getElem?_mapIdx, List.getElem?_map, List.getElem?_zipIdx]
  cases l[i]? <;> simp

def lab1 (P : List Int) (p : Line × Nat) : List Line := (if (P.any fun y => decide (y = (p.2 : Int))) = true then [(("label" : Str), idxI P (p.2 : Nat))] else []) ++ [if isJ p.1.1 = true then (p.1.1, idxI P p.1.2) else p.1]
def lab (l : List Line) : List Line := l.zipIdx.flatMap (lab1 (met l))
theorem lab1_len (P : List Int) (p : Line × Nat) : (lab1 P p).length ≤ 2 := by unfold lab1; split <;> simp

theorem labelled_ok (X : (heapK W.w.params).In W.hb) (B : Boot W) {K : D → W.Δ → Prop} {n : Nat} {l : List Line} (hn : 3 ≤ n) (hl : l.length < 64) (hw : CodeOk l) (hm : ∀ p ∈ l, isJ p.1 = true → p.2 ∈ met l) (hml : (met l).length < 64) (h : K (.list ((lab l).map lineD)) δ) : CallOK W 75 n [.list (l.map lineD)] K δ := by
  obtain ⟨n, rfl⟩ : ∃ k, n = k + 1 := ⟨n - 1, by omega⟩
  refine call_body ["code"] (X _ _ (by rfl)) rfl (codeRec_of X (by rfl)) rfl rfl (by rintro (_ | ⟨v, _ | ⟨_, _⟩⟩) h <;> first | rfl | cases h) rfl rfl (by decide) fun A L => ?_
  rw [argM_cons, argM_nil]
  walk_at "lap"
  refine ev_call (gfun X (by rfl)) (X _ _ (by rfl)) rfl (evs_cons (ev_name (by walk_at "lk") (evs_nil (met_places_ok X B (by show 2 ≤ n; omega) (by omega) hw ?_))))
  walk_at "lap"
  have hsz : 128 ≤ sizeLine := by decide
  generalize hP : met l = P at *
  refine ex_for (it_enum (gnone X (by rfl)) (gblt B (by boot_fast)) (ev_name (by walk_at "lk") ⟨_, rfl, ?_⟩))
  rw [enumD_lines]
  refine loop_ind (Inv := fun r m δ' => δ' = δ ∧ (∀ p ∈ r, p.1.1 ∈ rowW ∧ (isJ p.1.1 = true → p.1.2 ∈ P)) ∧ ∃ a acc, m "found" = some (.own a (.list (acc.map lineD))) ∧ m "places" = some (.val (.list (dints P))) ∧ acc ++ r.flatMap (lab1 P) = lab l ∧ acc.length + 2 * r.length ≤ 2 * l.length) ?_ ?_ l.zipIdx
    ⟨rfl, fun p hp => ?_, _, [], (show _ = some (Ent.own _ (D.list [])) by walk_at "lk"), by walk_at "lk", by simp [lab, hP], by simp⟩
  · rintro ⟨⟨w, o⟩, i⟩ r m δ' ⟨rfl, hr, a, acc, h1, h2, h3, h4⟩
    simp only [List.length_cons] at h4
    have hr' := fun p hp => hr p (List.mem_cons_of_mem _ hp)
    have hr0 := hr _ List.mem_cons_self
    rw [List.flatMap_cons] at h3
    walk_at "lap"
    refine o_in (dints_ok P 7) trivial ?_
    rw [dints_any]
    walk_at "lap"
    split
    · rename_i hc
      have e1 : lab1 P ((w, o), i) = [(("label" : Str), idxI P (i : Nat)), if isJ w = true then (w, idxI P o) else (w, o)] := by simp only [lab1]; rw [if_pos hc]; rfl
      rw [e1] at h3
      walk_at "lap"
      · refine ev_index (ev_name (by walk_at "lk") ⟨_, rfl, by omega, ?_⟩)
        walk_at "lap"
        refine ⟨by simpa using hc, ?_⟩
        refine evs_nil ?_
        rw [show List.map lineD acc ++ [D.tup [D.str (Str.ofString "label"), D.int (idxI P ((((w, o), i) : Line × Nat).2 : Nat))]] = (acc ++ [(("label" : Str), idxI P (i : Nat))]).map lineD by simp [lineD]]
        walk_at "lap"
        · refine te_isj X (by show 1 ≤ n; omega) ?_
          walk_at "lap"
          refine ⟨hr0.1, ?_⟩
          split
          · rename_i hj
            simp only [if_pos hj] at h3
            walk_at "lap"
            refine ev_index (ev_name (by walk_at "lk") ⟨_, rfl, by omega, ?_⟩)
            walk_at "lap"
            refine ⟨hr0.2 hj, ?_⟩
            walk_at "lap"
            exact ⟨rfl, hr', _, _, upd_lines, by walk_at "lk", by simpa using h3, by simp; omega⟩
          · rename_i hj
            simp only [if_neg hj] at h3
            walk_at "lap"
            exact ⟨rfl, hr', _, _, upd_lines, by walk_at "lk", by simpa using h3, by simp; omega⟩
        · rw [lines_len]; simp; omega
      · rw [lines_len]; omega
    · rename_i hc
      have e1 : lab1 P ((w, o), i) = [if isJ w = true then (w, idxI P o) else (w, o)] := by simp only [lab1]; rw [if_neg hc]; rfl
      rw [e1] at h3
      walk_at "lap"
      · refine te_isj X (by show 1 ≤ n; omega) ?_
        walk_at "lap"
        refine ⟨hr0.1, ?_⟩
        split
        · rename_i hj
          simp only [if_pos hj] at h3
          walk_at "lap"
          refine ev_index (ev_name (by walk_at "lk") ⟨_, rfl, by omega, ?_⟩)
          walk_at "lap"
          refine ⟨hr0.2 hj, ?_⟩
          walk_at "lap"
          exact ⟨rfl, hr', _, _, upd_lines, by walk_at "lk", by simpa using h3, by simp; omega⟩
        · rename_i hj
          simp only [if_neg hj] at h3
          walk_at "lap"
          exact ⟨rfl, hr', _, _, upd_lines, by walk_at "lk", by simpa using h3, by simp; omega⟩
      · rw [lines_len]; omega
  · rintro m δ' ⟨rfl, hr, a, acc, h1, h2, h3, h4⟩
    refine st_freeze "found" h1 ?_
    walk_at "lap"
    have e : acc = lab l := by simpa using h3
    rw [e]; exact h
  · obtain ⟨q, i⟩ := p
    have := List.mem_zipIdx hp
    have hq : q ∈ l := by rw [this.2.2]; exact List.getElem_mem ..
    exact ⟨hw q hq, fun hj => hm q hq hj⟩
end

end
/-! part P6 -/
section
section
variable {W : Wd} {C : FC} {m : Map} {δ : W.Δ}
theorem fv_get {fv : List Str} {x : Str} {r : Option Ent} (hx : x ∈ fv) (h : m x = r) : fvMap fv m x = r := by unfold fvMap; rw [if_pos hx]; exact h
def keepL (used : List Int) (l : List Line) : List Line := l.filter fun p => p.1 != ("label" : Str) || used.any fun y => decide (y = p.2)
def woU (l : List Line) : List Line := keepL (keysOf (lops l)) l
theorem filterMap_keep {α : Type} (f : α → D) (q : α → Bool) (l : List α) : l.filterMap (fun x => if q x = true then some (f x) else none) = (l.filter q).map f := by
  induction l with
  | nil => rfl
  | cons a r ih => rw [List.filterMap_cons, List.filter_cons]; by_cases h : q a = true <;> simp [h, ih]
theorem map_map_eq {α : Type} (f : α → D) (l : List α) : l.filterMap (fun x => some (f x)) = l.map f := by simp

theorem without_unused_ok (X : (heapK W.w.params).In W.hb) {K : D → W.Δ → Prop} {n : Nat} {l : List Line} (hn : 3 ≤ n) (hl : l.length ≤ sizeLine) (hw : WordsOk l) (h : K (.list ((woU l).map lineD)) δ) : CallOK W 87 n [.list (l.map lineD)] K δ := by
  obtain ⟨n, rfl⟩ : ∃ k, n = k + 1 := ⟨n - 1, by omega⟩
  refine call_body ["lines"] (X _ _ (by rfl)) rfl (codeRec_of X (by rfl)) rfl rfl (by rintro (_ | ⟨v, _ | ⟨_, _⟩⟩) h <;> first | rfl | cases h) rfl rfl (by decide) fun A L => ?_
  rw [argM_cons, argM_nil]
  refine st_cons (ex_assign ?_ (.inr ⟨rfl, _, rfl, List.Mem.head _⟩))
  refine ev_call (gfun X (by rfl)) (X _ _ (by rfl)) rfl (evs_cons (ev_name (by walk_at "lk") (evs_nil (labels_used_ok X (by show 2 ≤ n; omega) hl hw ?_))))
  walk_at "lap"
  refine ev_comp ["used"] _ rfl (fun x hx => by rw [List.mem_singleton.mp hx]; exact ⟨rfl, rfl, rfl, _, by walk_at "lk"⟩) (fun x c h => h) (it_list (ev_name (by walk_at "lk") ⟨_, rfl, ?_⟩) (.inl fun _ _ => rfl))
  · refine ⟨by rw [lines_len]; exact hl, fun L' => ?_⟩
    refine comp_fm (g := fun p => if (p.1 != ("label" : Str) || (keysOf (lops l)).any fun y => decide (y = p.2)) = true then some (lineD p) else none) (fun m => m "used" = some (.val (.dict (dT (keysOf (lops l)))))) l ?_ (fv_get (by simp) (by walk_at "lk")) ?_
    · rintro ⟨w, o⟩ hp m hm
      walk_at "lap"
      split
      · rename_i hc
        refine ⟨rfl, ?_⟩
        rw [if_pos rfl]
        walk_at "lap"
        exact ⟨rfl, if_pos (by simp only [hc]; rfl), by walk_at "lk"⟩
      · rename_i hc
        walk_at "lap"
        rw [dget_dT]
        split
        · rename_i hu
          refine ⟨rfl, ?_⟩
          rw [if_pos rfl]
          walk_at "lap"
          exact ⟨rfl, if_pos (by rw [hu]; simp), by walk_at "lk"⟩
        · rename_i hu
          walk_at "lap"
          refine ⟨rfl, ?_⟩
          rw [if_neg (by simp)]
          exact ⟨if_neg (by rw [Bool.or_eq_true]; exact fun q => q.elim hc hu), by walk_at "lk"⟩
    · rw [filterMap_keep]; exact h

theorem ex_while' {t : Expr} {body : List Stmt} {pos : Pos} {P : Fl → Map → W.Δ → Prop} (I : Nat → Map → W.Δ → Prop) (Dn : Map → W.Δ → Prop) (h0 : ∃ n, I n m δ)
    (turn : ∀ n m δ, I n m δ → teW W C t (fun b δ₁ => if b = true then stW W C body (fun fl m2 δ2 => match fl with | .next => ∃ n', n' < n ∧ I n' m2 δ2 | .ret d => P (.ret d) m2 δ2) m δ₁ else Dn m δ₁) m δ)
    (done : ∀ m δ, Dn m δ → P .next m δ) : exW W C (.While t body [] pos) P m δ :=
  ex_while I h0 fun n m δ hI => teW_mono (turn n m δ hI) fun b δ' h => by cases b with | true => exact h | false => exact done _ _ h

def behind (l : List Line) (i : Nat) : D := match (l.drop i).find? fun p => p.1 != ("label" : Str) with
  | some p => lineD p
  | none => .none
theorem behind_lt {l : List Line} {i : Nat} (hi : i < l.length) : behind l i = if (l[i].1 == ("label" : Str)) = true then behind l (i + 1) else lineD l[i] := by
  unfold behind
  rw [List.drop_eq_getElem_cons hi, List.find?_cons]
  by_cases q : l[i].1 = ("label" : Str)
  · simp [q]
  · have h1 : (l[i].1 != ("label" : Str)) = true := by simpa using q
    have h2 : (l[i].1 == ("label" : Str)) = false := by simpa using q
    simp only [h1, h2]; rfl
theorem behind_ge {l : List Line} {i : Nat} (hi : l.length ≤ i) : behind l i = .none := by
  unfold behind; rw [List.drop_eq_nil_of_le hi]; rfl

theorem line_behind_ok (X : (heapK W.w.params).In W.hb) (B : Boot W) {K : D → W.Δ → Prop} {n i : Nat} {l : List Line} (hn : 1 ≤ n) (hl : l.length ≤ sizeLine) (hi : i ≤ l.length) (h : K (behind l i) δ) : CallOK W 94 n [.list (l.map lineD), .int (i : Nat)] K δ := by
  obtain ⟨n, rfl⟩ : ∃ k, n = k + 1 := ⟨n - 1, by omega⟩
  refine call_body ["lines", "at"] (X _ _ (by rfl)) rfl (codeRec_of X (by rfl)) rfl rfl (by rintro (_ | ⟨v, _ | ⟨_, _ | ⟨_, _⟩⟩⟩) h <;> first | rfl | cases h) rfl rfl (by decide) fun A L => ?_
  rw [argM_cons, argM_cons, argM_nil]
  have hsz : (l.length : Int) < 2 ^ 62 := by have : sizeLine < 2 ^ 62 := by decide
                                             omega
  refine st_cons (ex_while' (I := fun k m δ' => δ' = δ ∧ ∃ j : Nat, k = l.length - j ∧ j ≤ l.length ∧ behind l j = behind l i ∧ m "lines" = some (.val (.list (l.map lineD))) ∧ m "at" = some (.val (.int (j : Nat))))
    (fun m δ' => δ' = δ ∧ ∃ j : Nat, j ≤ l.length ∧ behind l j = behind l i ∧ (∀ (hj : j < l.length), (l[j].1 == ("label" : Str)) = false) ∧ m "lines" = some (.val (.list (l.map lineD))) ∧ m "at" = some (.val (.int (j : Nat)))) ⟨_, rfl, i, rfl, hi, rfl, by walk_at "lk", by walk_at "lk"⟩ ?_ ?_)
  · rintro k m δ' ⟨rfl, j, rfl, hj, hb, h1, h2⟩
    walk_at "lap"
    refine ev_callb (gnone X (by rfl)) (gblt B (by boot_fast)) (evs_cons (ev_name (by walk_at "lk") (evs_nil (b_len (by rw [lines_len]; omega) ?_))))
    rw [lines_len]
    walk_at "lap"
    split
    · rename_i hlt
      have hlt' : j < l.length := by simpa using hlt
      have hbl := behind_lt hlt'
      walk_at "lap"
      refine o_item (by omega) (by omega) (d := lineD l[j]) (by rw [Int.toNat_natCast, List.getElem?_map, List.getElem?_eq_getElem hlt']; rfl) ?_
      walk_at "lap"
      split
      · rename_i hc
        rw [if_pos hc] at hbl
        walk_at "lap"
        rw [if_pos rfl]
        walk_at "lap"
        exact ⟨_, by omega, rfl, j + 1, rfl, hlt', hbl.symm.trans hb, by walk_at "lk", by push_cast; walk_at "lk"⟩
      · rename_i hc
        rw [if_neg (by simp)]
        exact ⟨rfl, j, hj, hb, fun _ => by simpa using hc, h1, h2⟩
    · rename_i hlt
      have hge : l.length ≤ j := by simpa using hlt
      rw [if_neg (by simp)]
      exact ⟨rfl, j, hj, hb, fun q => absurd q (by omega), h1, h2⟩
  · rintro m δ' ⟨rfl, j, hj, hb, hc, h1, h2⟩
    walk_at "lap"
    refine ev_callb (gnone X (by rfl)) (gblt B (by boot_fast)) (evs_cons (ev_name (by walk_at "lk") (evs_nil (b_len (by rw [lines_len]; omega) ?_))))
    rw [lines_len]
    walk_at "lap"
    split
    · rename_i hlt
      have hlt' : j < l.length := by simpa using hlt
      have hbl := behind_lt hlt'
      rw [if_neg (by rw [hc hlt']; simp)] at hbl
      walk_at "lap"
      refine o_item (by omega) (by omega) (d := lineD l[j]) (by rw [Int.toNat_natCast, List.getElem?_map, List.getElem?_eq_getElem hlt']; rfl) ?_
      walk_at "lap"
      show K _ _
      rw [flD, ← hbl, hb]; exact h
    · rename_i hlt
      have hge : l.length ≤ j := by simpa using hlt
      walk_at "lap"
      show K _ _
      rw [flD, ← behind_ge hge, hb]; exact h

/-! label_lines -/
def lln : List (Line × Nat) → List (Int × Int) → List (Int × Int)
  | [], f => f
  | ((w, o), i) :: r, f => if (w == ("label" : Str)) = true then lln r (iset f o (i : Nat)) else lln r f
theorem label_lines_ok (X : (heapK W.w.params).In W.hb) (B : Boot W) {n : Nat} {l : List Line} {K : D → W.Δ → Prop} {δ : W.Δ} (hn : 1 ≤ n) (hl : l.length ≤ sizeLine) (h : K (.dict (dI (lln l.zipIdx []))) δ) : CallOK W 101 n [.list (l.map lineD)] K δ := by
  obtain ⟨n, rfl⟩ : ∃ k, n = k + 1 := ⟨n - 1, by omega⟩
  refine call_body ["lines"] (X _ _ (by rfl)) rfl (codeRec_of X (by rfl)) rfl rfl (by rintro (_ | ⟨v, _ | ⟨_, _⟩⟩) h <;> first | rfl | cases h) rfl rfl (by decide) fun A L => ?_
  rw [argM_cons, argM_nil]
  walk_at "lap"
  refine ex_for (it_enum (gnone X (by rfl)) (gblt B (by boot_fast)) (ev_name (by walk_at "lk") ⟨_, rfl, ?_⟩))
  rw [enumD_lines]
  refine loop_ind (Inv := fun r m δ' => δ' = δ ∧ ∃ a f, m "found" = some (.own a (.dict (dI f))) ∧ lln r f = lln l.zipIdx [] ∧ f.length + r.length ≤ l.length) ?_ ?_ _ ⟨rfl, _, [], (show _ = some (Ent.own _ (D.dict [])) by walk_at "lk"), rfl, by simp⟩
  · rintro ⟨⟨w, o⟩, i⟩ r m δ' ⟨rfl, a, f, h1, h3, h4⟩
    simp only [List.length_cons] at h4
    have hd := iset_len f o (i : Nat)
    change (if _ then _ else _) = _ at h3
    walk_at "lap"
    split
    · rename_i hc
      rw [if_pos hc] at h3
      walk_at "lap"
      · exact ⟨rfl, _, _, by rw [← dset_dI]; walk_at "lk", h3, by omega⟩
      · rw [dI_len]; omega
    · rename_i hc
      rw [if_neg hc] at h3
      walk_at "lap"
      exact ⟨rfl, _, _, by walk_at "lk", h3, by omega⟩
  · rintro m δ' ⟨rfl, a, f, h1, h3, h4⟩
    refine st_freeze "found" h1 ?_
    walk_at "lap"
    have e : f = lln l.zipIdx [] := h3
    rw [← e] at h
    exact h
end

end
/-! part P7 -/
section
section
variable {W : Wd} {C : FC} {m : Map} {δ : W.Δ}
mutual
theorem deq_refl : ∀ d : D, deq d d = true
  | .none => rfl
  | .bool b => by simp [deq, D.py, PyData.eqv]
  | .int i => by simp [deq, D.py, PyData.eqv]
  | .str x => by simp [deq, D.py, PyData.eqv]
  | .list l => by simp only [deq, D.py, PyData.eqv]; exact deqAll_refl l
  | .tup l => by simp only [deq, D.py, PyData.eqv]; exact deqAll_refl l
  | .dict _ => rfl
  | .deck _ => rfl
theorem deqAll_refl : ∀ l : List D, PyData.eqvAll (pys l) (pys l) = true
  | [] => rfl
  | d :: r => by simp only [pys, PyData.eqvAll, Bool.and_eq_true]; exact ⟨deq_refl d, deqAll_refl r⟩
end
theorem deq_str (x y : Str) : deq (.str x) (.str y) = (x == y) := by simp [deq, D.py, PyData.eqv]
theorem deq_nil (l : List D) : deq (.list l) (.list []) = l.isEmpty := by cases l <;> simp [deq, D.py, pys, PyData.eqv, PyData.eqvAll]

def badW : List Str := ["jump", "hop", "label"]
def AllW (l : List Line) : Prop := ∀ p ∈ l, p.1 ∈ rowW ∨ p.1 ∈ badW
theorem allW_ok {w : Str} (h : w ∈ rowW ∨ w ∈ badW) (n : Nat) : Ok n (.str w) := by
  have : (rowW ++ badW).all (fun x => PyData.strOk x) = true := by decide +kernel
  have := List.all_eq_true.mp this w (List.mem_append.mpr h)
  cases n <;> exact this
theorem badAt (P : Params) : ∀ w ∈ badW, nsIn (heapK P) 16 w = some none ∧ (rowW.any (· == w)) = false := by
  unfold badW
  intro w hw
  repeat' (first | (rcases List.mem_cons.mp hw with rfl | hw; exact ⟨by rfl, by decide⟩) | cases hw)

theorem te_notrow (X : (heapK W.w.params).In W.hb) {K : Bool → W.Δ → Prop} {e : Expr} {p pos : Pos} (h : evW W C e (fun d δ' => ∃ w, d = .str w ∧ (w ∈ rowW ∨ w ∈ badW) ∧ K (!(rowW.any (· == w))) δ') m δ)
    (hk : C.env.kindOf "ROWS" = some .globalImplicit := by rfl) (hm : behindInMarks .NotIn (.Name "ROWS" p) = false := by with_unfolding_all rfl) : teW W C (.Compare e [.NotIn] [.Name "ROWS" p] pos) K m δ := fun E s H R => by
  refine wpAny_isTrue_Compare1 (wpAny_mono (h E s H R) ?_ fun _ _ e => e) hm
  rintro v s1 ⟨d, δ1, k1, G1, r1, w, rfl, hw, h1⟩
  refine global_name (R.keepX k1 G1) hk (gfun X (v := .ref 16) (by rfl)) ?_ (by decide)
  cases r1
  obtain ⟨es, n, hl, hkeys⟩ := rowKeys X
  have X1 : (heapK W.w.params).In s1.heap := X.keeps fun b o e => (G1.base b o e).1
  have hmm := mapOf_K (prog := W.prog) X1 hl hkeys
  have k2 : KeepA s1 { s1 with toks := s1.toks + 1 } := .tok
  rcases hw with hw | hw
  · obtain ⟨a, k, t, i1, i2, i3, i4, t1, t2, t3, t4, n', dd, sl, e1, e2, e3⟩ := rowsAt W.w.params w hw
    refine wpAny_notIn_of (strKind_is W.prog W.w w _) (by decide) hmm ?_
    rw [find_K hl e1]
    refine wpAny_truthy_bool ⟨δ1, k1.trans k2.x, G1.keep k2, ?_⟩
    have : rowW.any (· == w) = true := List.any_eq_true.mpr ⟨w, hw, by simp⟩
    rw [this] at h1; exact h1
  · obtain ⟨e1, e2⟩ := badAt W.w.params w hw
    refine wpAny_notIn_of (strKind_is W.prog W.w w _) (by decide) hmm ?_
    rw [find_K hl e1]
    refine wpAny_truthy_bool ⟨δ1, k1.trans k2.x, G1.keep k2, ?_⟩
    rw [e2] at h1; exact h1

theorem ev_ends (X : (heapK W.w.params).In W.hb) {K : D → W.Δ → Prop} {p : Pos} (h : K (.tup [.str "goto", .str "return"]) δ) (hk : C.env.kindOf "ENDS" = some .globalImplicit := by rfl) : evW W C (.Name "ENDS" p) K m δ := by
  refine ev_glob (gfun X (v := .ref 15) (by rfl)) (fun H δ s G => ?_) h hk
  have e := X 15 _ (by rfl)
  exact .tup (vs := [.str "goto" _, .str "return" _]) (G.base _ _ e).2 ⟨_, (G.base _ _ e).1, rfl, _, rfl⟩ (.cons (.str _ _) (.cons (.str _ _) .nil))

def atD (i : Int) (x : Str) : D := .tup [.int i, .str x]
def err1 : List (Line × Nat) → List Int → D ⊕ List Int
  | [], f => .inr f
  | ((w, o), i) :: r, f => if (w == ("label" : Str)) = true then (if (f.any fun y => decide (y = o)) = true then .inl (atD (i : Nat) "label twice") else err1 r (addK f o)) else err1 r f
def err2 (f : List Int) : List (Line × Nat) → Option D
  | [] => none
  | ((w, o), i) :: r => if (w != ("label" : Str)) = true then (if (!(rowW.any (· == w))) = true then some (atD (i : Nat) "word") else if (isJ w && !(f.any fun y => decide (y = o))) = true then some (atD (i : Nat) "no label") else err2 f r) else err2 f r
def endOk (l : List Line) : Bool := match l.getLast? with
  | none => false
  | some p => p.1 == ("goto" : Str) || p.1 == ("return" : Str)
def errE (l : List Line) : D := if endOk l = true then .none else atD (l.length - 1) "end"
def errP (l : List Line) : D := match err1 l.zipIdx [] with
  | .inl d => d
  | .inr f => match err2 f l.zipIdx with
    | some d => d
    | none => errE l
theorem isJ_row {w : Str} (h : isJ w = true) : w ∈ rowW := by
  have : ∀ x ∈ jumpW, x ∈ rowW := by decide
  obtain ⟨x, hx, e⟩ := List.any_eq_true.mp h
  have e' : x = w := by simpa using e
  exact e' ▸ this x hx

theorem lines_error_ok (X : (heapK W.w.params).In W.hb) (B : Boot W) {n : Nat} {l : List Line} {K : D → W.Δ → Prop} {δ : W.Δ} (hn : 2 ≤ n) (hl : l.length ≤ sizeLine) (hw : AllW l) (h : K (errP l) δ) : CallOK W 108 n [.list (l.map lineD)] K δ := by
  obtain ⟨n, rfl⟩ : ∃ k, n = k + 1 := ⟨n - 1, by omega⟩
  refine call_body ["lines"] (X _ _ (by rfl)) rfl (codeRec_of X (by rfl)) rfl rfl (by rintro (_ | ⟨v, _ | ⟨_, _⟩⟩) h <;> first | rfl | cases h) rfl rfl (by decide) fun A L => ?_
  rw [argM_cons, argM_nil]
  have hsz : (l.length : Int) < 2 ^ 62 := by have : sizeLine < 2 ^ 62 := by decide
                                             omega
  walk_at "lap"
  refine ex_for (it_enum (gnone X (by rfl)) (gblt B (by boot_fast)) (ev_name (by walk_at "lk") ⟨_, rfl, ?_⟩))
  rw [enumD_lines]
  refine loop_ind (Inv := fun r m δ' => δ' = δ ∧ ∃ a f, m "known" = some (.own a (.dict (dT f))) ∧ m "lines" = some (.val (.list (l.map lineD))) ∧ err1 r f = err1 l.zipIdx [] ∧ f.length + r.length ≤ l.length) ?_ ?_ _ ⟨rfl, _, [], (show _ = some (Ent.own _ (D.dict [])) by walk_at "lk"), by walk_at "lk", rfl, by simp⟩
  · rintro ⟨⟨w, o⟩, i⟩ r m δ' ⟨rfl, a, f, h1, h2, h3, h4⟩
    simp only [List.length_cons] at h4
    have hd := addK_len f o
    change (if _ then (if _ then _ else _) else _) = _ at h3
    walk_at "lap"
    split
    · rename_i hc
      rw [if_pos hc] at h3
      refine st_cons (ex_if (te_in_own (by walk_at "lk") ?_))
      walk_at "lap"
      rw [dget_dT]
      split
      · rename_i hf
        rw [if_pos hf] at h3
        walk_at "lap"
        show K _ _
        have e : errP l = atD (i : Nat) "label twice" := by unfold errP; rw [← h3]
        rw [e] at h; exact h
      · rename_i hf
        rw [if_neg hf] at h3
        walk_at "lap"
        · exact ⟨rfl, _, _, by rw [← dset_dT]; walk_at "lk", by walk_at "lk", h3, by omega⟩
        · rw [dT_len]; omega
    · rename_i hc
      rw [if_neg hc] at h3
      walk_at "lap"
      exact ⟨rfl, _, _, by walk_at "lk", by walk_at "lk", h3, by omega⟩
  · rintro m δ' ⟨rfl, a, f, h1, h2, h3, h4⟩
    refine st_freeze "known" h1 ?_
    have h1e : err1 l.zipIdx [] = .inr f := h3.symm
    have h1' : errP l = match err2 f l.zipIdx with | some d => d | none => errE l := by unfold errP; rw [h1e]
    have g1 : upd m "known" (.val (.dict (dT f))) "known" = some (.val (.dict (dT f))) := upd_self
    have g2 : upd m "known" (.val (.dict (dT f))) "lines" = some (.val (.list (l.map lineD))) := by walk_at "lk"
    revert g1 g2
    generalize upd m "known" (.val (.dict (dT f))) = m'
    intro g1 g2
    walk_at "lap"
    refine ex_for (it_enum (gnone X (by rfl)) (gblt B (by boot_fast)) (ev_name (by walk_at "lk") ⟨_, rfl, ?_⟩))
    rw [enumD_lines]
    have hAll : ∀ p ∈ l.zipIdx, p.1.1 ∈ rowW ∨ p.1.1 ∈ badW := fun ⟨q, i⟩ hp => hw q (by have := List.mem_zipIdx hp; rw [this.2.2]; exact List.getElem_mem ..)
    refine loop_ind (Inv := fun r m δ2 => δ2 = δ' ∧ (∀ p ∈ r, p.1.1 ∈ rowW ∨ p.1.1 ∈ badW) ∧ m "known" = some (.val (.dict (dT f))) ∧ m "lines" = some (.val (.list (l.map lineD))) ∧ err2 f r = err2 f l.zipIdx) ?_ ?_ _ ⟨rfl, hAll, g1, g2, rfl⟩
    · rintro ⟨⟨w, o⟩, i⟩ r m δ2 ⟨rfl, hr, k1, k2, k3⟩
      have hr' := fun p hp => hr p (List.mem_cons_of_mem _ hp)
      have hr0 := hr _ List.mem_cons_self
      change (if _ then (if _ then _ else (if _ then _ else _)) else _) = _ at k3
      walk_at "lap"
      split
      · rename_i hc
        rw [if_pos hc] at k3
        refine st_cons (ex_if (te_notrow X ?_))
        walk_at "lap"
        refine ⟨hr0, ?_⟩
        split
        · rename_i hrw
          rw [if_pos hrw] at k3
          walk_at "lap"
          show K _ _
          rw [h1', ← k3] at h
          exact h
        · rename_i hrw
          rw [if_neg hrw] at k3
          have hwr : w ∈ rowW := by
            have q : rowW.any (· == w) = true := by simpa using hrw
            obtain ⟨x, hx, e⟩ := List.any_eq_true.mp q
            have e' : x = w := by simpa using e
            exact e' ▸ hx
          walk_at "lap"
          refine te_isj X (by show 1 ≤ n; omega) ?_
          walk_at "lap"
          refine ⟨hwr, ?_⟩
          split
          · rename_i hj
            walk_at "lap"
            rw [dget_dT]
            simp only [hj, Bool.true_and] at k3
            split
            · rename_i hu
              rw [if_pos hu] at k3
              walk_at "lap"
              rw [if_pos rfl]
              walk_at "lap"
              show K _ _
              rw [h1', ← k3] at h
              exact h
            · rename_i hu
              rw [if_neg hu] at k3
              rw [if_neg (by simp)]
              walk_at "lap"
              exact ⟨rfl, hr', by walk_at "lk", by walk_at "lk", k3⟩
          · rename_i hj
            rw [if_neg (by simp [hj])] at k3
            rw [if_neg (by simp)]
            walk_at "lap"
            exact ⟨rfl, hr', by walk_at "lk", by walk_at "lk", k3⟩
      · rename_i hc
        rw [if_neg hc] at k3
        walk_at "lap"
        exact ⟨rfl, hr', by walk_at "lk", by walk_at "lk", k3⟩
    · rintro m δ2 ⟨rfl, hr, k1, k2, k3⟩
      have k3' : err2 f l.zipIdx = none := k3.symm
      rw [h1', k3'] at h
      have okl : Ok 8 (.list (l.map lineD)) := by
        intro d hd
        obtain ⟨p, hp, rfl⟩ := List.mem_map.mp hd
        intro e he
        simp only [List.mem_cons, List.not_mem_nil, or_false] at he
        rcases he with rfl | rfl
        · exact allW_ok (hw p hp) 6
        · trivial
      walk_at "lap"
      refine o_eq okl (by intro d hd; cases hd) ?_
      rw [deq_nil]
      walk_at "lap"
      rcases List.eq_nil_or_concat l with hnil | ⟨l', p, hcat⟩
      · subst hnil
        rw [show (List.map lineD ([] : List Line)).isEmpty = true from rfl, if_pos rfl, if_pos rfl]
        walk_at "lap"
        refine ev_callb (gnone X (by rfl)) (gblt B (by boot_fast)) (evs_cons (ev_name (by walk_at "lk") (evs_nil (b_len (by simp) ?_))))
        walk_at "lap"
        exact h
      · rw [List.concat_eq_append] at hcat
        have hne : (l.map lineD).isEmpty = false := by rw [hcat]; simp
        have hlen : l.length = l'.length + 1 := by rw [hcat]; simp
        have hlast : (l.map lineD)[(-1 + (l.map lineD).length : Int).toNat]? = some (lineD p) := by
          rw [lines_len, show ((-1 + (l.length : Int)).toNat) = l'.length by omega, hcat]; simp
        have hpm : p ∈ l := by rw [hcat]; simp
        have hend : endOk l = (p.1 == ("goto" : Str) || p.1 == ("return" : Str)) := by unfold endOk; rw [hcat]; simp
        rw [hne, if_neg (by simp)]
        walk_at "lap"
        refine o_itemNeg (by omega) (by omega) (by rw [lines_len]; omega) hlast ?_
        walk_at "lap"
        refine ev_ends X (o_notint (by intro d hd; simp only [List.mem_cons, List.not_mem_nil, or_false] at hd; rcases hd with rfl | rfl <;> exact allW_ok (.inl (by decide)) 7) (allW_ok (hw p hpm) 8) ?_)
        have hany : ([D.str "goto", D.str "return"].any fun y => deq y (.str p.1)) = endOk l := by
          rw [hend]; simp only [List.any_cons, List.any_nil, deq_str, Bool.or_false]
          congr 1 <;> exact Bool.beq_comm
        rw [hany]
        walk_at "lap"
        cases he : endOk l with
        | false =>
          rw [Bool.not_false, if_pos rfl, if_pos rfl]
          walk_at "lap"
          refine ev_callb (gnone X (by rfl)) (gblt B (by boot_fast)) (evs_cons (ev_name (by walk_at "lk") (evs_nil (b_len (by rw [lines_len]; omega) ?_))))
          rw [lines_len]
          walk_at "lap"
          unfold errE at h
          rw [he] at h
          exact h
        | true =>
          rw [if_neg (by simp)]
          walk_at "lap"
          rw [if_neg (by simp)]
          walk_at "lap"
          unfold errE at h
          rw [he] at h
          exact h
end

end
/-! part R1 -/
section
local macro_rules | `(tactic| walk_at "lap") => `(tactic| ((with_reducible show evW _ _ (Expr.Subscript (Expr.Name _ _) (Expr.Constant (Const.int 1) _ _) _) _ _ _); refine ev_deck_i (by first | assumption | walk_at "lk") ?_; walk_at "lap"))
section
variable {W0 : Wd} {o c : Addr} {cs : List Int} {C : FC} {m : Map} {δ : Int}
theorem mulok {a b : Int} (h : a.natAbs < 2 ^ 63) : IntMulOk a b := by
  refine IntMulOk.of_left ?_
  unfold Builtin.Int.intBits
  split
  · omega
  · have := Nat.log2_lt (n := a.natAbs) (k := 63) (by simp_all)
    omega
theorem nopy {a b : Int} (h : b.natAbs < 1073741824) : Builtin.divisionGoesByPylong a b = false := PyProof.noPylong_small h
/-- at least N draws are left -/
structure Dr (N : Nat) (δ : Int) : Prop where
  lo : 0 ≤ δ
  hi : δ + N ≤ 1000
theorem Dr.le {N M : Nat} {δ : Int} (h : Dr N δ) (k : M ≤ N) : Dr M δ := ⟨h.lo, by have := h.hi; omega⟩
theorem sq_small {i : Int} (h0 : 0 ≤ i) (h1 : i ≤ 1000) : (i * i).natAbs < 2 ^ 63 := by
  have h2 : i * i ≤ 1000 * 1000 := Int.mul_le_mul h1 h1 h0 (by decide)
  have h3 : 0 ≤ i * i := Int.mul_nonneg h0 h0
  omega
theorem draw_ok (X : (heapK (deck2 W0 o c cs).w.params).In (deck2 W0 o c cs).hb) (B : Boot (deck2 W0 o c cs)) {K : D → Int → Prop} {n N : Nat} {many : Int} (hn : 1 ≤ n) (hc : cs.length ≤ 50) (hm0 : 0 < many) (hδ : Dr (N + 1) δ) (h : ∀ r δ', 0 ≤ r → r < many → Dr N δ' → K (.int r) δ') : CallOK (deck2 W0 o c cs) 115 n [.deck 0, .int many] K δ := by
  obtain ⟨n, rfl⟩ : ∃ k, n = k + 1 := ⟨n - 1, by omega⟩
  refine call_body ["deck", "many"] (X _ _ (by rfl)) rfl (codeRec_of X (by rfl)) rfl rfl (by rintro (_ | ⟨v, _ | ⟨_, _ | ⟨_, _⟩⟩⟩) h <;> first | rfl | cases h) rfl rfl (by decide) fun A L => ?_
  rw [argM_cons, argM_cons, argM_nil]
  have hsz : 2 ^ 10 ≤ sizeLine := by decide
  have l0 := hδ.lo
  have l1 := hδ.hi
  have hδ' : Dr N (δ + 1) := ⟨by omega, by push_cast at l1; omega⟩
  refine st_cons (ex_deck_set (by walk_at "lk") ?_)
  walk_at "lap"
  refine ev_len_deck (gnone X (by rfl)) (gblt B (by boot_fast)) (by walk_at "lk") (by omega) ?_
  walk_at "lap"
  split
  · rename_i hle
    have hle' : δ + 1 ≤ (cs.length : Int) := by simpa using hle
    walk_at "lap"
    refine ev_deck_cell (by walk_at "lk") (by omega) ?_
    walk_at "lap"
    refine ⟨by omega, by omega, fun x => ?_⟩
    walk_at "lap"
    refine o_mod hm0 ?_
    exact h _ _ (Int.emod_nonneg _ (by omega)) (Int.emod_lt_of_pos _ hm0) hδ'
  · walk_at "lap"
    refine o_mul ?_ (mulok (by omega))
    walk_at "lap"
    refine o_mul ?_ (mulok (sq_small (by omega) (by omega)))
    walk_at "lap"
    refine o_mul ?_ (mulok (by decide))
    walk_at "lap"
    refine ev_len_deck (gnone X (by rfl)) (gblt B (by boot_fast)) (by walk_at "lk") (by omega) ?_
    refine o_mul ?_ (mulok (by decide))
    walk_at "lap"
    refine o_fdiv (by decide) ?_ (nopy (by decide))
    walk_at "lap"
    refine o_mod hm0 ?_
    exact h _ _ (Int.emod_nonneg _ (by omega)) (Int.emod_lt_of_pos _ hm0) hδ'
/-- the draw, as an expression -/
theorem ev_draw (X : (heapK (deck2 W0 o c cs).w.params).In (deck2 W0 o c cs).hb) (B : Boot (deck2 W0 o c cs)) {K : D → Int → Prop} {e1 e2 : Expr} {N : Nat} {fp pos : Pos} (hn : 1 ≤ C.n) (hc : cs.length ≤ 50)
    (h : evW (deck2 W0 o c cs) C e1 (fun d δ1 => d = .deck 0 ∧ evW (deck2 W0 o c cs) C e2 (fun d δ2 => ∃ many, d = .int many ∧ 0 < many ∧ Dr (N + 1) δ2 ∧ ∀ r δ', 0 ≤ r → r < many → Dr N δ' → K (.int r) δ') m δ1) m δ)
    (hk : C.env.kindOf "_law_draw" = some .globalImplicit := by rfl) (hs : noStar [e1, e2] = true := by rfl) : evW (deck2 W0 o c cs) C (.Call (.Name "_law_draw" fp) [e1, e2] [] pos) K m δ := by
  refine ev_call (gfun X (by rfl)) (X _ _ (by rfl)) rfl (evs_cons (ev_mono h fun d δ1 ⟨q, h1⟩ => ?_)) hk hs (by decide)
  subst q
  refine evs_cons (ev_mono h1 fun d δ2 ⟨many, q, a, hd, k⟩ => ?_)
  subst q
  exact evs_nil (draw_ok X B hn hc a hd k)
/-- an item picked by a draw -/
theorem pick_ok (X : (heapK (deck2 W0 o c cs).w.params).In (deck2 W0 o c cs).hb) (B : Boot (deck2 W0 o c cs)) {K : D → Int → Prop} {n N : Nat} {l : List D} (hn : 2 ≤ n) (hc : cs.length ≤ 50) (hl0 : 0 < l.length) (hl : l.length ≤ 100) (hδ : Dr (N + 1) δ) (h : ∀ d ∈ l, ∀ δ', Dr N δ' → K d δ') : CallOK (deck2 W0 o c cs) 122 n [.deck 0, .list l] K δ := by
  obtain ⟨n, rfl⟩ : ∃ k, n = k + 1 := ⟨n - 1, by omega⟩
  refine call_body ["deck", "items"] (X _ _ (by rfl)) rfl (codeRec_of X (by rfl)) rfl rfl (by rintro (_ | ⟨v, _ | ⟨_, _ | ⟨_, _⟩⟩⟩) h <;> first | rfl | cases h) rfl rfl (by decide) fun A L => ?_
  rw [argM_cons, argM_cons, argM_nil]
  walk_at "lap"
  refine ev_sub ?_
  walk_at "lap"
  refine ev_draw X B (by show 1 ≤ n; omega) hc (ev_name (by walk_at "lk") ⟨rfl, ev_callb (gnone X (by rfl)) (gblt B (by boot_fast)) (evs_cons (ev_name (by walk_at "lk") (evs_nil (b_len (by omega) ⟨_, rfl, by omega, hδ, fun r δ' h0 h1 hd => ?_⟩))))⟩)
  have hr : r.toNat < l.length := by omega
  exact o_item h0 (by omega) (List.getElem?_eq_getElem hr) (h _ (List.getElem_mem hr) _ hd)
end

end
/-! part N0 -/
section
def isLab (p : Line) : Bool := p.1 == ("label" : Str)
def labsOf (l : List Line) : List Int := (l.filter isLab).map (·.2)
theorem labsOf_append (a b : List Line) : labsOf (a ++ b) = labsOf a ++ labsOf b := by simp [labsOf]
def plc : List Line → Int → Int → Int
  | [], _, _ => -1
  | (w, ov) :: r, x, k => if (w == ("label" : Str) && ov == x) = true then k else plc r x (k + if (w != ("label" : Str)) = true then 1 else 0)

end
/-! part M1 -/
section
/-! plain Lean: what the law asks of a made list -/
theorem iget_iset (f : List (Int × Int)) (k v k' : Int) : iget (iset f k v) k' = if k' = k then some v else iget f k' := by
  unfold iset iget
  split
  · rename_i h
    induction f with
    | nil => simp at h
    | cons p f ih =>
      simp only [List.map_cons, List.find?_cons]
      by_cases hp : p.1 = k
      · by_cases hk : k' = k
        · subst hk; simp [hp]
        · have h1 : ¬ k = k' := fun q => hk q.symm
          have h2 : ¬ p.1 = k' := fun q => hk (q ▸ hp)
          simp only [hp, if_true, h1, decide_false]
          by_cases ha : (f.any fun p => decide (p.1 = k)) = true
          · have := ih ha; simpa [hk] using this
          · have e : f.map (fun p => if p.1 = k then (p.1, v) else p) = f := by
              conv => rhs; rw [← List.map_id f]
              apply List.map_congr_left
              intro q hq
              have : ¬ q.1 = k := fun z => ha (List.any_eq_true.mpr ⟨q, hq, by simpa using z⟩)
              simp [this]
            have e2 : f.map (fun p => if p.1 = k then (k, v) else p) = f := by
              conv => rhs; rw [← List.map_id f]
              apply List.map_congr_left
              intro q hq
              have : ¬ q.1 = k := fun z => ha (List.any_eq_true.mpr ⟨q, hq, by simpa using z⟩)
              simp [this]
            simp [hk, e]
      · have ha : (f.any fun p => decide (p.1 = k)) = true := by simpa [hp] using h
        have := ih ha
        simp only [if_neg hp]
        by_cases hk' : p.1 = k'
        · have : ¬ k' = k := fun z => hp (hk'.trans z)
          simp [hk', this]
        · simp only [hk', decide_false]; exact this
  · rename_i h
    have hn : ∀ p ∈ f, ¬ p.1 = k := fun p hp z => h (List.any_eq_true.mpr ⟨p, hp, by simpa using z⟩)
    rw [List.find?_append]
    by_cases hk : k' = k
    · subst hk
      have : f.find? (fun p => decide (p.1 = k')) = none := List.find?_eq_none.mpr fun p hp => by simpa using hn p hp
      simp [this]
    · have h1 : ¬ k = k' := fun q => hk q.symm
      simp only [if_neg hk]
      cases f.find? (fun p => decide (p.1 = k')) <;> simp [h1]

theorem labsOf_cons (w : Str) (x : Int) (r : List Line) : labsOf ((w, x) :: r) = if (w == ("label" : Str)) = true then x :: labsOf r else labsOf r := by
  unfold labsOf
  rw [List.filter_cons]
  change List.map _ (if (w == ("label" : Str)) = true then (w, x) :: _ else _) = _
  split <;> rfl
theorem plc_cons (w : Str) (x : Int) (r : List Line) (o k : Int) : plc ((w, x) :: r) o k = if (w == ("label" : Str) && x == o) = true then k else plc r o (k + if (w != ("label" : Str)) = true then 1 else 0) := rfl
theorem nolab_cons (w : Str) (x : Int) (r : List Line) : nolab ((w, x) :: r) = if (w == ("label" : Str)) = true then nolab r else (w, x) :: nolab r := by
  unfold nolab
  simp only [List.filter_cons]
  by_cases h : w = ("label" : Str) <;> simp [h]

theorem lpl_out : ∀ (l : List Line) (f : List (Int × Int)) (p o : Int), o ∉ labsOf l → iget (lpl l f p) o = iget f o
  | [], _, _, _, _ => rfl
  | (w, x) :: r, f, p, o, h => by
    rw [labsOf_cons] at h
    show iget (if _ then _ else _) o = _
    split
    · rename_i hc
      rw [if_pos hc] at h
      simp only [List.mem_cons, not_or] at h
      rw [lpl_out r _ _ _ h.2, iget_iset, if_neg h.1]
    · rename_i hc
      rw [if_neg hc] at h
      exact lpl_out r _ _ _ h
theorem lpl_in : ∀ (l : List Line) (f : List (Int × Int)) (p o : Int), (labsOf l).Nodup → o ∈ labsOf l → iget (lpl l f p) o = some (plc l o p)
  | [], _, _, _, _, h => by simp [labsOf] at h
  | (w, x) :: r, f, p, o, hn, h => by
    rw [labsOf_cons] at h hn
    show iget (if _ then _ else _) o = some (if _ then _ else _)
    by_cases hc : (w == ("label" : Str)) = true
    · rw [if_pos hc] at h hn ⊢
      rw [List.nodup_cons] at hn
      by_cases hx : x = o
      · subst hx
        rw [lpl_out r _ _ _ hn.1, iget_iset, if_pos rfl, if_pos (by simp [hc])]
      · have hor : o ∈ labsOf r := by
          rcases List.mem_cons.mp h with q | q
          · exact absurd q.symm hx
          · exact q
        rw [lpl_in r _ _ _ hn.2 hor, if_neg (by simp [hx])]
        have : (w != ("label" : Str)) = false := by simp [bne, hc]
        rw [this]; simp
    · rw [if_neg hc] at h hn ⊢
      have h1 : (w == ("label" : Str)) = false := by simpa using hc
      have : (w != ("label" : Str)) = true := by simp [bne, h1]
      rw [lpl_in r _ _ _ hn h, h1, this]; simp
theorem plc_range : ∀ (l : List Line) (o k : Int), o ∈ labsOf l → k ≤ plc l o k ∧ plc l o k ≤ k + (nolab l).length
  | [], _, _, h => by simp [labsOf] at h
  | (w, x) :: r, o, k, h => by
    rw [labsOf_cons] at h
    rw [nolab_cons]
    show k ≤ (if _ then _ else _) ∧ (if _ then _ else _) ≤ _
    by_cases hc : (w == ("label" : Str)) = true
    · rw [if_pos hc] at h
      have hb : (w != ("label" : Str)) = false := by simp [bne, hc]
      rw [if_pos hc, hb]
      by_cases hx : x = o
      · rw [if_pos (by simp [hc, hx])]; omega
      · have hor : o ∈ labsOf r := by
          rcases List.mem_cons.mp h with q | q
          · exact absurd q.symm hx
          · exact q
        rw [if_neg (by simp [hx])]
        have := plc_range r o k hor
        simpa using this
    · rw [if_neg hc] at h
      have h1 : (w == ("label" : Str)) = false := by simpa using hc
      have hb : (w != ("label" : Str)) = true := by simp [bne, h1]
      rw [if_neg hc, hb, h1]
      have := plc_range r o (k + 1) h
      simp only [Bool.false_and, Bool.false_eq_true, if_false, if_true, List.length_cons]
      omega
theorem plc_last (b : List Line) (p : Line) (hp : p.1 ≠ ("label" : Str)) (o k : Int) (ho : o ∈ labsOf (b ++ [p])) : plc (b ++ [p]) o k < k + (nolab (b ++ [p])).length := by
  have hl : labsOf (b ++ [p]) = labsOf b := by rw [labsOf_append]; simp [labsOf, isLab, hp]
  rw [hl] at ho
  have hpl : ∀ (b : List Line) (k : Int), o ∈ labsOf b → plc (b ++ [p]) o k = plc b o k := by
    intro b
    induction b with
    | nil => intro k h; simp [labsOf] at h
    | cons q r ih =>
      obtain ⟨w, x⟩ := q
      intro k h
      rw [labsOf_cons] at h
      rw [List.cons_append, plc_cons, plc_cons]
      by_cases hcond : (w == ("label" : Str) && x == o) = true
      · rw [if_pos hcond, if_pos hcond]
      · rw [if_neg hcond, if_neg hcond]
        refine ih _ ?_
        split at h
        · rename_i hc
          rcases List.mem_cons.mp h with q | q
          · exact absurd (by simp only [Bool.and_eq_true]; exact ⟨hc, by simp [q]⟩) hcond
          · exact q
        · exact h
  rw [hpl b k ho]
  have h1 := plc_range b o k ho
  have h2 : (nolab (b ++ [p])).length = (nolab b).length + 1 := by simp [nolab, hp]
  omega

/-! errors -/
theorem err1_ok : ∀ (l : List Line) (i : Nat) (f : List Int), (f ++ labsOf l).Nodup → err1 (l.zipIdx i) f = .inr (f ++ labsOf l)
  | [], _, f, _ => by simp [err1, labsOf]
  | (w, x) :: r, i, f, hn => by
    rw [List.zipIdx_cons]
    rw [labsOf_cons] at hn ⊢
    show (if _ then (if _ then _ else _) else _) = _
    by_cases hc : (w == ("label" : Str)) = true
    · rw [if_pos hc] at hn ⊢
      rw [if_pos hc]
      have hx : ¬ (f.any fun y => decide (y = x)) = true := by
        intro q
        obtain ⟨y, hy, e⟩ := List.any_eq_true.mp q
        have e' : y = x := by simpa using e
        subst e'
        rw [List.nodup_append] at hn
        exact hn.2.2 y hy y List.mem_cons_self rfl
      have e : addK f x = f ++ [x] := by unfold addK; rw [if_neg hx]
      rw [if_neg hx, e, err1_ok r (i + 1) (f ++ [x]) (by simpa using hn)]
      simp
    · rw [if_neg hc] at hn ⊢
      rw [if_neg hc]
      exact err1_ok r (i + 1) f hn
theorem err2_ok (f : List Int) : ∀ (l : List Line) (i : Nat), (∀ p ∈ l, p.1 = ("label" : Str) ∨ (p.1 ∈ rowW ∧ (isJ p.1 = true → p.2 ∈ f))) → err2 f (l.zipIdx i) = none
  | [], _, _ => rfl
  | (w, x) :: r, i, h => by
    rw [List.zipIdx_cons]
    have ih := err2_ok f r (i + 1) fun p hp => h p (List.mem_cons_of_mem _ hp)
    show (if _ then (if _ then _ else (if _ then _ else _)) else _) = _
    split
    · rename_i hc
      have hne : w ≠ ("label" : Str) := by simpa using hc
      obtain ⟨h1, h2⟩ := (h (w, x) List.mem_cons_self).resolve_left hne
      rw [if_neg (by simp only [Bool.not_eq_true', Bool.not_eq_false]; exact List.any_eq_true.mpr ⟨w, h1, by simp⟩)]
      rw [if_neg]
      · exact ih
      · intro q
        simp only [Bool.and_eq_true, Bool.not_eq_true'] at q
        have := h2 q.1
        have z : (f.any fun y => decide (y = x)) = true := List.any_eq_true.mpr ⟨x, this, by simp⟩
        rw [z] at q; exact absurd q.2 (by simp)
    · exact ih

/-! label_lines -/
theorem lln_out : ∀ (l : List Line) (i : Nat) (f : List (Int × Int)) (o : Int), o ∉ labsOf l → iget (lln (l.zipIdx i) f) o = iget f o
  | [], _, _, _, _ => rfl
  | (w, x) :: r, i, f, o, h => by
    rw [labsOf_cons] at h
    rw [List.zipIdx_cons]
    show iget (if _ then _ else _) o = _
    split
    · rename_i hc
      rw [if_pos hc] at h
      simp only [List.mem_cons, not_or] at h
      rw [lln_out r _ _ _ h.2, iget_iset, if_neg h.1]
    · rename_i hc
      rw [if_neg hc] at h
      exact lln_out r _ _ _ h
theorem lln_in : ∀ (l : List Line) (i : Nat) (f : List (Int × Int)) (o : Int) (a : Nat), (labsOf l).Nodup → l[a]? = some (("label" : Str), o) → iget (lln (l.zipIdx i) f) o = some ((i + a : Nat) : Int)
  | [], _, _, _, _, _, h => by simp at h
  | (w, x) :: r, i, f, o, a, hn, h => by
    rw [labsOf_cons] at hn
    rw [List.zipIdx_cons]
    show iget (if _ then _ else _) o = _
    cases a with
    | zero =>
      simp only [List.getElem?_cons_zero, Option.some.injEq, Prod.mk.injEq] at h
      obtain ⟨rfl, rfl⟩ := h
      rw [if_pos (by simp)] at hn ⊢
      rw [List.nodup_cons] at hn
      rw [lln_out r _ _ _ hn.1, iget_iset, if_pos rfl]; rfl
    | succ a =>
      have h' : r[a]? = some (("label" : Str), o) := by simpa using h
      have hn' : (labsOf r).Nodup := by
        split at hn
        · exact (List.nodup_cons.mp hn).2
        · exact hn
      split
      · rw [lln_in r (i + 1) _ o a hn' h']; congr 2; omega
      · rw [lln_in r (i + 1) _ o a hn' h']; congr 2; omega

/-! filters -/
theorem plc_filter (q : Line → Bool) (o : Int) : ∀ (l : List Line) (k : Int), (∀ p ∈ l, p.1 ≠ ("label" : Str) ∨ p.2 = o → q p = true) → plc (l.filter q) o k = plc l o k
  | [], _, _ => rfl
  | (w, x) :: r, k, h => by
    have hr := fun p hp => h p (List.mem_cons_of_mem _ hp)
    have h0 := h (w, x) List.mem_cons_self
    rw [List.filter_cons]
    split
    · show (if _ then _ else _) = (if _ then _ else _)
      rw [plc_filter q o r _ hr]
    · rename_i hq
      have hw : w = ("label" : Str) := Classical.byContradiction fun z => hq (h0 (.inl z))
      have hx : x ≠ o := fun z => hq (h0 (.inr z))
      show _ = (if _ then _ else _)
      rw [plc_filter q o r _ hr, if_neg (by simp [hx])]
      subst hw
      simp

end
/-! part M2 -/
section
/-! the way back -/
theorem addK_mem (f : List Int) (k x : Int) : x ∈ addK f k ↔ x ∈ f ∨ x = k := by
  unfold addK
  split
  · rename_i h
    obtain ⟨y, hy, e⟩ := List.any_eq_true.mp h
    have e' : y = k := by simpa using e
    subst e'
    exact ⟨.inl, fun q => q.elim id fun q => q ▸ hy⟩
  · simp
theorem addK_nodup (f : List Int) (k : Int) (h : f.Nodup) : (addK f k).Nodup := by
  unfold addK
  split
  · exact h
  · rename_i hk
    rw [List.nodup_append]
    refine ⟨h, by simp, fun a ha b hb e => ?_⟩
    rw [List.mem_singleton.mp hb] at e
    exact hk (List.any_eq_true.mpr ⟨a, ha, by simpa using e⟩)
theorem foldK_mem : ∀ (l f : List Int) (x : Int), x ∈ l.foldl addK f ↔ x ∈ f ∨ x ∈ l
  | [], f, x => by simp
  | a :: r, f, x => by rw [List.foldl_cons, foldK_mem r, addK_mem, List.mem_cons, or_assoc]
theorem foldK_nodup : ∀ (l f : List Int), f.Nodup → (l.foldl addK f).Nodup
  | [], _, h => h
  | a :: r, f, h => by rw [List.foldl_cons]; exact foldK_nodup r _ (addK_nodup f a h)
theorem keysOf_mem (l : List Int) (x : Int) : x ∈ keysOf l ↔ x ∈ l := by unfold keysOf; rw [foldK_mem]; simp
theorem met_mem (c : List Line) (x : Int) : x ∈ met c ↔ x ∈ jops c := by
  unfold met; rw [(sortI_perm _).mem_iff, keysOf_mem]
theorem met_nodup (c : List Line) : (met c).Nodup := (sortI_perm _).nodup_iff.mpr (foldK_nodup _ _ List.nodup_nil)
theorem met_pw (c : List Line) : (met c).Pairwise (· < ·) := by
  have h1 := sortI_pw (keysOf (jops c))
  have h2 := List.nodup_iff_pairwise_ne.mp (met_nodup c)
  have := List.Pairwise.and h1 h2
  exact this.imp fun ⟨a, b⟩ => by omega
theorem met_len (c : List Line) : (met c).length ≤ c.length := by
  have h := (sortI_perm (keysOf (jops c))).length_eq
  have h1 := foldl_len (jops c) []
  have h2 := jops_len c
  simp only [List.length_nil] at h1
  unfold met keysOf at *
  omega
theorem jops_mem (c : List Line) (x : Int) : x ∈ jops c ↔ ∃ p ∈ c, isJ p.1 = true ∧ p.2 = x := by
  unfold jops
  simp only [List.mem_map, List.mem_filter]
  exact ⟨fun ⟨p, ⟨a, b⟩, e⟩ => ⟨p, a, b, e⟩, fun ⟨p, a, b, e⟩ => ⟨p, ⟨a, b⟩, e⟩⟩

def ren (P : List Int) (p : Line) : Line := if isJ p.1 = true then (p.1, idxI P p.2) else p
def labF (P : List Int) (c : List Line) (i : Nat) : List Line := (c.zipIdx i).flatMap (lab1 P)
theorem labF_cons (P : List Int) (p : Line) (r : List Line) (i : Nat) : labF P (p :: r) i = (if (P.any fun y => decide (y = (i : Int))) = true then [((("label" : Str), idxI P i) : Line)] else []) ++ ren P p :: labF P r (i + 1) := by
  unfold labF
  rw [List.zipIdx_cons, List.flatMap_cons]
  unfold lab1 ren
  simp only
  split <;> simp
theorem lab_eq (c : List Line) : lab c = labF (met c) c 0 := rfl
theorem ren_fst (P : List Int) (p : Line) : (ren P p).1 = p.1 := by unfold ren; split <;> rfl
theorem any_mem (P : List Int) (x : Int) : (P.any fun y => decide (y = x)) = true ↔ x ∈ P := by
  rw [List.any_eq_true]; exact ⟨fun ⟨y, a, b⟩ => by have : y = x := by simpa using b
                                                    exact this ▸ a, fun h => ⟨x, h, by simp⟩⟩
theorem nolab_labF (P : List Int) : ∀ (c : List Line) (i : Nat), (∀ p ∈ c, p.1 ≠ ("label" : Str)) → nolab (labF P c i) = c.map (ren P)
  | [], _, _ => rfl
  | p :: r, i, h => by
    have ih := nolab_labF P r (i + 1) fun q hq => h q (List.mem_cons_of_mem _ hq)
    have hp := h p List.mem_cons_self
    have h1 : ((ren P p).1 != ("label" : Str)) = true := by rw [ren_fst]; simpa using hp
    rw [labF_cons]
    unfold nolab at ih ⊢
    rw [List.filter_append, List.filter_cons, if_pos h1, ih]
    split <;> simp
theorem labsOf_labF (P : List Int) : ∀ (c : List Line) (i : Nat), (∀ p ∈ c, p.1 ≠ ("label" : Str)) → labsOf (labF P c i) = ((List.range' i c.length).filter fun j : Nat => P.any fun y => decide (y = (j : Int))).map fun j : Nat => idxI P (j : Nat)
  | [], _, _ => rfl
  | p :: r, i, h => by
    have ih := labsOf_labF P r (i + 1) fun q hq => h q (List.mem_cons_of_mem _ hq)
    have hp := h p List.mem_cons_self
    have h1 : isLab (ren P p) = false := by unfold isLab; rw [ren_fst]; simpa using hp
    rw [labF_cons, labsOf_append, List.length_cons, List.range'_succ, List.filter_cons]
    have h2 : labsOf (ren P p :: labF P r (i + 1)) = labsOf (labF P r (i + 1)) := by unfold labsOf; rw [List.filter_cons, h1]; simp
    rw [h2, ih]
    split
    · have h3 : labsOf [((("label" : Str), idxI P i) : Line)] = [idxI P i] := rfl
      rw [h3]; simp
    · simp [labsOf]
theorem idxI_inj {P : List Int} {a b : Int} (ha : a ∈ P) (h : idxI P a = idxI P b) : a = b := by
  unfold idxI at h
  have h' : P.idxOf a = P.idxOf b := by omega
  have hl := List.idxOf_lt_length_iff.mpr ha
  have hl2 : P.idxOf b < P.length := h' ▸ hl
  have e1 := List.getElem_idxOf hl
  have e2 := List.getElem_idxOf hl2
  rw [← e1, ← e2]
  simp only [h']
theorem plc_labF (P : List Int) (t : Nat) (ht : (t : Int) ∈ P) : ∀ (c : List Line) (i : Nat) (k : Int), (∀ p ∈ c, p.1 ≠ ("label" : Str)) → i ≤ t → t < i + c.length → plc (labF P c i) (idxI P t) k = k + ((t - i : Nat) : Int)
  | [], i, k, _, h1, h2 => by simp at h2; omega
  | p :: r, i, k, h, h1, h2 => by
    have ih := plc_labF P t ht r (i + 1) (k + 1) fun q hq => h q (List.mem_cons_of_mem _ hq)
    have hp := h p List.mem_cons_self
    have g1 : ((ren P p).1 == ("label" : Str)) = false := by rw [ren_fst]; simpa using hp
    have g2 : ((ren P p).1 != ("label" : Str)) = true := by rw [ren_fst]; simpa using hp
    simp only [List.length_cons] at h2
    have step : ∀ k, plc (ren P p :: labF P r (i + 1)) (idxI P t) k = plc (labF P r (i + 1)) (idxI P t) (k + 1) := by
      intro k
      generalize hq : ren P p = q at g1 g2
      obtain ⟨w, x⟩ := q
      rw [plc_cons]
      simp only at g1 g2
      rw [g1, g2]; simp
    rw [labF_cons]
    by_cases hi : i = t
    · subst hi
      rw [if_pos ((any_mem P i).mpr ht), List.cons_append, plc_cons, if_pos (by simp)]
      simp
    · have hne : ¬ ((t : Nat) : Int) = ((i : Nat) : Int) := by omega
      have := ih (by omega) (by omega)
      split
      · rename_i hc
        have hx : ¬ idxI P (i : Nat) = idxI P (t : Nat) := fun q => hne (idxI_inj ((any_mem P i).mp hc) q).symm
        rw [List.cons_append, plc_cons, if_neg (by simp [hx]), List.nil_append, step]
        have g3 : ((("label" : Str) != ("label" : Str)) : Bool) = false := by decide
        rw [g3]
        simp only [Bool.false_eq_true, if_false, Int.add_zero]
        rw [this]; omega
      · rw [List.nil_append, step, this]; omega

/-- code: no labels, jumps within -/
structure CodeG (c : List Line) : Prop where
  words : ∀ p ∈ c, p.1 ∈ rowW
  jumps : ∀ p ∈ c, isJ p.1 = true → ∃ t : Nat, p.2 = (t : Int) ∧ t < c.length
theorem row_not_lab {w : Str} (h : w ∈ rowW) : w ≠ ("label" : Str) := (by decide : ∀ w ∈ rowW, w ≠ ("label" : Str)) w h
theorem CodeG.nl {c : List Line} (h : CodeG c) : ∀ p ∈ c, p.1 ≠ ("label" : Str) := fun p hp => row_not_lab (h.words p hp)
theorem CodeG.targets {c : List Line} (h : CodeG c) {x : Int} (hx : x ∈ met c) : ∃ t : Nat, x = (t : Int) ∧ t < c.length := by
  rw [met_mem, jops_mem] at hx
  obtain ⟨p, hp, hj, rfl⟩ := hx
  exact h.jumps p hp hj
theorem CodeG.mem {c : List Line} (h : CodeG c) : ∀ p ∈ c, isJ p.1 = true → p.2 ∈ met c := fun p hp hj => (met_mem _ _).mpr ((jops_mem _ _).mpr ⟨p, hp, hj, rfl⟩)
theorem CodeG.filter_eq {c : List Line} (h : CodeG c) : ((List.range' 0 c.length).filter fun j : Nat => (met c).any fun y => decide (y = (j : Int))).map (fun j : Nat => (j : Int)) = met c := by
  have pw : (((List.range' 0 c.length).filter fun j : Nat => (met c).any fun y => decide (y = (j : Int))).map (fun j : Nat => (j : Int))).Pairwise (· < ·) :=
    List.Pairwise.map (R := (· < ·)) _ (fun a b hab => by omega) (List.Pairwise.filter _ List.pairwise_lt_range')
  have nd := List.nodup_iff_pairwise_ne.mpr (pw.imp (S := (· ≠ ·)) fun hab => by omega)
  refine List.Perm.eq_of_pairwise (le := (· < ·)) (fun a b _ _ h1 h2 => by omega) pw (met_pw c) ((List.perm_ext_iff_of_nodup nd (met_nodup c)).mpr fun x => ?_)
  simp only [List.mem_map, List.mem_filter, List.mem_range'_1, any_mem]
  constructor
  · rintro ⟨j, ⟨_, hj⟩, rfl⟩; exact hj
  · intro hx
    obtain ⟨t, rfl, ht⟩ := h.targets hx
    exact ⟨t, ⟨⟨Nat.zero_le _, by omega⟩, hx⟩, rfl⟩
theorem map_idx {P : List Int} (h : P.Nodup) : P.map (idxI P) = (List.range P.length).map fun i : Nat => (i : Int) := by
  apply List.ext_getElem
  · simp
  · intro i h1 h2
    simp only [List.getElem_map, List.getElem_range]
    unfold idxI
    rw [List.Nodup.idxOf_getElem h]
theorem CodeG.labs {c : List Line} (h : CodeG c) : labsOf (lab c) = (List.range (met c).length).map fun i : Nat => (i : Int) := by
  rw [lab_eq, labsOf_labF _ _ _ h.nl, ← map_idx (met_nodup c)]
  have := congrArg (List.map (idxI (met c))) h.filter_eq
  rw [List.map_map] at this
  exact this
theorem CodeG.labsNd {c : List Line} (h : CodeG c) : (labsOf (lab c)).Nodup := by
  rw [h.labs]
  exact List.nodup_iff_pairwise_ne.mpr (List.Pairwise.map (R := (· < ·)) _ (fun a b hab => by omega) List.pairwise_lt_range)
theorem CodeG.idx_mem {c : List Line} (h : CodeG c) {x : Int} (hx : x ∈ met c) : idxI (met c) x ∈ labsOf (lab c) := by
  rw [h.labs, List.mem_map]
  exact ⟨(met c).idxOf x, List.mem_range.mpr (List.idxOf_lt_length_iff.mpr hx), rfl⟩
theorem CodeG.back {c : List Line} (h : CodeG c) {x : Int} (hx : x ∈ met c) : iget (lpl (lab c) [] 0) (idxI (met c) x) = some x := by
  rw [lpl_in _ _ _ _ h.labsNd (h.idx_mem hx)]
  obtain ⟨t, rfl, ht⟩ := h.targets hx
  rw [lab_eq, plc_labF _ _ hx _ _ _ h.nl (Nat.zero_le _) (by omega)]
  simp
theorem lab_mem {c : List Line} {p : Line} (hp : p ∈ lab c) : p.1 = ("label" : Str) ∨ ∃ q ∈ c, p = ren (met c) q := by
  unfold lab at hp
  rw [List.mem_flatMap] at hp
  obtain ⟨⟨q, i⟩, hq, hp⟩ := hp
  have hqc : q ∈ c := by have := List.mem_zipIdx hq; rw [this.2.2]; exact List.getElem_mem ..
  unfold lab1 at hp
  rw [List.mem_append] at hp
  rcases hp with hp | hp
  · split at hp
    · rw [List.mem_singleton.mp hp]; exact .inl rfl
    · cases hp
  · exact .inr ⟨q, hqc, List.mem_singleton.mp hp⟩
theorem CodeG.wordsBack {c : List Line} (h : CodeG c) : WordsOk (lab c) := fun p hp => by
  rcases lab_mem hp with q | ⟨q, hq, rfl⟩
  · exact .inl q
  · rw [ren_fst]; exact .inr (h.words q hq)
theorem CodeG.jumpsBack {c : List Line} (h : CodeG c) : JumpsIn (lpl (lab c) [] 0) (lab c) := fun p hp hn hj => by
  rcases lab_mem hp with q | ⟨q, hq, rfl⟩
  · exact absurd q hn
  · rw [ren_fst] at hj
    have e : (ren (met c) q).2 = idxI (met c) q.2 := by unfold ren; rw [if_pos hj]
    rw [e, h.back (h.mem q hq hj)]; rfl
theorem CodeG.round {c : List Line} (h : CodeG c) : asm (lab c) = c := by
  unfold asm
  rw [lab_eq, nolab_labF _ _ _ h.nl, List.map_map, ← lab_eq]
  conv => rhs; rw [← List.map_id c]
  apply List.map_congr_left
  intro p hp
  simp only [Function.comp_apply, id]
  unfold asm1
  rw [ren_fst]
  split
  · rename_i hj
    have e : (ren (met c) p).2 = idxI (met c) p.2 := by unfold ren; rw [if_pos hj]
    rw [e, h.back (h.mem p hp hj)]; rfl
  · rename_i hj
    unfold ren; rw [if_neg hj]
theorem lab_len (c : List Line) : (lab c).length ≤ 2 * c.length := by
  have : ∀ (P : List Int) (c : List Line) (i : Nat), (labF P c i).length ≤ 2 * c.length := by
    intro P c
    induction c with
    | nil => intro i; simp [labF]
    | cons p r ih =>
      intro i
      rw [labF_cons]
      have := ih (i + 1)
      split <;> simp <;> omega
  exact this _ _ _

end
/-! part N3 -/
section
/-! a made list -/
theorem isJ_mem {w : Str} : isJ w = true ↔ w ∈ jumpW := by
  unfold isJ
  rw [List.any_eq_true]
  exact ⟨fun ⟨x, hx, e⟩ => by have e' : x = w := by simpa using e
                              exact e' ▸ hx, fun h => ⟨w, h, by simp⟩⟩
theorem jump_row {w : Str} (h : w ∈ jumpW) : w ∈ rowW := (by decide : ∀ w ∈ jumpW, w ∈ rowW) w h
theorem errP_inr {l : List Line} {f : List Int} (h : err1 l.zipIdx [] = .inr f) : errP l = (err2 f l.zipIdx).getD (errE l) := by
  unfold errP; simp only [h]; cases err2 f l.zipIdx <;> rfl
theorem jump_not_lab {w : Str} (h : w ∈ jumpW) : w ≠ ("label" : Str) := (by decide : ∀ w ∈ jumpW, w ≠ ("label" : Str)) w h
structure Made (l : List Line) : Prop where
  nd : (labsOf l).Nodup
  words : ∀ p ∈ l, p.1 = ("label" : Str) ∨ (p.1 ∈ rowW ∧ (isJ p.1 = true → p.2 ∈ labsOf l))
  last : ∃ b q, l = b ++ [q] ∧ q.1 = ("return" : Str)
section
variable {l : List Line}
theorem Made.wordsOk (h : Made l) : WordsOk l := fun p hp => (h.words p hp).imp id (·.1)
theorem Made.allW (h : Made l) : AllW l := fun p hp => (h.words p hp).elim (fun q => .inr (by rw [q]; decide)) fun q => .inl q.1
theorem nolab_mem {p : Line} (hp : p ∈ nolab l) : p ∈ l ∧ p.1 ≠ ("label" : Str) := by
  unfold nolab at hp
  rw [List.mem_filter] at hp
  exact ⟨hp.1, by simpa using hp.2⟩
theorem Made.target (h : Made l) {p : Line} (hp : p ∈ l) (hj : isJ p.1 = true) : p.2 ∈ labsOf l := ((h.words p hp).resolve_left (jump_not_lab (isJ_mem.mp hj))).2 hj
theorem Made.jumpsIn (h : Made l) : JumpsIn (lpl l [] 0) l := fun p hp _ hj => by rw [lpl_in _ _ _ _ h.nd (h.target hp hj)]; rfl
def due1 (l : List Line) (p : Line) : Line := if isJ p.1 = true then (p.1, plc l p.2 0) else p
theorem Made.asm (h : Made l) : Lap.asm l = (nolab l).map (due1 l) := by
  unfold Lap.asm
  apply List.map_congr_left
  intro p hp
  unfold asm1 due1
  split
  · rename_i hj
    rw [lpl_in _ _ _ _ h.nd (h.target (nolab_mem hp).1 hj)]; rfl
  · rfl
theorem asm_len : (Lap.asm l).length = (nolab l).length := by unfold Lap.asm; exact List.length_map ..
theorem nolab_len : (nolab l).length ≤ l.length := List.length_filter_le ..
theorem Made.code (h : Made l) : CodeG (Lap.asm l) := by
  have hlen : (Lap.asm l).length = (nolab l).length := asm_len
  rw [h.asm]
  refine ⟨fun p hp => ?_, fun p hp hj => ?_⟩
  · obtain ⟨q, hq, rfl⟩ := List.mem_map.mp hp
    have := (h.words q (nolab_mem hq).1).resolve_left (nolab_mem hq).2
    unfold due1; split <;> exact this.1
  · obtain ⟨q, hq, rfl⟩ := List.mem_map.mp hp
    have hq' : isJ q.1 = true := by unfold due1 at hj; split at hj <;> simpa using hj
    have e : (due1 l q).2 = plc l q.2 0 := by unfold due1; rw [if_pos hq']
    have ht := h.target (nolab_mem hq).1 hq'
    obtain ⟨b, z, e2, ez⟩ := h.last
    have hz : z.1 ≠ ("label" : Str) := by rw [ez]; decide
    have r1 := plc_range l q.2 0 ht
    have r2 := plc_last b z hz q.2 0 (by rw [← e2]; exact ht)
    rw [← e2] at r2
    refine ⟨(plc l q.2 0).toNat, by rw [e]; omega, ?_⟩
    simp only [List.length_map]
    omega
theorem Made.err (h : Made l) : errP l = .none := by
  have e1 : err1 l.zipIdx [] = .inr (labsOf l) := by
    have := err1_ok l 0 [] (by simpa using h.nd)
    simpa using this
  rw [errP_inr e1, err2_ok _ _ _ h.words]
  obtain ⟨b, z, e2, ez⟩ := h.last
  have : endOk l = true := by unfold endOk; rw [e2]; simp [ez]
  unfold errE
  rw [if_pos this]; rfl
theorem Made.lops (h : Made l) : Lap.lops l = jops l := by
  unfold Lap.lops jops
  congr 1
  apply List.filter_congr
  intro p hp
  by_cases hj : isJ p.1 = true
  · have : p.1 ≠ ("label" : Str) := jump_not_lab (isJ_mem.mp hj)
    simp [hj, this]
  · simp [hj]
def keptL (led : List Int) (l : List Line) : List Line := l.filter fun p => p.1 != ("label" : Str) || led.any fun y => decide (y = p.2)
theorem any_keys (k : List Int) (x : Int) : ((keysOf k).any fun y => decide (y = x)) = k.any fun y => decide (y = x) := by
  rw [Bool.eq_iff_iff, any_mem, any_mem, keysOf_mem]
theorem Made.woU (h : Made l) : Lap.woU l = keptL (jops l) l := by
  unfold Lap.woU keepL keptL
  rw [h.lops]
  congr 1; funext p; rw [any_keys]
theorem Made.kept_nolab (h : Made l) : nolab (keptL (jops l) l) = nolab l := by
  unfold nolab keptL
  rw [List.filter_filter]
  apply List.filter_congr
  intro p _
  by_cases hp : p.1 = ("label" : Str) <;> simp [hp]
theorem kept_labs (led : List Int) : labsOf (keptL led l) = (labsOf l).filter fun o => led.any fun y => decide (y = o) := by
  unfold labsOf keptL
  rw [List.filter_filter, List.filter_map, List.filter_filter]
  congr 1
  apply List.filter_congr
  intro p _
  by_cases hp : p.1 = ("label" : Str)
  · simp [isLab, hp]
  · have hb : (p.1 == ("label" : Str)) = false := by simpa using hp
    simp [isLab, hb]
theorem Made.kept (h : Made l) : Made (keptL (jops l) l) := by
  have hl := kept_labs (l := l) (jops l)
  refine ⟨by rw [hl]; exact h.nd.sublist List.filter_sublist, fun p hp => ?_, ?_⟩
  · have hpl : p ∈ l := (List.mem_filter.mp hp).1
    refine (h.words p hpl).imp id fun q => ⟨q.1, fun hj => ?_⟩
    rw [hl, List.mem_filter]
    exact ⟨q.2 hj, (any_mem _ _).mpr ((jops_mem _ _).mpr ⟨p, hpl, hj, rfl⟩)⟩
  · obtain ⟨b, z, e2, ez⟩ := h.last
    refine ⟨keptL (jops l) b, z, ?_, ez⟩
    conv => lhs; rw [e2]
    unfold keptL
    rw [List.filter_append, ← e2]
    congr 1
    rw [List.filter_cons, if_pos (by simp [ez]; exact .inl (by decide))]; rfl
theorem Made.kept_asm (h : Made l) : Lap.asm (keptL (jops l) l) = Lap.asm l := by
  rw [h.kept.asm, h.asm, h.kept_nolab]
  apply List.map_congr_left
  intro p hp
  unfold due1
  split
  · rename_i hj
    have : plc (keptL (jops l) l) p.2 0 = plc l p.2 0 := by
      unfold keptL
      refine plc_filter _ _ _ _ fun q hq z => ?_
      rcases z with z | z
      · simp [z]
      · rw [Bool.or_eq_true]; right
        exact (any_mem _ _).mpr ((jops_mem _ _).mpr ⟨p, (nolab_mem hp).1, hj, z.symm⟩)
    rw [this]
  · rfl
theorem Made.behind (h : Made l) {i : Nat} (hi : i < l.length) : ∃ p, (nolab (l.drop i))[0]? = some p ∧ Lap.behind l i = lineD p := by
  obtain ⟨b, z, e2, ez⟩ := h.last
  have hz : z ∈ nolab (l.drop i) := by
    unfold nolab
    rw [List.mem_filter]
    refine ⟨?_, by rw [ez]; decide⟩
    have hb : i ≤ b.length := by rw [e2] at hi; simp at hi; omega
    rw [e2, List.drop_append_of_le_length hb]
    simp
  cases hn : nolab (l.drop i) with
  | nil => rw [hn] at hz; cases hz
  | cons p r =>
    refine ⟨p, rfl, ?_⟩
    unfold Lap.behind
    have : (l.drop i).find? (fun p => p.1 != ("label" : Str)) = some p := by
      rw [← List.head?_filter]
      show (nolab (l.drop i)).head? = some p
      rw [hn]; rfl
    rw [this]
theorem Made.lines (h : Made l) {i : Nat} {o : Int} (hi : l[i]? = some (("label" : Str), o)) : iget (lln l.zipIdx []) o = some (i : Int) := by
  have := lln_in l 0 [] o i h.nd hi
  simpa using this
theorem behind_end : Lap.behind l l.length = .none := behind_ge (Nat.le_refl _)
theorem errP_nil : errP [] = atD (-1) "end" := rfl
end
theorem atD_ok (i : Int) {x : Str} (h : PyData.strOk x = true) : Ok 8 (atD i x) := by
  intro e he
  simp only [List.mem_cons, List.not_mem_nil, or_false] at he
  rcases he with rfl | rfl
  · trivial
  · exact h
theorem errP_okD (l : List Line) : Ok 8 (errP l) := by
  have h1 : ∀ (z : List (Line × Nat)) (f : List Int) (d : D), err1 z f = .inl d → Ok 8 d := by
    intro z
    induction z with
    | nil => intro f d h; cases h
    | cons p r ih =>
      obtain ⟨⟨w, x⟩, i⟩ := p
      intro f d h
      change (if _ then (if _ then _ else _) else _) = _ at h
      split at h
      · split at h
        · cases h; exact atD_ok _ (by decide +kernel)
        · exact ih _ _ h
      · exact ih _ _ h
  have h2 : ∀ (f : List Int) (z : List (Line × Nat)) (d : D), err2 f z = some d → Ok 8 d := by
    intro f z
    induction z with
    | nil => intro d h; cases h
    | cons p r ih =>
      obtain ⟨⟨w, x⟩, i⟩ := p
      intro d h
      change (if _ then (if _ then _ else (if _ then _ else _)) else _) = _ at h
      split at h
      · split at h
        · cases h; exact atD_ok _ (by decide +kernel)
        · split at h
          · cases h; exact atD_ok _ (by decide +kernel)
          · exact ih _ h
      · exact ih _ h
  unfold errP
  split
  · rename_i d h; exact h1 _ _ _ h
  · rename_i f h
    split
    · rename_i d h; exact h2 _ _ _ h
    · unfold errE
      split
      · trivial
      · exact atD_ok _ (by decide +kernel)

end
/-! part R2 -/
section
section
variable {W0 : Wd} {o c : Addr} {cs : List Int} {C : FC} {m : Map} {δ : Int}
def jump4 : List Str := ["goto", "gotoifnil", "gotoifnonnilelsepop", "pushcatch"]
def ord4 : List Line := [(("const" : Str), 0), (("call" : Str), 2), (("dup" : Str), -1), (("varbind" : Str), 1)]
/-- a made line that is no label, the labels being 10 .. 10 + N - 1 -/
def PlainG (N : Nat) (p : Line) : Prop := p ∈ ord4 ∨ (p.1 ∈ jump4 ∧ 10 ≤ p.2 ∧ p.2 < 10 + (N : Int))
structure BodyG (N : Nat) (b : List Line) (k T : Nat) : Prop where
  nd : (labsOf b).Nodup
  labs : ∀ x, x ∈ labsOf b ↔ 10 ≤ x ∧ x < 10 + (k : Int)
  words : ∀ p ∈ b, p.1 = ("label" : Str) ∨ PlainG N p
  many : (nolab b).length = T
  len : b.length = T + k
structure Lines2 (l : List Line) : Prop where
  ex : ∃ (N : Nat) (b : List Line), 1 ≤ N ∧ N ≤ 4 ∧ l = b ++ [(("return" : Str), -1)] ∧ ∃ T, T ≤ 7 ∧ BodyG N b N T
theorem plain_not_lab {N : Nat} {p : Line} (h : PlainG N p) : p.1 ≠ ("label" : Str) := by
  rcases h with h | ⟨h, _⟩
  · exact (by decide : ∀ p ∈ ord4, p.1 ≠ ("label" : Str)) p h
  · exact (by decide : ∀ w ∈ jump4, w ≠ ("label" : Str)) _ h
theorem labs_plain {b : List Line} (h : ∀ p ∈ b, p.1 ≠ ("label" : Str)) : labsOf b = [] ∧ nolab b = b := by
  constructor
  · unfold labsOf
    rw [List.filter_eq_nil_iff.mpr fun p hp => by simpa [isLab] using h p hp]; rfl
  · unfold nolab
    exact List.filter_eq_self.mpr fun p hp => by simpa using h p hp
theorem BodyG.start {N : Nat} {b : List Line} {T : Nat} (h : ∀ p ∈ b, PlainG N p) (hl : b.length = T) : BodyG N b 0 T := by
  obtain ⟨e1, e2⟩ := labs_plain fun p hp => plain_not_lab (h p hp)
  exact ⟨by rw [e1]; exact List.nodup_nil, fun x => ⟨fun q => by rw [e1] at q; exact absurd q (by simp), fun q => by omega⟩, fun p hp => .inr (h p hp), by rw [e2]; exact hl, by omega⟩
theorem BodyG.ins {N : Nat} {b : List Line} {k T : Nat} (h : BodyG N b k T) (i : Nat) : BodyG N (b.take i ++ (("label" : Str), 10 + (k : Int)) :: b.drop i) (k + 1) T := by
  have hp : (b.take i ++ (("label" : Str), 10 + (k : Int)) :: b.drop i).Perm ((("label" : Str), 10 + (k : Int)) :: b) := by
    refine List.perm_middle.trans ?_
    rw [List.take_append_drop]
  have hl : (labsOf (b.take i ++ (("label" : Str), 10 + (k : Int)) :: b.drop i)).Perm ((10 + (k : Int)) :: labsOf b) := (hp.filter _).map _
  refine ⟨hl.nodup_iff.mpr (List.nodup_cons.mpr ⟨fun q => by have := (h.labs _).mp q; omega, h.nd⟩), fun x => ?_, fun p hq => ?_, ?_, ?_⟩
  · rw [hl.mem_iff, List.mem_cons, h.labs]; push_cast; omega
  · rcases List.mem_cons.mp (hp.mem_iff.mp hq) with rfl | hq
    · exact .inl rfl
    · exact h.words p hq
  · have := (hp.filter fun p => p.1 != ("label" : Str)).length_eq
    exact this.trans h.many
  · rw [hp.length_eq, List.length_cons, h.len]; omega

theorem law_lines_ok (X : (heapK (deck2 W0 o c cs).w.params).In (deck2 W0 o c cs).hb) (B : Boot (deck2 W0 o c cs)) {K : D → Int → Prop} {n M : Nat} (hn : 3 ≤ n) (hc : cs.length ≤ 50) (hδ : Dr (M + 30) δ) (h : ∀ l δ', Lines2 l → Dr M δ' → K (.list (l.map lineD)) δ') : CallOK (deck2 W0 o c cs) 129 n [.deck 0] K δ := by
  obtain ⟨n, rfl⟩ : ∃ k, n = k + 1 := ⟨n - 1, by omega⟩
  refine call_body ["deck"] (X _ _ (by rfl)) rfl (codeRec_of X (by rfl)) rfl rfl (by rintro (_ | ⟨v, _ | ⟨_, _⟩⟩) h <;> first | rfl | cases h) rfl rfl (by decide) fun A L => ?_
  rw [argM_cons, argM_nil]
  have hn1 : 1 ≤ n := by omega
  have hn2 : 2 ≤ n := by omega
  have hsz : 2 ^ 10 ≤ sizeLine := by decide
  refine st_cons (ex_swap2 (x := "many") (y := "jumps") ?_ (.inl rfl) (.inl rfl) (by kernel_rfl) (by kernel_rfl))
  walk_at "lap"
  refine ev_draw X B (N := M + 29) hn1 hc (ev_name (by walk_at "lk") ⟨rfl, ev_int ⟨_, rfl, by decide, hδ, fun r δ r0 r1 hδ => ?_⟩⟩)
  walk_at "lap"
  refine ⟨_, _, rfl, ?_⟩
  obtain ⟨N, hN⟩ : ∃ N : Nat, (1 + r) = (N : Int) := ⟨(1 + r).toNat, by omega⟩
  rw [hN, show [D.str "goto", D.str "gotoifnil", D.str "gotoifnonnilelsepop", D.str "pushcatch"] = jump4.map D.str from rfl]
  have hN1 : 1 ≤ N ∧ N ≤ 4 := by omega
  walk_at "lap"
  refine ex_for (it_range1 (gnone X (by rfl)) (gblt B (by boot_fast)) ?_)
  walk_at "lap"
  refine ev_draw X B (N := M + 28) hn1 hc (ev_name (by walk_at "lk") ⟨rfl, ev_int ⟨_, rfl, by decide, hδ, fun t δ t0 t1 hδ => ?_⟩⟩)
  walk_at "lap"
  refine ⟨by omega, by omega, ?_⟩
  obtain ⟨T, hT⟩ : ∃ T : Nat, (2 + t) = (T : Int) := ⟨(2 + t).toNat, by omega⟩
  rw [hT, Int.toNat_natCast]
  have hT1 : T ≤ 7 := by omega
  refine loop_ind (Inv := fun r m δ => ∃ a acc, m "lines" = some (.own a (.list (acc.map lineD))) ∧ m "many" = some (.val (.int (N : Nat))) ∧ m "jumps" = some (.val (.list (jump4.map D.str))) ∧ m "deck" = some (.val (.deck 0)) ∧ (∀ p ∈ acc, PlainG N p) ∧ acc.length + r.length = T ∧ Dr (M + 7 + 3 * r.length) δ)
    ?_ ?_ (List.range T) ⟨_, [], (show _ = some (Ent.own _ (D.list [])) by walk_at "lk"), by walk_at "lk", by walk_at "lk", by walk_at "lk", (fun p hp => by cases hp), by simp, hδ.le (by simp; omega)⟩
  · rintro i r m δ ⟨a, acc, h1, h2, h3, h4, h5, h6, hδ⟩
    simp only [List.length_cons] at h6 hδ
    walk_at "lap"
    refine ev_draw X B (N := M + 7 + 3 * r.length + 2) hn1 hc (ev_name (by walk_at "lk") ⟨rfl, ev_int ⟨_, rfl, by decide, hδ, fun w δ w0 w1 hδ => ?_⟩⟩)
    walk_at "lap"
    split
    · walk_at "lap"
      · refine ev_call (gfun X (by rfl)) (X _ _ (by rfl)) rfl (evs_cons (ev_name (by walk_at "lk") (evs_cons (ev_name (by walk_at "lk") (evs_nil (pick_ok X B (N := M + 7 + 3 * r.length + 1) hn2 hc (by decide) (by decide) hδ fun d hd δ hδ => ?_))))))
        obtain ⟨w, hw, rfl⟩ := List.mem_map.mp hd
        walk_at "lap"
        refine ev_draw X B (N := M + 7 + 3 * r.length) hn1 hc (ev_name (by walk_at "lk") ⟨rfl, ev_name (by walk_at "lk") ⟨_, rfl, by omega, hδ, fun x δ x0 x1 hδ => ?_⟩⟩)
        walk_at "lap"
        refine ⟨_, acc ++ [(w, 10 + x)], upd_lines, by walk_at "lk", by walk_at "lk", by walk_at "lk", fun p hp => ?_, by simp; omega, hδ⟩
        rcases List.mem_append.mp hp with hp | hp
        · exact h5 p hp
        · rw [List.mem_singleton.mp hp]; exact .inr ⟨hw, by simp only; omega, by simp only; omega⟩
      · rw [lines_len]; omega
    · walk_at "lap"
      · refine ev_call (gfun X (by rfl)) (X _ _ (by rfl)) rfl (evs_cons (ev_name (by walk_at "lk") (evs_cons ?_)))
        walk_at "lap"
        rw [show [D.tup [D.str "const", D.int 0], D.tup [D.str "call", D.int 2], D.tup [D.str "dup", D.int (-1)], D.tup [D.str "varbind", D.int 1]] = ord4.map lineD from rfl]
        refine pick_ok X B (N := M + 7 + 3 * r.length + 1) hn2 hc (by decide) (by decide) hδ fun d hd δ hδ => ?_
        obtain ⟨q, hq, rfl⟩ := List.mem_map.mp hd
        walk_at "lap"
        refine ⟨_, acc ++ [q], upd_lines, by walk_at "lk", by walk_at "lk", by walk_at "lk", fun p hp => ?_, by simp; omega, hδ.le (by omega)⟩
        rcases List.mem_append.mp hp with hp | hp
        · exact h5 p hp
        · rw [List.mem_singleton.mp hp]; exact .inl hq
      · rw [lines_len]; omega
  · rintro m δ ⟨a, acc, h1, h2, h3, h4, h5, h6, hδ⟩
    simp only [List.length_nil] at h6 hδ
    walk_at "lap"
    refine ex_for (it_range1 (gnone X (by rfl)) (gblt B (by boot_fast)) (ev_name (by walk_at "lk") ⟨_, rfl, by omega, by omega, ?_⟩))
    rw [Int.toNat_natCast]
    refine loop_ind (Inv := fun r m δ => ∃ a acc k, m "lines" = some (.own a (.list (acc.map lineD))) ∧ m "deck" = some (.val (.deck 0)) ∧ r = List.range' k (N - k) ∧ k ≤ N ∧ BodyG N acc k T ∧ Dr (M + (N - k)) δ)
      ?_ ?_ (List.range N) ⟨_, acc, 0, h1, h4, by rw [List.range_eq_range']; rfl, Nat.zero_le _, BodyG.start h5 (by omega), hδ.le (by omega)⟩
    · rintro i r m δ ⟨a, acc, k, k1, k2, k3, k4, hb, hδ⟩
      have hkN : k < N := by
        rcases Nat.lt_or_ge k N with q | q
        · exact q
        · rw [Nat.sub_eq_zero_of_le q] at k3; cases k3
      obtain ⟨j, hj⟩ : ∃ j, N - k = j + 1 := ⟨N - k - 1, by omega⟩
      rw [hj, List.range'_succ] at k3
      injection k3 with e1 e2
      subst e1
      have hlen := hb.len
      walk_at "lap"
      refine ex_insert (by walk_at "lk") (by rw [lines_len]; omega) ?_
      refine ev_draw X B (N := M + j) hn1 hc (ev_name (by walk_at "lk") ⟨rfl, ev_bin (ev_len_own (by walk_at "lk") (gnone X (by rfl)) (gblt B (by boot_fast)) (by rw [lines_len]; omega) ?_)⟩)
      walk_at "lap"
      refine ⟨by omega, hδ.le (by omega), fun x δ x0 x1 hδ => ?_⟩
      rw [lines_len] at x1
      walk_at "lap"
      refine ⟨x.toNat, by rw [Int.toNat_of_nonneg x0], by rw [lines_len]; omega, ?_⟩
      walk_at "lap"
      refine ⟨a, acc.take x.toNat ++ (("label" : Str), 10 + (i : Int)) :: acc.drop x.toNat, i + 1, ?_, by walk_at "lk", by rw [e2, show N - (i + 1) = j by omega], by omega, hb.ins x.toNat, hδ.le (by omega)⟩
      rw [upd_self]
      simp [List.map_take, List.map_drop]
    · rintro m δ ⟨a, acc, k, k1, k2, k3, k4, hb, hδ⟩
      have hkN : k = N := by
        rcases Nat.lt_or_ge k N with q | q
        · obtain ⟨j, hj⟩ : ∃ j, N - k = j + 1 := ⟨N - k - 1, by omega⟩
          rw [hj, List.range'_succ] at k3; cases k3
        · omega
      subst hkN
      have hlen := hb.len
      refine st_freeze "lines" k1 ?_
      walk_at "lap"
      refine o_addl (by simp only [List.length_map, List.length_cons, List.length_nil]; omega) ?_
      rw [show acc.map lineD ++ [D.tup [D.str "return", D.int (-1)]] = (acc ++ [(("return" : Str), -1)]).map lineD by simp [lineD]]
      exact h _ _ ⟨⟨_, acc, hN1.1, hN1.2, rfl, T, hT1, hb⟩⟩ (hδ.le (by omega))
end

end
/-! part R3 -/
section
theorem deq_line (p q : Line) : deq (lineD p) (lineD q) = decide (p = q) := by
  obtain ⟨w, x⟩ := p
  obtain ⟨w', x'⟩ := q
  unfold deq lineD
  simp only [D.py, pys, PyData.eqv, PyData.eqvAll, Bool.and_true]
  rw [Bool.eq_iff_iff]
  simp [Prod.ext_iff]
theorem lineD_ok (l : List Line) (h : ∀ p ∈ l, PyData.strOk p.1 = true) : ∀ d ∈ l.map lineD, Ok 7 d := by
  intro d hd
  obtain ⟨p, hp, rfl⟩ := List.mem_map.mp hd
  intro e he
  simp only [List.mem_cons, List.not_mem_nil, or_false] at he
  rcases he with rfl | rfl
  · exact h p hp
  · trivial
theorem lineD_ok1 (p : Line) (h : PyData.strOk p.1 = true) (n : Nat) : Ok (n + 2) (lineD p) := by
  intro e he
  simp only [List.mem_cons, List.not_mem_nil, or_false] at he
  rcases he with rfl | rfl
  · exact h
  · trivial
theorem allW_strOk {w : Str} (h : w ∈ rowW ∨ w ∈ badW) : PyData.strOk w = true := allW_ok h 0
/-- the number of other lines before a label -/
theorem plc_idx (x : Int) : ∀ (l : List Line) (k : Int), (("label" : Str), x) ∈ l → plc l x k = k + ((nolab (l.take (l.idxOf (("label" : Str), x)))).length : Int)
  | [], _, h => by cases h
  | (w, ov) :: r, k, h => by
    rw [plc_cons]
    by_cases hc : (w, ov) = ((("label" : Str), x) : Line)
    · injection hc with e1 e2
      subst e1 e2
      rw [if_pos (by simp), List.idxOf_cons_self]
      simp [nolab]
    · have hr : (("label" : Str), x) ∈ r := (List.mem_cons.mp h).resolve_left fun q => hc q.symm
      have hb : ¬ ((w == ("label" : Str) && ov == x) = true) := fun q => hc (by simpa using q)
      have hcb : ((w, ov) == ((("label" : Str), x) : Line)) = false := by simpa using hc
      have hidx : ((w, ov) :: r).idxOf ((("label" : Str), x) : Line) = r.idxOf ((("label" : Str), x) : Line) + 1 := by rw [List.idxOf_cons, hcb]; rfl
      rw [if_neg hb, plc_idx x r _ hr, hidx, List.take_succ_cons, nolab_cons]
      by_cases hw : w = ("label" : Str)
      · subst hw
        simp only [beq_self_eq_true, if_true, bne_self_eq_false, Bool.false_eq_true, if_false]
        omega
      · have h1 : (w == ("label" : Str)) = false := by simpa using hw
        have h2 : (w != ("label" : Str)) = true := by simpa using hw
        simp only [h1, h2, Bool.false_eq_true, if_false, if_true, List.length_cons]
        omega
theorem label_mem {l : List Line} {x : Int} (h : x ∈ labsOf l) : (("label" : Str), x) ∈ l := by
  unfold labsOf at h
  obtain ⟨p, hp, rfl⟩ := List.mem_map.mp h
  obtain ⟨h1, h2⟩ := List.mem_filter.mp hp
  have : p.1 = ("label" : Str) := by simpa [isLab] using h2
  rw [← this]; exact h1
section
variable {W : Wd} {C : FC} {m : Map} {δ : W.Δ}
/-- lines.index(line) -/
theorem ev_index_line {o : Expr} {e : Expr} {ap pos : Pos} {K : D → W.Δ → Prop} (h : evW W C o (fun a δ₁ => ∃ l : List Line, a = .list (l.map lineD) ∧ (∀ p ∈ l, PyData.strOk p.1 = true) ∧ l.length < 2 ^ 60 ∧ evW W C e (fun d δ₂ => ∃ p : Line, d = lineD p ∧ p ∈ l ∧ K (.int (l.idxOf p : Nat)) δ₂) m δ₁) m δ)
    (hs : noStar [e] = true := by rfl) (hline : (ap.endLine == pos.line) = true := by rfl)
    (hb : attributeBase o "index" C.env (eval o C.env) = eval o C.env := by rfl) : evW W C (.Call (.Attribute o "index" ap) [e] [] pos) K m δ := by
  refine ev_meth PySem.F.plainAttrs_list PySem.F.slot_list_index PySem.F.type_list_index ?_ hs hline (by simp) hb
  refine ev_mono h fun a δ1 ⟨l, e1, hw, hz, h1⟩ => ?_
  subst e1
  refine ⟨fun H h v r => rep_list_type r, evs_cons (ev_mono h1 fun d δ2 ⟨p, e2, hp, hk⟩ => ?_)⟩
  subst e2
  have hlt := List.idxOf_lt_length_iff.mpr hp
  have hget : l[l.idxOf p]? = some p := by rw [List.getElem?_eq_getElem hlt, List.getElem_idxOf hlt]
  refine evs_nil (b_index (j := l.idxOf p) (y := lineD p) (lineD_ok l hw) (lineD_ok1 p (hw p hp) 6) (by rw [List.getElem?_map, hget]; rfl) (deq_refl _) ?_ (by omega) hk)
  intro i y' hi hy
  rw [List.getElem?_map, Option.map_eq_some_iff] at hy
  obtain ⟨q, hq, rfl⟩ := hy
  rw [deq_line]
  simp only [decide_eq_false_iff_not]
  rintro rfl
  have := List.not_of_lt_findIdx (xs := l) (p := (· == q)) (i := i) (by simpa [List.idxOf] using hi)
  have hi' : i < l.length := by omega
  rw [List.getElem?_eq_getElem hi'] at hq
  simp at this hq
  exact absurd hq (by simpa using this)
end
section
variable {W0 : Wd} {o c : Addr} {cs : List Int} {C : FC} {m : Map} {δ : Int}
theorem law_behind_ok (X : (heapK (deck2 W0 o c cs).w.params).In (deck2 W0 o c cs).hb) (B : Boot (deck2 W0 o c cs)) {K : D → Int → Prop} {n : Nat} {l : List Line} {x : Int} (hn : 1 ≤ n) (hw : ∀ p ∈ l, PyData.strOk p.1 = true) (hl : l.length ≤ 100) (hx : x ∈ labsOf l) (h : K (.int (plc l x 0)) δ) : CallOK (deck2 W0 o c cs) 134 n [.list (l.map lineD), .int x] K δ := by
  obtain ⟨n, rfl⟩ : ∃ k, n = k + 1 := ⟨n - 1, by omega⟩
  refine call_body ["lines", "label"] (X _ _ (by rfl)) rfl (codeRec_of X (by rfl)) rfl rfl (by rintro (_ | ⟨v, _ | ⟨_, _ | ⟨_, _⟩⟩⟩) h <;> first | rfl | cases h) rfl rfl (by decide) fun A L => ?_
  rw [argM_cons, argM_cons, argM_nil]
  have hsz : 2 ^ 10 ≤ sizeLine := by decide
  have hm := label_mem hx
  walk_at "lap"
  refine ev_index_line (ev_name (by walk_at "lk") ⟨l, rfl, hw, by omega, ?_⟩)
  walk_at "lap"
  refine ⟨(("label" : Str), x), rfl, hm, ?_⟩
  walk_at "lap"
  refine ev_callb (gnone X (by rfl)) (gblt B (by boot_fast)) (evs_cons ?_)
  refine ev_comp [] _ rfl (fun x hx => nomatch hx) (fun x c h => by cases h) (it_list (ev_slice (ev_name (by walk_at "lk") ⟨_, rfl, by rw [lines_len]; omega, ev_name (by walk_at "lk") ⟨_, rfl, .inl ⟨by omega, ?_⟩⟩⟩)) (.inl fun _ _ => by rfl))
  rw [Int.toNat_natCast]
  refine ⟨(l.take (l.idxOf ((("label" : Str), x) : Line))).map lineD, by rw [List.map_take], by simp only [List.length_map, List.length_take]; omega, fun L' => ?_⟩
  refine comp_fm (g := fun p : Line => if (p.1 != ("label" : Str)) = true then some (lineD p) else none) (fun _ => True) _ (fun p hp m _ => ?_) trivial ?_
  · obtain ⟨w, z⟩ := p
    walk_at "lap"
    refine ⟨rfl, ?_⟩
    split
    · walk_at "lap"
      exact ⟨rfl, rfl, trivial⟩
    · exact ⟨rfl, trivial⟩
  rw [List.nil_append, filterMap_keep]
  have hlen : ((l.take (l.idxOf ((("label" : Str), x) : Line))).filter fun p : Line => p.1 != ("label" : Str)).length ≤ l.length := Nat.le_trans (List.length_filter_le ..) (by rw [List.length_take]; omega)
  refine evs_nil (b_len (by rw [List.length_map]; omega) ?_)
  rw [List.length_map]
  have e := plc_idx x l 0 hm
  rw [Int.zero_add] at e
  walk_at "lap"
  rw [e] at h
  exact h
end

end
/-! part N4 -/
section
/-! lines with one fault -/
theorem err1_app (l2 : List Line) : ∀ (l : List Line) (i : Nat) (f : List Int), (f ++ labsOf l).Nodup → err1 ((l ++ l2).zipIdx i) f = err1 (l2.zipIdx (i + l.length)) (f ++ labsOf l)
  | [], i, f, _ => by simp [labsOf]
  | (w, x) :: r, i, f, hn => by
    rw [List.cons_append, List.zipIdx_cons]
    rw [labsOf_cons] at hn ⊢
    show (if _ then (if _ then _ else _) else _) = _
    have hl : i + ((w, x) :: r).length = i + 1 + r.length := by rw [List.length_cons]; omega
    rw [hl]
    by_cases hc : (w == ("label" : Str)) = true
    · rw [if_pos hc] at hn ⊢
      rw [if_pos hc]
      have hx : ¬ (f.any fun y => decide (y = x)) = true := by
        intro q
        obtain ⟨y, hy, e⟩ := List.any_eq_true.mp q
        have e' : y = x := by simpa using e
        subst e'
        rw [List.nodup_append] at hn
        exact hn.2.2 y hy y List.mem_cons_self rfl
      have e : addK f x = f ++ [x] := by unfold addK; rw [if_neg hx]
      rw [if_neg hx, e, err1_app l2 r (i + 1) (f ++ [x]) (by simpa using hn)]
      simp
    · rw [if_neg hc] at hn ⊢
      rw [if_neg hc]
      exact err1_app l2 r (i + 1) f hn
theorem err2_app (f : List Int) (l2 : List Line) : ∀ (l : List Line) (i : Nat), (∀ p ∈ l, p.1 = ("label" : Str) ∨ (p.1 ∈ rowW ∧ (isJ p.1 = true → p.2 ∈ f))) → err2 f ((l ++ l2).zipIdx i) = err2 f (l2.zipIdx (i + l.length))
  | [], i, _ => by simp
  | (w, x) :: r, i, h => by
    rw [List.cons_append, List.zipIdx_cons]
    have hl : i + ((w, x) :: r).length = i + 1 + r.length := by rw [List.length_cons]; omega
    rw [hl]
    have ih := err2_app f l2 r (i + 1) fun p hp => h p (List.mem_cons_of_mem _ hp)
    show (if _ then (if _ then _ else (if _ then _ else _)) else _) = _
    split
    · rename_i hc
      have hne : w ≠ ("label" : Str) := by simpa using hc
      obtain ⟨h1, h2⟩ := (h (w, x) List.mem_cons_self).resolve_left hne
      rw [if_neg (by simp only [Bool.not_eq_true', Bool.not_eq_false]; exact List.any_eq_true.mpr ⟨w, h1, by simp⟩)]
      rw [if_neg]
      · exact ih
      · intro q
        simp only [Bool.and_eq_true, Bool.not_eq_true'] at q
        have := h2 q.1
        have z : (f.any fun y => decide (y = x)) = true := List.any_eq_true.mpr ⟨x, this, by simp⟩
        rw [z] at q; exact absurd q.2 (by simp)
    · exact ih
section
variable {l : List Line}
/-- a line that is no label put in -/
theorem labs_put (i : Nat) {p : Line} (hp : p.1 ≠ ("label" : Str)) : labsOf (l.take i ++ p :: l.drop i) = labsOf l := by
  have h : labsOf (p :: l.drop i) = labsOf (l.drop i) := by
    obtain ⟨w, x⟩ := p
    rw [labsOf_cons, if_neg (by simpa using hp)]
  rw [labsOf_append, h, ← labsOf_append, List.take_append_drop]
theorem Made.words_take (h : Made l) (i : Nat) : ∀ p ∈ l.take i, p.1 = ("label" : Str) ∨ (p.1 ∈ rowW ∧ (isJ p.1 = true → p.2 ∈ labsOf l)) := fun p hp => h.words p (List.mem_of_mem_take hp)
theorem allW_put {l2 : List Line} {i : Nat} {p : Line} (h : AllW l) (hp : p.1 ∈ rowW ∨ p.1 ∈ badW) (e : l2 = l.take i ++ [p] ++ l.drop i) : AllW l2 := fun q hq => by
  rw [e] at hq
  simp only [List.mem_append, List.mem_singleton] at hq
  rcases hq with (hq | rfl) | hq
  · exact h q (List.mem_of_mem_take hq)
  · exact hp
  · exact h q (List.mem_of_mem_drop hq)
theorem Made.fault_word (h : Made l) {i : Nat} (hi : i ≤ l.length) : errP (l.take i ++ [(("hop" : Str), 0)] ++ l.drop i) = atD (i : Int) "word" := by
  rw [List.append_assoc, List.singleton_append]
  have hl := labs_put (l := l) i (p := (("hop" : Str), 0)) (by decide)
  have e1 := err1_ok (l.take i ++ (("hop" : Str), 0) :: l.drop i) 0 [] (by rw [List.nil_append, hl]; exact h.nd)
  rw [List.nil_append, hl] at e1
  rw [errP_inr e1, err2_app _ _ _ _ (h.words_take i), List.length_take, Nat.min_eq_left hi, Nat.zero_add, List.zipIdx_cons]
  show Option.getD (if _ then (if _ then _ else _) else _) _ = _
  rw [if_pos (by decide), if_pos (by decide)]; rfl
theorem Made.fault_label (h : Made l) {i : Nat} (hi : i ≤ l.length) (h99 : (99 : Int) ∉ labsOf l) : errP (l.take i ++ [(("goto" : Str), 99)] ++ l.drop i) = atD (i : Int) "no label" := by
  rw [List.append_assoc, List.singleton_append]
  have hl := labs_put (l := l) i (p := (("goto" : Str), 99)) (by decide)
  have e1 := err1_ok (l.take i ++ (("goto" : Str), 99) :: l.drop i) 0 [] (by rw [List.nil_append, hl]; exact h.nd)
  rw [List.nil_append, hl] at e1
  rw [errP_inr e1, err2_app _ _ _ _ (h.words_take i), List.length_take, Nat.min_eq_left hi, Nat.zero_add, List.zipIdx_cons]
  show Option.getD (if _ then (if _ then _ else (if _ then _ else _)) else _) _ = _
  have hj : isJ (("goto" : Str)) = true := by decide
  have ha : ((labsOf l).any fun y => decide (y = 99)) = false := by
    rw [List.any_eq_false]
    intro y hy q
    have : y = 99 := by simpa using q
    exact h99 (this ▸ hy)
  rw [if_pos (by decide), if_neg (by decide), if_pos (by rw [hj, ha]; rfl)]; rfl
theorem Made.fault_end (h : Made l) : errP (l.take (l.length - 1) ++ [(("const" : Str), 0)]) = atD ((l.length : Int) - 1) "end" := by
  obtain ⟨b, z, e2, ez⟩ := h.last
  have hb : l.take (l.length - 1) = b := by rw [e2]; simp
  have hlab : labsOf (b ++ [(("const" : Str), 0)]) = labsOf l := by
    have e1 : labsOf [((("const" : Str), 0) : Line)] = [] := by decide
    have e3 : labsOf [z] = [] := by
      obtain ⟨w, x⟩ := z
      simp only at ez
      rw [labsOf_cons, ez, if_neg (by decide)]; rfl
    rw [labsOf_append, e1, e2, labsOf_append, e3]
  rw [hb]
  have e1 := err1_ok (b ++ [(("const" : Str), 0)]) 0 [] (by rw [List.nil_append, hlab]; exact h.nd)
  rw [List.nil_append, hlab] at e1
  rw [errP_inr e1, err2_ok _ _ _ fun p hp => ?_]
  · have : endOk (b ++ [(("const" : Str), 0)]) = false := by unfold endOk; simp; decide
    show errE _ = _
    unfold errE
    rw [this, e2]
    simp
  · rcases List.mem_append.mp hp with hp | hp
    · exact h.words p (by rw [e2]; exact List.mem_append_left _ hp)
    · rw [List.mem_singleton.mp hp]; exact .inr ⟨by decide, fun q => absurd q (by decide)⟩
theorem Made.fault_twice (h : Made l) {x : Int} {i : Nat} (hi : i ≤ l.length) (hx : (("label" : Str), x) ∈ l.take i) : errP (l.take i ++ [(("label" : Str), x)] ++ l.drop i) = atD (i : Int) "label twice" := by
  rw [List.append_assoc, List.singleton_append]
  have hnd : ([] ++ labsOf (l.take i)).Nodup := by
    rw [List.nil_append]
    refine h.nd.sublist ?_
    conv => rhs; rw [← List.take_append_drop i l]
    rw [labsOf_append]
    exact List.sublist_append_left ..
  have hm : ((labsOf (l.take i)).any fun y => decide (y = x)) = true := by
    refine List.any_eq_true.mpr ⟨x, ?_, by simp⟩
    unfold labsOf
    exact List.mem_map.mpr ⟨_, List.mem_filter.mpr ⟨hx, by simp [isLab]⟩, rfl⟩
  have e1 : err1 ((l.take i ++ (("label" : Str), x) :: l.drop i).zipIdx) [] = .inl (atD (i : Int) "label twice") := by
    rw [err1_app _ _ 0 [] hnd, List.length_take, Nat.min_eq_left hi, Nat.zero_add, List.zipIdx_cons]
    show (if _ then (if _ then _ else _) else _) = _
    rw [if_pos (by decide), if_pos (by rw [List.nil_append]; exact hm)]
  unfold errP
  rw [e1]
end

end
/-! part R4 -/
section
section
variable {W0 : Wd} {o c : Addr} {cs : List Int} {C : FC} {m : Map} {δ : Int}
theorem map_put (l : List Line) (i : Nat) (p : Line) : (l.map lineD).take i ++ [lineD p] ++ (l.map lineD).drop i = (l.take i ++ [p] ++ l.drop i).map lineD := by simp [List.map_take, List.map_drop]
theorem law_faulty_ok (X : (heapK (deck2 W0 o c cs).w.params).In (deck2 W0 o c cs).hb) (B : Boot (deck2 W0 o c cs)) {K : D → Int → Prop} {n M : Nat} {l : List Line} (hn : 2 ≤ n) (hc : cs.length ≤ 50) (hM : Made l) (hl : l.length ≤ 20) (hx : ∃ x, x ∈ labsOf l) (h99 : (99 : Int) ∉ labsOf l) (hδ : Dr (M + 2) δ)
    (h : ∀ (l' : List Line) (i : Int) (x : Str) δ', PyData.strOk x = true → errP l' = atD i x → AllW l' → l'.length ≤ 21 → Dr M δ' → K (.tup [.list (l'.map lineD), atD i x]) δ') : CallOK (deck2 W0 o c cs) 139 n [.deck 0, .list (l.map lineD)] K δ := by
  obtain ⟨n, rfl⟩ : ∃ k, n = k + 1 := ⟨n - 1, by omega⟩
  refine call_body ["deck", "lines"] (X _ _ (by rfl)) rfl (codeRec_of X (by rfl)) rfl rfl (by rintro (_ | ⟨v, _ | ⟨_, _ | ⟨_, _⟩⟩⟩) h <;> first | rfl | cases h) rfl rfl (by decide) fun A L => ?_
  rw [argM_cons, argM_cons, argM_nil]
  have hn1 : 1 ≤ n := by omega
  have hsz : 2 ^ 10 ≤ sizeLine := by decide
  have hW := hM.allW
  have hpos : 0 < l.length := by obtain ⟨b, z, e, _⟩ := hM.last; rw [e]; simp
  have put_len : ∀ (i : Nat) (p : Line), (l.take i ++ [p] ++ l.drop i).length ≤ 21 := fun i p => by simp only [List.length_append, List.length_take, List.length_drop, List.length_cons, List.length_nil]; omega
  refine st_cons (ex_swap2 (x := "way") (y := "at") ?_ (.inl rfl) (.inl rfl) (by kernel_rfl) (by kernel_rfl))
  walk_at "lap"
  refine ev_draw X B (N := M + 1) hn1 hc (ev_name (by walk_at "lk") ⟨rfl, ev_int ⟨_, rfl, by decide, hδ, fun way δ w0 w1 hδ => ?_⟩⟩)
  walk_at "lap"
  refine ev_draw X B (N := M) hn1 hc (ev_name (by walk_at "lk") ⟨rfl, ev_callb (gnone X (by rfl)) (gblt B (by boot_fast)) (evs_cons (ev_name (by walk_at "lk") (evs_nil (b_len (by rw [lines_len]; omega) ?_))))⟩)
  rw [lines_len]
  refine ⟨_, rfl, by omega, hδ, fun at' δ a0 a1 hδ => ?_⟩
  refine evs_nil ⟨.int way, .int at', rfl, ?_⟩
  walk_at "lap"
  have put3 : ∀ (i : Int) (q : Line), 0 ≤ i → i ≤ l.length → (q.1 ∈ rowW ∨ q.1 ∈ badW) → ∀ msg : Str, PyData.strOk msg = true → errP (l.take i.toNat ++ [q] ++ l.drop i.toNat) = atD i msg → K (.tup [.list ((l.take i.toNat ++ [q] ++ l.drop i.toNat).map lineD), atD i msg]) δ :=
    fun i q i0 i1 hq msg hmsg e => h _ _ _ _ hmsg e (allW_put hW hq rfl) (put_len _ _) hδ
  split
  · have hne : l.filter isLab ≠ [] := by
      obtain ⟨x, hx⟩ := hx
      unfold labsOf at hx
      intro q; rw [q] at hx; cases hx
    obtain ⟨p0, rest, hf⟩ : ∃ p0 rest, l.filter isLab = p0 :: rest := by
      cases hq : l.filter isLab with
      | nil => exact absurd hq hne
      | cons a b => exact ⟨a, b, rfl⟩
    have hp0 : p0 ∈ l ∧ isLab p0 = true := List.mem_filter.mp (by rw [hf]; exact List.mem_cons_self)
    obtain ⟨w0', x⟩ := p0
    have ew : w0' = ("label" : Str) := by simpa [isLab] using hp0.2
    subst ew
    have hidx := List.idxOf_lt_length_iff.mpr hp0.1
    have hget : l[l.idxOf ((("label" : Str), x) : Line)]? = some (("label" : Str), x) := by rw [List.getElem?_eq_getElem hidx, List.getElem_idxOf hidx]
    walk_at "lap"
    refine ev_comp [] _ rfl (fun x hx => nomatch hx) (fun x c h => by cases h) (it_list (ev_name (by walk_at "lk") ⟨_, rfl, ?_⟩) (.inl fun _ _ => by rfl))
    refine ⟨by rw [lines_len]; omega, fun L' => ?_⟩
    refine comp_fm (g := fun p : Line => if isLab p = true then some (lineD p) else none) (fun _ => True) l (fun p hp m _ => ?_) trivial ?_
    · obtain ⟨w, z⟩ := p
      walk_at "lap"
      refine ⟨rfl, ?_⟩
      split
      · rename_i hq
        walk_at "lap"
        exact ⟨rfl, if_pos hq, trivial⟩
      · rename_i hq
        exact ⟨if_neg hq, trivial⟩
    rw [List.nil_append, filterMap_keep, hf, List.map_cons]
    walk_at "lap"
    refine o_item (by decide) (by decide) (show (lineD ((("label" : Str), x) : Line) :: rest.map lineD)[(0 : Int).toNat]? = some (lineD (("label" : Str), x)) from rfl) ?_
    walk_at "lap"
    refine ev_index_line (ev_name (by walk_at "lk") ⟨l, rfl, fun p hp => allW_strOk (hW p hp), by omega, ev_name (by walk_at "lk") ⟨(("label" : Str), x), rfl, hp0.1, ?_⟩⟩)
    generalize l.idxOf ((("label" : Str), x) : Line) = f at hidx hget
    walk_at "lap"
    refine ev_callb (gnone X (by rfl)) (gblt B (by boot_fast)) (evs_cons (ev_name (by walk_at "lk") (evs_nil (b_len (by rw [lines_len]; omega) ?_))))
    rw [lines_len]
    walk_at "lap"
    refine o_mod (by omega) ?_
    have m0 := Int.emod_nonneg at' (show (l.length : Int) - (f : Int) ≠ 0 by omega)
    have m1 := Int.emod_lt_of_pos at' (show 0 < (l.length : Int) - (f : Int) by omega)
    generalize at' % ((l.length : Int) - (f : Int)) = q at m0 m1 ⊢
    walk_at "lap"
    obtain ⟨i, hi⟩ : ∃ i : Nat, (f : Int) + 1 + q = (i : Int) := ⟨((f : Int) + 1 + q).toNat, by omega⟩
    rw [hi]
    have hmem : ((("label" : Str), x) : Line) ∈ l.take i := by
      have : (l.take i)[f]? = some (("label" : Str), x) := by rw [List.getElem?_take_of_lt (by omega), hget]
      exact List.mem_of_getElem? this
    refine ev_slice (ev_name (by walk_at "lk") ⟨_, rfl, by rw [lines_len]; omega, ev_name (by walk_at "lk") ⟨_, rfl, .inl ⟨by omega, ?_⟩⟩⟩)
    walk_at "lap"
    refine o_addl (by simp only [List.length_take, List.length_map, List.length_cons, List.length_nil]; omega) ?_
    refine ev_slice (ev_name (by walk_at "lk") ⟨_, rfl, by rw [lines_len]; omega, ev_name (by walk_at "lk") ⟨_, rfl, by omega, ?_⟩⟩)
    refine o_addl (by simp only [List.length_append, List.length_take, List.length_drop, List.length_map, List.length_cons, List.length_nil]; omega) ?_
    walk_at "lap"
    rw [map_put l (i : Int).toNat (("label" : Str), x)]
    have e := hM.fault_twice (i := (i : Int).toNat) (x := x) (by omega) (by rw [Int.toNat_natCast]; exact hmem)
    rw [Int.toNat_of_nonneg (by omega)] at e
    exact put3 (i : Int) (("label" : Str), x) (by omega) (by omega) (.inr (by show ("label" : Str) ∈ badW; decide)) "label twice" (by decide +kernel) e
  · walk_at "lap"
    split
    · walk_at "lap"
      refine ev_slice (ev_name (by walk_at "lk") ⟨_, rfl, by rw [lines_len]; omega, ev_name (by walk_at "lk") ⟨_, rfl, .inl ⟨a0, ?_⟩⟩⟩)
      walk_at "lap"
      refine o_addl (by simp only [List.length_take, List.length_map, List.length_cons, List.length_nil]; omega) ?_
      refine ev_slice (ev_name (by walk_at "lk") ⟨_, rfl, by rw [lines_len]; omega, ev_name (by walk_at "lk") ⟨_, rfl, a0, ?_⟩⟩)
      refine o_addl (by simp only [List.length_append, List.length_take, List.length_drop, List.length_map, List.length_cons, List.length_nil]; omega) ?_
      walk_at "lap"
      rw [show (l.map lineD).take at'.toNat ++ [D.tup [D.str "hop", D.int 0]] ++ (l.map lineD).drop at'.toNat = (l.take at'.toNat ++ [(("hop" : Str), 0)] ++ l.drop at'.toNat).map lineD from map_put l at'.toNat (("hop" : Str), 0)]
      have e := hM.fault_word (i := at'.toNat) (by omega)
      rw [Int.toNat_of_nonneg a0] at e
      exact put3 at' (("hop" : Str), 0) a0 (by omega) (.inr (by decide)) "word" (by decide +kernel) e
    · walk_at "lap"
      split
      · walk_at "lap"
        refine ev_slice (ev_name (by walk_at "lk") ⟨_, rfl, by rw [lines_len]; omega, ev_name (by walk_at "lk") ⟨_, rfl, .inl ⟨a0, ?_⟩⟩⟩)
        walk_at "lap"
        refine o_addl (by simp only [List.length_take, List.length_map, List.length_cons, List.length_nil]; omega) ?_
        refine ev_slice (ev_name (by walk_at "lk") ⟨_, rfl, by rw [lines_len]; omega, ev_name (by walk_at "lk") ⟨_, rfl, a0, ?_⟩⟩)
        refine o_addl (by simp only [List.length_append, List.length_take, List.length_drop, List.length_map, List.length_cons, List.length_nil]; omega) ?_
        walk_at "lap"
        rw [show (l.map lineD).take at'.toNat ++ [D.tup [D.str "goto", D.int 99]] ++ (l.map lineD).drop at'.toNat = (l.take at'.toNat ++ [(("goto" : Str), 99)] ++ l.drop at'.toNat).map lineD from map_put l at'.toNat (("goto" : Str), 99)]
        have e := hM.fault_label (i := at'.toNat) (by omega) h99
        rw [Int.toNat_of_nonneg a0] at e
        exact put3 at' (("goto" : Str), 99) a0 (by omega) (.inl (by decide)) "no label" (by decide +kernel) e
      · walk_at "lap"
        refine ev_slice (ev_name (by walk_at "lk") ⟨_, rfl, by rw [lines_len]; omega, ?_⟩)
        walk_at "lap"
        refine .inr ⟨by decide, ?_⟩
        walk_at "lap"
        refine o_addl (by simp only [List.length_take, List.length_map, List.length_cons, List.length_nil]; omega) ?_
        walk_at "lap"
        refine ev_callb (gnone X (by rfl)) (gblt B (by boot_fast)) (evs_cons (ev_name (by walk_at "lk") (evs_nil (b_len (by rw [lines_len]; omega) ?_))))
        rw [lines_len]
        walk_at "lap"
        rw [show (l.map lineD).take (l.length - (-(-1 : Int)).toNat) ++ [D.tup [D.str "const", D.int 0]] = (l.take (l.length - 1) ++ [(("const" : Str), 0)]).map lineD by simp [List.map_take]]
        refine h _ _ _ _ (by decide +kernel) hM.fault_end (fun p hp => ?_) (by simp only [List.length_append, List.length_take, List.length_cons, List.length_nil]; omega) hδ
        rcases List.mem_append.mp hp with hp | hp
        · exact hW p (List.mem_of_mem_take hp)
        · rw [List.mem_singleton.mp hp]; exact .inl (by show ("const" : Str) ∈ rowW; decide)
end

end
/-! part N5 -/
section
/-! what the second law asks of its made lines -/
section
variable {l : List Line}
theorem ret_labs : labsOf [((("return" : Str), -1) : Line)] = [] := by decide
theorem Lines2.labsEx (h : Lines2 l) : ∃ N : Nat, 1 ≤ N ∧ N ≤ 4 ∧ (labsOf l).Nodup ∧ (∀ x, x ∈ labsOf l ↔ 10 ≤ x ∧ x < 10 + (N : Int)) := by
  obtain ⟨N, b, h1, h2, e, T, hT, hb⟩ := h.ex
  refine ⟨N, h1, h2, ?_, fun x => ?_⟩
  · rw [e, labsOf_append, ret_labs, List.append_nil]; exact hb.nd
  · rw [e, labsOf_append, ret_labs, List.append_nil]; exact hb.labs x
theorem jump4_row {w : Str} (h : w ∈ jump4) : w ∈ rowW := (by decide : ∀ w ∈ jump4, w ∈ rowW) w h
theorem ord4_row {p : Line} (h : p ∈ ord4) : p.1 ∈ rowW ∧ isJ p.1 = false := (by decide : ∀ p ∈ ord4, p.1 ∈ rowW ∧ isJ p.1 = false) p h
theorem Lines2.made (h : Lines2 l) : Made l := by
  obtain ⟨N, b, h1, h2, e, T, hT, hb⟩ := h.ex
  have hlab : labsOf l = labsOf b := by rw [e, labsOf_append, ret_labs, List.append_nil]
  refine ⟨by rw [hlab]; exact hb.nd, fun p hp => ?_, b, _, e, rfl⟩
  rw [hlab]
  rw [e] at hp
  rcases List.mem_append.mp hp with hp | hp
  · rcases hb.words p hp with q | q | ⟨q, q1, q2⟩
    · exact .inl q
    · exact .inr ⟨(ord4_row q).1, fun z => by rw [(ord4_row q).2] at z; cases z⟩
    · exact .inr ⟨jump4_row q, fun _ => (hb.labs _).mpr ⟨q1, q2⟩⟩
  · rw [List.mem_singleton.mp hp]
    exact .inr ⟨by decide, fun z => absurd z (by decide)⟩
theorem Lines2.len (h : Lines2 l) : l.length ≤ 12 := by
  obtain ⟨N, b, h1, h2, e, T, hT, hb⟩ := h.ex
  have := hb.len
  rw [e, List.length_append, List.length_singleton]; omega
theorem Lines2.others (h : Lines2 l) : (nolab l).length ≤ 8 := by
  obtain ⟨N, b, h1, h2, e, T, hT, hb⟩ := h.ex
  have := hb.many
  have e2 : nolab l = nolab b ++ [(("return" : Str), -1)] := by
    rw [e]; unfold nolab; rw [List.filter_append]; congr 1
  rw [e2, List.length_append, List.length_singleton]; omega
theorem Lines2.inLab (h : Lines2 l) : ∀ x ∈ labsOf l, x ∈ ([10, 11, 12, 13] : List Int) := fun x hx => by
  obtain ⟨N, h1, h2, _, h3⟩ := h.labsEx
  have := (h3 x).mp hx
  have : x = 10 ∨ x = 11 ∨ x = 12 ∨ x = 13 := by omega
  rcases this with rfl | rfl | rfl | rfl <;> simp
theorem Lines2.some (h : Lines2 l) : ∃ x, x ∈ labsOf l := by
  obtain ⟨N, h1, h2, _, h3⟩ := h.labsEx
  exact ⟨10, (h3 10).mpr (by omega)⟩
theorem Lines2.no99 (h : Lines2 l) : (99 : Int) ∉ labsOf l := fun q => by have := h.inLab _ q; revert this; decide
/-- every line there can be -/
def allLines : List Line := ord4 ++ [(("return" : Str), -1)] ++ ([10, 11, 12, 13] : List Int).flatMap fun x => (("label" : Str), x) :: jump4.map fun w => (w, x)
theorem Lines2.mem (h : Lines2 l) : ∀ p ∈ l, p ∈ allLines := fun p hp => by
  have hin := h.inLab
  obtain ⟨N, b, h1, h2, e, T, hT, hb⟩ := h.ex
  have key : ∀ x : Int, 10 ≤ x → x < 10 + (N : Int) → x ∈ ([10, 11, 12, 13] : List Int) := fun x a c => by
    have : x = 10 ∨ x = 11 ∨ x = 12 ∨ x = 13 := by omega
    rcases this with rfl | rfl | rfl | rfl <;> simp
  unfold allLines
  have hlab : labsOf l = labsOf b := by rw [e, labsOf_append, ret_labs, List.append_nil]
  rw [e] at hp
  rcases List.mem_append.mp hp with hp | hp
  · obtain ⟨w, x⟩ := p
    rcases hb.words _ hp with q | q | ⟨q, q1, q2⟩
    · simp only at q
      subst q
      have hx : x ∈ labsOf l := by
        rw [hlab]; unfold labsOf
        exact List.mem_map.mpr ⟨_, List.mem_filter.mpr ⟨hp, by simp [isLab]⟩, rfl⟩
      exact List.mem_append.mpr (.inr (List.mem_flatMap.mpr ⟨x, hin x hx, List.mem_cons_self⟩))
    · exact List.mem_append.mpr (.inl (List.mem_append.mpr (.inl q)))
    · exact List.mem_append.mpr (.inr (List.mem_flatMap.mpr ⟨x, key x q1 q2, List.mem_cons_of_mem _ (List.mem_map.mpr ⟨w, q, rfl⟩)⟩))
  · rw [List.mem_singleton.mp hp]
    exact List.mem_append.mpr (.inl (List.mem_append.mpr (.inr List.mem_cons_self)))
theorem shown_all : ∀ p ∈ allLines, (lineD p).py.showable = true ∧ (lineD p).py.shown.length ≤ 100 := by decide +kernel
theorem Lines2.shown (h : Lines2 l) : ∀ d ∈ l.map lineD, d.py.showable = true ∧ d.py.shown.length ≤ 100 := fun d hd => by
  obtain ⟨p, hp, rfl⟩ := List.mem_map.mp hd
  exact shown_all p (h.mem p hp)
theorem codeG_small {c : List Line} (h : CodeG c) (hl : c.length ≤ 8) : ∀ x ∈ jops c, x ∈ ([0, 1, 2, 3, 4, 5, 6, 7] : List Int) := fun x hx => by
  obtain ⟨t, rfl, ht⟩ := h.targets ((met_mem _ _).mpr hx)
  have : t = 0 ∨ t = 1 ∨ t = 2 ∨ t = 3 ∨ t = 4 ∨ t = 5 ∨ t = 6 ∨ t = 7 := by omega
  rcases this with rfl | rfl | rfl | rfl | rfl | rfl | rfl | rfl <;> decide
theorem lops_in (h : Made l) : ∀ x ∈ lops l, x ∈ labsOf l := fun x hx => by
  rw [h.lops, jops_mem] at hx
  obtain ⟨p, hp, hj, rfl⟩ := hx
  exact h.target hp hj
theorem lab_last (c : List Line) (z : Line) : ∃ b, lab (c ++ [z]) = b ++ [ren (met (c ++ [z])) z] := by
  rw [lab_eq]
  generalize met (c ++ [z]) = P
  have : ∀ (c : List Line) (i : Nat), ∃ b, labF P (c ++ [z]) i = b ++ [ren P z] := by
    intro c
    induction c with
    | nil =>
      intro i
      rw [List.nil_append, labF_cons]
      exact ⟨_, rfl⟩
    | cons p r ih =>
      intro i
      rw [List.cons_append, labF_cons]
      obtain ⟨b, e⟩ := ih (i + 1)
      rw [e]
      exact ⟨_, by rw [← List.cons_append, ← List.append_assoc]⟩
  exact this c 0
theorem Made.again (h : Made l) : Made (lab (Lap.asm l)) := by
  have hC := h.code
  refine ⟨hC.labsNd, fun p hp => ?_, ?_⟩
  · rcases lab_mem hp with q | ⟨q, hq, rfl⟩
    · exact .inl q
    · refine .inr ⟨by rw [ren_fst]; exact hC.words q hq, fun hj => ?_⟩
      rw [ren_fst] at hj
      have e : (ren (met (Lap.asm l)) q).2 = idxI (met (Lap.asm l)) q.2 := by unfold ren; rw [if_pos hj]
      rw [e]
      exact hC.idx_mem (hC.mem q hq hj)
  · obtain ⟨b, z, e2, ez⟩ := h.last
    have hz : z.1 ≠ ("label" : Str) := by rw [ez]; decide
    have e3 : nolab l = nolab b ++ [z] := by
      rw [e2]; unfold nolab; rw [List.filter_append]; congr 1
      rw [List.filter_cons, if_pos (by simpa using hz)]; rfl
    have e4 : Lap.asm l = (nolab b).map (due1 l) ++ [due1 l z] := by rw [h.asm, e3, List.map_append]; rfl
    obtain ⟨b', e5⟩ := lab_last ((nolab b).map (due1 l)) (due1 l z)
    refine ⟨b', ren (met (Lap.asm l)) (due1 l z), by rw [e4]; exact e5, ?_⟩
    rw [ren_fst]
    unfold due1; split <;> exact ez
theorem labs_filter (l : List Line) : l.filter isLab = (labsOf l).map fun x => (("label" : Str), x) := by
  unfold labsOf
  rw [List.map_map]
  conv => lhs; rw [← List.map_id (l.filter isLab)]
  apply List.map_congr_left
  intro p hp
  have := (List.mem_filter.mp hp).2
  have e : p.1 = ("label" : Str) := by simpa [isLab] using this
  obtain ⟨w, x⟩ := p
  simp only at e
  subst e; rfl
theorem CodeG.plcs {c : List Line} (h : CodeG c) : ((List.range (met c).length).map fun i : Nat => plc (lab c) (i : Int) 0) = met c := by
  have e := map_idx (met_nodup c)
  have e2 : ((List.range (met c).length).map fun i : Nat => plc (lab c) (i : Int) 0) = ((List.range (met c).length).map fun i : Nat => (i : Int)).map fun x => plc (lab c) x 0 := by rw [List.map_map]; rfl
  rw [e2, ← e, List.map_map]
  conv => rhs; rw [← List.map_id (met c)]
  apply List.map_congr_left
  intro x hx
  have h1 := h.back hx
  rw [lpl_in _ _ _ _ h.labsNd (h.idx_mem hx)] at h1
  simpa using h1
theorem CodeG.range_labs {c : List Line} (h : CodeG c) : ∀ i : Nat, i < (met c).length → (i : Int) ∈ labsOf (lab c) := fun i hi => by
  rw [h.labs]; exact List.mem_map.mpr ⟨i, List.mem_range.mpr hi, rfl⟩
theorem sort_set {xs l' : List Int} (h1 : l'.Pairwise (· ≤ ·)) (h2 : l'.Nodup) (h3 : ∀ x, x ∈ l' ↔ x ∈ xs) : l' = sortI (keysOf xs) :=
  sortI_eq ((List.perm_ext_iff_of_nodup h2 (foldK_nodup _ _ List.nodup_nil)).mpr fun x => by rw [h3]; exact (keysOf_mem xs x).symm) h1
theorem woU_used (l : List Line) : (Lap.woU l).filter (fun p => isLab p && !((keysOf (Lap.lops l)).any fun y => decide (y = p.2))) = [] := by
  rw [List.filter_eq_nil_iff]
  intro p hp
  unfold Lap.woU keepL at hp
  have := (List.mem_filter.mp hp).2
  by_cases hl : p.1 = ("label" : Str)
  · have h1 : ((keysOf (Lap.lops l)).any fun y => decide (y = p.2)) = true := by simpa [hl] using this
    rw [h1]; simp
  · simp [isLab, hl]
theorem iset_keys (f : List (Int × Int)) (k v : Int) : ∀ p ∈ iset f k v, p.1 = k ∨ ∃ q ∈ f, q.1 = p.1 := fun p hp => by
  unfold iset at hp
  split at hp
  · obtain ⟨q, hq, rfl⟩ := List.mem_map.mp hp
    split
    · exact .inl ‹_›
    · exact .inr ⟨q, hq, rfl⟩
  · rcases List.mem_append.mp hp with hp | hp
    · exact .inr ⟨p, hp, rfl⟩
    · rw [List.mem_singleton.mp hp]; exact .inl rfl
theorem lln_keys : ∀ (z : List (Line × Nat)) (f : List (Int × Int)), ∀ p ∈ lln z f, (∃ q ∈ f, q.1 = p.1) ∨ ∃ i, ((("label" : Str), p.1), i) ∈ z
  | [], f, p, hp => .inl ⟨p, hp, rfl⟩
  | ((w, x), i) :: r, f, p, hp => by
    change p ∈ (if (w == ("label" : Str)) = true then lln r (iset f x (i : Nat)) else lln r f) at hp
    split at hp
    · rename_i hc
      have hw : w = ("label" : Str) := by simpa using hc
      subst hw
      rcases lln_keys r _ p hp with ⟨q, hq, e⟩ | ⟨j, hj⟩
      · rcases iset_keys f x _ q hq with e2 | ⟨q', hq', e2⟩
        · exact .inr ⟨i, by rw [← e, e2]; exact List.mem_cons_self⟩
        · exact .inl ⟨q', hq', e2.trans e⟩
      · exact .inr ⟨j, List.mem_cons_of_mem _ hj⟩
    · rcases lln_keys r f p hp with q | ⟨j, hj⟩
      · exact .inl q
      · exact .inr ⟨j, List.mem_cons_of_mem _ hj⟩
theorem known_at (l : List Line) : ∀ p ∈ lln l.zipIdx [], ∃ a : Nat, l[a]? = some (("label" : Str), p.1) := fun p hp => by
  rcases lln_keys _ _ p hp with ⟨q, hq, _⟩ | ⟨i, hi⟩
  · cases hq
  · have := List.mem_zipIdx hi
    simp only [Nat.zero_add, Nat.sub_zero] at this
    exact ⟨i, by rw [List.getElem?_eq_getElem (by omega)]; exact congrArg _ this.2.2.symm⟩
end

end
/-! part F2 -/
section
abbrev flat0 (prog : Program) (w : World) (h : Heap) (main : ∃ o, h.get? mainNs = some o) (mg mb : Str → Option Value) (hg : h.Ns mainGlobals mg) (hbb : h.Ns builtinsNs mb) (lim : h.NoLimit) : Wd :=
  { prog := prog, w := w, hb := h, main := main, mg := mg, mb := mb, hg := hg, hbb := hbb, lim := lim, root := fun _ => 0, da := [], Δ := Unit, rel := fun _ _ => True, stable := fun _ _ _ _ _ => trivial }
theorem two_lookup {x a1 a2 : Str} {b1 b2 c : Addr} (h : List.lookup x [(a1, b1), (a2, b2)] = some c) : (x = a1 ∧ c = b1) ∨ (x = a2 ∧ c = b2) := by
  simp only [List.lookup] at h
  split at h
  · rename_i he
    cases h
    exact .inl ⟨by simpa using he, rfl⟩
  · split at h
    · rename_i he
      cases h
      exact .inr ⟨by simpa using he, rfl⟩
    · cases h
theorem plain_of_well {P : Params} {h : Heap} {a : Addr} {vs : List Value} {l : List PyData} (Wl : Well P h (.ref a) (ofPy (.list l))) (hL : h.IsList a vs.toArray) : PlainL h a vs.toArray := by
  simp only [ofPy] at Wl
  cases Wl with
  | list g _ =>
    obtain ⟨o, e, hc, n, hd⟩ := hL
    have e' := g.symm.trans e
    cases e'
    exact ⟨_, n, e, rfl, rfl, hd⟩
theorem whole : PySem.Challenge.rw_ok0049_02.Holds := hd _ _ rfl rfl rfl (by
  k_go0
  rename_i h1 tk1 F o1 o2 left right N0 X0
  rename Frag.In _ _ => KX
  rename Top _ _ _ _ _ _ => T
  rename Well _ _ _ _ => Wl
  rename IntsAre _ _ => hI
  rename _ = #[] => hgens
  rename ¬ (_ < _) => hcond
  rename Heap.IsList _ _ _ => hL
  rename World => w
  rename Shared => s1
  rename List Int => ns
  have hmain : ∃ o, s1.heap.get? mainNs = some o := ⟨_, KX _ _ (by rfl)⟩
  have PL := plain_of_well Wl hL
  have c1 := N0 _ (.head _)
  have c2 := N0 _ (.tail _ (.head _))
  refine law2_first (W0 := flat0 PySem.Challenge.rw_ok0049_02.row.prog w s1.heap hmain _ _ T.g T.b T.nolimit) (C := ⟨_, _, [s1.heap.objs.size + 1 + 1, s1.heap.objs.size + 1], 10⟩) (H := [s1.heap.objs.size, s1.heap.objs.size + 1 + 1, s1.heap.objs.size + 1])
    (m := upd (fun _ => none) "script" (.val (.list (dints ns)))) (ns := ns) (δ := ()) rfl ?R upd_self (by omega) (gnone (W := (flat0 PySem.Challenge.rw_ok0049_02.row.prog w s1.heap hmain _ _ T.g T.b T.nolimit)) KX (by rfl)) (gblt (W := (flat0 PySem.Challenge.rw_ok0049_02.row.prog w s1.heap hmain _ _ T.g T.b T.nolimit)) T.builtins (by boot_fast)) rfl rfl (by decide) (by decide) rfl ?rest ?Q
  case Q =>
    rintro s' LK base
    refine ⟨.inl ⟨.bool true, .bool true, [], rfl, fun _ => rfl, .bool true, by kernel_rfl, fun _ => ⟨by simp, by simp⟩⟩, base, LK.2.2, LK.1.trans hgens⟩
  case R =>
    have lt : ∀ b o, s1.heap.get? b = some o → b ∉ [s1.heap.objs.size, s1.heap.objs.size + 1 + 1, s1.heap.objs.size + 1] := fun b o e q => by
      have := Heap.lt_size e
      simp only [List.mem_cons, List.not_mem_nil, or_false] at q
      rcases q with rfl | rfl | rfl
      · exact Nat.lt_irrefl _ this
      · exact absurd this (Nat.not_lt.mpr (Nat.le_trans (Nat.le_succ _) (Nat.le_succ _)))
      · exact absurd this (Nat.not_lt.mpr (Nat.le_succ _))
    refine ⟨⟨fun b o e => ⟨F.keep b o e, lt b o e⟩, trivial, fun a ha => (nomatch ha), fun a ha => ?_⟩, rfl, rfl, rfl, rfl, ?_, ?_, rfl, ⟨_, F.ns, fun x e hx => ?_⟩, .head _, fun q => (nomatch q), fun c hc => ?_, fun x c hk hc _ => ?_, fun x y c hx hy => ?_, fun x a d hx => ?_, fun x y a d e hx _ => ?_⟩
    · simp only [List.mem_cons, List.not_mem_nil, or_false] at ha
      rcases ha with rfl | rfl | rfl
      · obtain ⟨o, _, _, e, _⟩ := F.ns; exact ⟨o, e⟩
      · exact ⟨_, c1.1⟩
      · exact ⟨_, c2.1⟩
    · show callerA.depth + 1 + 10 < recursionLimit
      decide
    · show callerA.units + 3 + 8 * 10 + 80 < cLine
      decide
    · by_cases hxs : x = "script"
      · subst hxs
        rw [upd_self] at hx
        cases hx
        refine ⟨_, .inl ⟨rfl, rfl⟩, .list ?_ (plainL_at PL fun o e => F.keep _ o e) (dints_rep hI)⟩
        obtain ⟨o, _, e, _⟩ := PL
        exact lt _ o e
      · rw [upd_ne hxs] at hx; cases hx
    · simp only [List.mem_cons, List.not_mem_nil, or_false] at hc
      rcases hc with rfl | rfl
      · exact ⟨.tail _ (.head _), fun q => (nomatch q), Nat.ne_of_gt (Nat.lt_succ_of_lt (Nat.lt_succ_self _))⟩
      · exact ⟨.tail _ (.tail _ (.head _)), fun q => (nomatch q), Nat.ne_of_gt (Nat.lt_succ_self _)⟩
    · rcases two_lookup hc with ⟨_, rfl⟩ | ⟨_, rfl⟩
      · exact ⟨_, _, c1.1, left⟩
      · exact ⟨_, _, c2.1, right⟩
    · rcases two_lookup hx with ⟨rfl, rfl⟩ | ⟨rfl, rfl⟩
      · rcases two_lookup hy with ⟨q, _⟩ | ⟨_, q⟩
        · exact q.symm
        · exact absurd q (Nat.ne_of_gt (Nat.lt_succ_self _))
      · rcases two_lookup hy with ⟨_, q⟩ | ⟨q, _⟩
        · exact absurd q (Nat.ne_of_lt (Nat.lt_succ_self _))
        · exact q.symm
    · by_cases hxs : x = "script"
      · subst hxs; rw [upd_self] at hx; cases hx
      · rw [upd_ne hxs] at hx; cases hx
    · by_cases hxs : x = "script"
      · subst hxs; rw [upd_self] at hx; cases hx
      · rw [upd_ne hxs] at hx; cases hx
  case rest =>
    intro o c cs hc
    have X : (heapK (deck2 (flat0 PySem.Challenge.rw_ok0049_02.row.prog w s1.heap hmain _ _ T.g T.b T.nolimit) o c cs).w.params).In (deck2 (flat0 PySem.Challenge.rw_ok0049_02.row.prog w s1.heap hmain _ _ T.g T.b T.nolimit) o c cs).hb := KX
    have B : Boot (deck2 (flat0 PySem.Challenge.rw_ok0049_02.row.prog w s1.heap hmain _ _ T.g T.b T.nolimit) o c cs) := T.builtins
    clear left right N0 X0 PL Wl hI KX
    have hsz : 2 ^ 11 ≤ sizeLine := by decide
    have one : ∀ {x a : Str} {b c : Addr}, List.lookup x [(a, b)] = some c → x = a ∧ c = b := by
      intro x a b c h
      simp only [List.lookup] at h
      split at h
      · rename_i he
        cases h
        exact ⟨by simpa using he, rfl⟩
      · cases h
    refine st_cons (ex_for (it_range1 (gnone X (by rfl)) (gblt B (by boot_fast)) (ev_int ⟨_, rfl, by decide, by decide, ?_⟩)))
    refine loop_ind (Inv := fun r m δ => m "deck" = some (.val (.deck 0)) ∧ Dr (40 * r.length) δ) ?_ ?_ _ ⟨by walk_at "lk", ⟨Int.le_refl 0, (by decide : (0 : Int) + ((40 * 2 : Nat) : Int) ≤ 1000)⟩⟩
    · rintro i r m δ ⟨k1, hδ⟩
      simp only [List.length_cons] at hδ
      walk_at "lap"
      refine ev_call (gfun X (by rfl)) (X _ _ (by rfl)) rfl (evs_cons (ev_name (by walk_at "lk") (evs_nil (law_lines_ok X B (M := 40 * r.length + 2) (by show 3 ≤ 10; decide) hc (hδ.le (by omega)) fun l δ hg hδ => ?_))))
      have hM := hg.made
      have hW := hM.allW
      have hlen := hg.len
      have hnl := hg.others
      have hok : ∀ d ∈ l.map lineD, Ok 7 d := lineD_ok l fun p hp => allW_strOk (hW p hp)
      -- shown, code
      refine after_next (st_cons (ex_swap2 (x := "shown") (y := "code") ?_ (.inl rfl) (.inl rfl) (by kernel_rfl) (by kernel_rfl)))
      walk_at "lap"
      refine ev_callb (gnone X (by rfl)) (gblt B (by boot_fast)) (evs_cons (ev_name (by walk_at "lk") (evs_nil (b_repr hok hg.shown (by rw [lines_len]; omega) ?_))))
      walk_at "lap"
      refine ev_call (gfun X (by rfl)) (X _ _ (by rfl)) rfl (evs_cons (ev_name (by walk_at "lk") (evs_nil (assembled_ok X (by show 2 ≤ 10; decide) (by omega) hM.wordsOk hM.jumpsIn ?_))))
      refine evs_nil ⟨_, _, rfl, ?_⟩
      obtain ⟨sh, hsh⟩ : ∃ sh, sh = (D.list (l.map lineD)).py.shown := ⟨_, rfl⟩
      rw [← hsh]
      have hC := hM.code
      have hcl : (asm l).length ≤ 8 := by rw [asm_len]; exact hnl
      have okL : ∀ (c : List Line), (∀ p ∈ c, p.1 ∈ rowW ∨ p.1 ∈ badW) → Ok 8 (.list (c.map lineD)) := by
        intro c hc d hd
        obtain ⟨p, hp, rfl⟩ := List.mem_map.mp hd
        intro e he
        simp only [List.mem_cons, List.not_mem_nil, or_false] at he
        rcases he with rfl | rfl
        · exact allW_ok (hc p hp) 6
        · trivial
      have okC := okL (asm l) fun p hp => .inl (hC.words p hp)
      have hag := hM.again
      have hasm := hM.asm
      have hkept := hM.kept_asm
      generalize hcode : asm l = code at *
      -- due
      walk_at "lap"
      refine ex_for (it_list (ev_name (by walk_at "lk") ⟨_, rfl, ?_⟩) (.inr ⟨_, _, _, rfl⟩))
      refine loop_ind (Inv := fun r m δ' => δ' = δ ∧ (∀ p ∈ r, p ∈ l) ∧ ∃ a acc, m "due" = some (.own a (.list (acc.map lineD))) ∧ m "lines" = some (.val (.list (l.map lineD))) ∧ m "code" = some (.val (.list (code.map lineD))) ∧ m "shown" = some (.val (.str sh)) ∧ m "deck" = some (.val (.deck 0)) ∧ acc ++ (nolab r).map (due1 l) = code ∧ acc.length + r.length ≤ 12) ?_ ?_ l
        ⟨rfl, fun p hp => hp, _, [], (show _ = some (Ent.own _ (D.list [])) by walk_at "lk"), by walk_at "lk", by walk_at "lk", by walk_at "lk", by walk_at "lk", hasm.symm, by simpa using hlen⟩
      · rintro ⟨w, x⟩ r m δ' ⟨rfl, hr, a, acc, h1, h2, h3, h4, h5, h6, h7⟩
        have hr0 := hr _ List.mem_cons_self
        have hr' := fun p hp => hr p (List.mem_cons_of_mem _ hp)
        simp only [List.length_cons] at h7
        rw [nolab_cons] at h6
        walk_at "lap"
        split
        · rename_i hcw
          have hwne : w ≠ ("label" : Str) := by simpa using hcw
          have hwr := ((hM.words _ hr0).resolve_left hwne).1
          rw [if_neg (by simpa using hwne), List.map_cons] at h6
          walk_at "lap"
          · refine te_isj X (by show 1 ≤ 10; decide) ?_
            walk_at "lap"
            refine ⟨hwr, ?_⟩
            split
            · rename_i hj
              have e1 : due1 l (w, x) = (w, plc l x 0) := by unfold due1; rw [if_pos hj]
              rw [e1] at h6
              walk_at "lap"
              refine ev_call (gfun X (by rfl)) (X _ _ (by rfl)) rfl (evs_cons (ev_name (by walk_at "lk") (evs_cons (ev_name (by walk_at "lk") (evs_nil (law_behind_ok X B (by show 1 ≤ 10; decide) (fun p hp => allW_strOk (hW p hp)) (by omega) (hM.target hr0 hj) ?_))))))
              walk_at "lap"
              exact ⟨rfl, hr', _, _, upd_lines, by walk_at "lk", by walk_at "lk", by walk_at "lk", by walk_at "lk", by simpa using h6, by simp; omega⟩
            · rename_i hj
              have e1 : due1 l (w, x) = (w, x) := by unfold due1; rw [if_neg hj]
              rw [e1] at h6
              walk_at "lap"
              exact ⟨rfl, hr', _, _, upd_lines, by walk_at "lk", by walk_at "lk", by walk_at "lk", by walk_at "lk", by simpa using h6, by simp; omega⟩
          · rw [lines_len]; have : (100 : Nat) < sizeLine := (by decide); omega
        · rename_i hcw
          have hwl : w = ("label" : Str) := by simpa using hcw
          rw [if_pos (by rw [hwl]; rfl)] at h6
          walk_at "lap"
          exact ⟨rfl, hr', _, _, by walk_at "lk", by walk_at "lk", by walk_at "lk", by walk_at "lk", by walk_at "lk", h6, by omega⟩
      · rintro m δ' ⟨rfl, hr, a, acc, h1, h2, h3, h4, h5, h6, h7⟩
        have e : acc = code := by simpa [nolab] using h6
        subst e
        refine st_freeze "due" h1 ?_
        walk_at "lap"
        refine o_ne okC okC ?_
        rw [deq_refl]
        walk_at "lap"
        rw [if_neg (by simp)]
        walk_at "lap"
        refine ev_call (gfun X (by rfl)) (X _ _ (by rfl)) rfl (evs_cons (ev_name (by walk_at "lk") (evs_nil (lines_error_ok X B (by show 2 ≤ 10; decide) (by omega) hM.allW ?_))))
        rw [hM.err]
        walk_at "lap"
        rw [if_neg (by simp [isN])]
        walk_at "lap"
        refine ev_callb (gnone X (by rfl)) (gblt B (by boot_fast)) (evs_cons (ev_name (by walk_at "lk") (evs_nil (b_repr hok hg.shown (by rw [lines_len]; omega) ?_))))
        rw [← hsh]
        walk_at "lap"
        rw [if_neg (by simp)]
        walk_at "lap"
        rw [if_neg (by simp)]
        walk_at "lap"
        -- again_here
        have hml := met_len acc
        have hll := lab_len acc
        have okAg := okL (lab acc) fun p hp => hag.allW p hp
        refine ex_assign ?_ (.inr ⟨rfl, _, rfl, by first | exact .head _ | exact .tail _ (.head _)⟩)
        refine ev_call (gfun X (by rfl)) (X _ _ (by rfl)) rfl (evs_cons (ev_name (by walk_at "lk") (evs_nil (labelled_ok X B (by show 3 ≤ 10; decide) (by omega) hC.words hC.mem (by omega) ?_))))
        -- places
        walk_at "lap"
        refine ev_sorted_set uPlace (by decide) (gnone X (by rfl)) (gblt B (by boot_fast)) (gnone X (by rfl)) (gblt B (by boot_fast)) ?_
        refine ev_comp [] _ rfl (fun x hx => nomatch hx) (fun x c h => by cases h) (it_list (ev_name (by walk_at "lk") ⟨_, rfl, ?_⟩) (.inr ⟨_, _, _, rfl⟩))
        refine ⟨by rw [lines_len]; omega, fun L' => ?_⟩
        refine comp_fm (g := fun p : Line => if isJ p.1 = true then some (D.int p.2) else none) (fun _ => True) acc (fun p hp m _ => ?_) trivial ?_
        · obtain ⟨w, x⟩ := p
          have hw := hC.words _ hp
          walk_at "lap"
          refine te_isj X (by show 1 ≤ 10; decide) ?_
          walk_at "lap"
          refine ⟨hw, ?_⟩
          refine ⟨rfl, ?_⟩
          split
          · rename_i hj
            walk_at "lap"
            exact ⟨rfl, rfl, trivial⟩
          · rename_i hj
            exact ⟨rfl, trivial⟩
        have ejops : ([] : List D) ++ acc.filterMap (fun p : Line => if isJ p.1 = true then some (D.int p.2) else none) = dints (jops acc) := by
          rw [List.nil_append, filterMap_keep (fun p : Line => D.int p.2) (fun p => isJ p.1)]
          unfold dints jops
          rw [List.map_map]; rfl
        rw [ejops]
        refine ⟨_, rfl, codeG_small hC hcl, fun l' s1 s2 s3 => ?_⟩
        rw [show l' = met acc from sort_set s1 s2 s3]
        -- heads
        refine after_next (st_cons (ex_assign_comp [] _ rfl rfl (.inl rfl) (fun x hx => nomatch hx) (fun x c h => by cases h) (it_list (ev_name (by walk_at "lk") ⟨_, rfl, ?_⟩) (.inl fun _ _ => rfl))))
        refine ⟨by rw [lines_len]; omega, fun L' => ?_⟩
        refine comp_fm (g := fun p : Line => if isLab p = true then some (lineD p) else none) (fun _ => True) (lab acc) (fun p hp m _ => ?_) trivial ?_
        · obtain ⟨w, x⟩ := p
          walk_at "lap"
          refine ⟨rfl, ?_⟩
          split
          · rename_i hq
            walk_at "lap"
            exact ⟨rfl, if_pos hq, trivial⟩
          · rename_i hq
            exact ⟨if_neg hq, trivial⟩
        rw [List.nil_append, filterMap_keep]
        have ehead : (lab acc).filter isLab = (List.range (met acc).length).map fun i : Nat => ((("label" : Str), (i : Int)) : Line) := by rw [labs_filter, hC.labs, List.map_map]; rfl
        rw [ehead]
        have okHd : Ok 8 (.list (((List.range (met acc).length).map fun i : Nat => ((("label" : Str), (i : Int)) : Line)).map lineD)) := okL _ fun p hp => by
          obtain ⟨i, _, rfl⟩ := List.mem_map.mp hp
          exact .inr (by show ("label" : Str) ∈ badW; decide)
        walk_at "lap"
        refine ev_call (gfun X (by rfl)) (X _ _ (by rfl)) rfl (evs_cons (ev_name (by walk_at "lk") (evs_nil (assembled_ok X (by show 2 ≤ 10; decide) (by omega) hC.wordsBack hC.jumpsBack ?_))))
        rw [hC.round]
        walk_at "lap"
        refine o_ne okC okC ?_
        rw [deq_refl]
        walk_at "lap"
        rw [if_neg (by simp)]
        walk_at "lap"
        refine ev_comp [] _ rfl (fun x hx => nomatch hx) (fun x c h => by cases h) (it_range1 (gnone X (by rfl)) (gblt B (by boot_fast)) (ev_callb (gnone X (by rfl)) (gblt B (by boot_fast)) (evs_cons (ev_name (by walk_at "lk") (evs_nil (b_len (by simp only [dints, List.length_map]; omega) ?_))))))
        rw [show (dints (met acc)).length = (met acc).length by simp [dints]]
        refine ⟨_, rfl, by omega, by omega, ?_⟩
        rw [Int.toNat_natCast]
        refine ⟨by simp only [List.length_map, List.length_range]; omega, fun L' => ?_⟩
        refine comp_fm (g := fun i : Nat => some (lineD ((("label" : Str), (i : Int)) : Line))) (fun _ => True) _ (fun i hi m _ => ?_) trivial ?_
        · walk_at "lap"
          refine ⟨rfl, ?_⟩
          rw [if_pos rfl]
          walk_at "lap"
          exact ⟨rfl, rfl, trivial⟩
        rw [List.nil_append, map_map_eq (fun i : Nat => lineD ((("label" : Str), (i : Int)) : Line)), show (List.range (met acc).length).map (fun i : Nat => lineD ((("label" : Str), (i : Int)) : Line)) = ((List.range (met acc).length).map fun i : Nat => ((("label" : Str), (i : Int)) : Line)).map lineD by rw [List.map_map]; rfl]
        refine o_ne okHd okHd ?_
        rw [deq_refl]
        walk_at "lap"
        rw [if_neg (by simp)]
        walk_at "lap"
        rw [if_neg (by simp)]
        walk_at "lap"
        -- behind
        refine ev_comp ["again_here"] _ rfl (fun x hx => by rw [List.mem_singleton.mp hx]; exact ⟨rfl, rfl, rfl, _, by walk_at "lk"⟩) (fun x c h => by obtain ⟨rfl, rfl⟩ := one h; rfl) (it_range1 (gnone X (by rfl)) (gblt B (by boot_fast)) (ev_callb (gnone X (by rfl)) (gblt B (by boot_fast)) (evs_cons (ev_name (by walk_at "lk") (evs_nil (b_len (by simp only [dints, List.length_map]; omega) ?_))))))
        rw [show (dints (met acc)).length = (met acc).length by simp [dints]]
        refine ⟨_, rfl, by omega, by omega, ?_⟩
        rw [Int.toNat_natCast]
        refine ⟨by simp only [List.length_map, List.length_range]; omega, fun L' => ?_⟩
        refine comp_fm (g := fun i : Nat => some (D.int (plc (lab acc) (i : Int) 0))) (fun m => m "again_here" = some (.val (.list ((lab acc).map lineD)))) _ (fun i hi m hm => ?_) (fv_get (by simp) (by walk_at "lk")) ?_
        · walk_at "lap"
          refine ⟨rfl, ?_⟩
          rw [if_pos rfl]
          refine ev_call (gfun X (by rfl)) (X _ _ (by rfl)) rfl (evs_cons (ev_name (by walk_at "lk") (evs_cons (ev_name (by walk_at "lk") (evs_nil (law_behind_ok X B (by show 1 ≤ 10; decide) (fun p hp => allW_strOk (hag.allW p hp)) (by omega) (hC.range_labs i (List.mem_range.mp hi)) ?_))))))
          exact ⟨rfl, rfl, by walk_at "lk"⟩
        rw [List.nil_append, map_map_eq (fun i : Nat => D.int (plc (lab acc) (i : Int) 0)), show (List.range (met acc).length).map (fun i : Nat => D.int (plc (lab acc) (i : Int) 0)) = dints (met acc) by rw [show dints (met acc) = dints ((List.range (met acc).length).map fun i : Nat => plc (lab acc) (i : Int) 0) by rw [hC.plcs]]; unfold dints; rw [List.map_map]; rfl]
        walk_at "lap"
        refine o_ne (dints_ok _ 7) (dints_ok _ 7) ?_
        rw [deq_refl]
        walk_at "lap"
        rw [if_neg (by simp)]
        walk_at "lap"
        refine ev_call (gfun X (by rfl)) (X _ _ (by rfl)) rfl (evs_cons (ev_name (by walk_at "lk") (evs_nil (lines_error_ok X B (by show 2 ≤ 10; decide) (by omega) hag.allW ?_))))
        rw [hag.err]
        walk_at "lap"
        rw [if_neg (by simp [isN])]
        walk_at "lap"
        rw [if_neg (by simp)]
        -- fewer, used
        have hK := hM.kept
        have hKl : (keptL (jops l) l).length ≤ 12 := Nat.le_trans (List.length_filter_le ..) hlen
        walk_at "lap"
        refine ex_unpack ?_ (by kernel_rfl) (by kernel_rfl)
        walk_at "lap"
        refine ev_call (gfun X (by rfl)) (X _ _ (by rfl)) rfl (evs_cons (ev_name (by walk_at "lk") (evs_nil (without_unused_ok X (by show 3 ≤ 10; decide) (by omega) hM.wordsOk ?_))))
        walk_at "lap"
        refine ev_call (gfun X (by rfl)) (X _ _ (by rfl)) rfl (evs_cons (ev_name (by walk_at "lk") (evs_nil (labels_used_ok X (by show 2 ≤ 10; decide) (by omega) hM.wordsOk ?_))))
        refine evs_nil ?_
        refine as_tuple rfl ?_
        refine ass_cons (as_name (.inl rfl) ?_)
        refine ass_cons (as_name (.inr ⟨rfl, _, rfl, by first | exact .head _ | exact .tail _ (.head _)⟩) (ass_nil ?_))
        rw [hM.woU]
        have hlo := lops_in hM
        have hkl : (keysOf (lops l)).length ≤ 12 := by
          have h1 := foldl_len (lops l) []
          have h2 : (lops l).length ≤ l.length := by unfold lops; rw [List.length_map]; exact List.length_filter_le ..
          unfold keysOf
          simp only [List.length_nil] at h1
          omega
        walk_at "lap"
        refine ev_call (gfun X (by rfl)) (X _ _ (by rfl)) rfl (evs_cons (ev_name (by walk_at "lk") (evs_nil (assembled_ok X (by show 2 ≤ 10; decide) (by omega) hK.wordsOk hK.jumpsIn ?_))))
        rw [hkept]
        walk_at "lap"
        refine o_ne okC okC ?_
        rw [deq_refl]
        walk_at "lap"
        rw [if_neg (by simp)]
        walk_at "lap"
        refine ev_callb (gnone X (by rfl)) (gblt B (by boot_fast)) (evs_cons (ev_name (by walk_at "lk") (evs_nil (b_sortedD (by rw [dT_len]; omega) fun l1 p1 p2 => ?_))))
        rw [show (dT (keysOf (lops l))).map (·.1) = keysOf (lops l) by unfold dT; rw [List.map_map]; exact List.map_id _] at p1
        rw [show l1 = sortI (keysOf (lops l)) from sortI_eq p1 p2]
        refine ev_sorted_set uLab (by decide) (gnone X (by rfl)) (gblt B (by boot_fast)) (gnone X (by rfl)) (gblt B (by boot_fast)) ?_
        refine ev_comp [] _ rfl (fun x hx => nomatch hx) (fun x c h => by cases h) (it_list (ev_name (by walk_at "lk") ⟨_, rfl, ?_⟩) (.inr ⟨_, _, _, rfl⟩))
        refine ⟨by rw [lines_len]; omega, fun L' => ?_⟩
        refine comp_fm (g := fun p : Line => if (p.1 != ("label" : Str) && isJ p.1) = true then some (D.int p.2) else none) (fun _ => True) l (fun p hp m _ => ?_) trivial ?_
        · obtain ⟨w, x⟩ := p
          walk_at "lap"
          split
          · rename_i hcw
            have hwne : w ≠ ("label" : Str) := by simpa using hcw
            walk_at "lap"
            refine te_isj X (by show 1 ≤ 10; decide) ?_
            walk_at "lap"
            refine ⟨((hM.words _ hp).resolve_left hwne).1, ?_⟩
            split
            · rename_i hj
              walk_at "lap"
              refine ⟨rfl, ?_⟩
              rw [if_pos rfl]
              walk_at "lap"
              exact ⟨rfl, if_pos (by rw [Bool.and_eq_true]; exact ⟨hcw, hj⟩), trivial⟩
            · rename_i hj
              refine ⟨rfl, ?_⟩
              rw [if_neg (by simp)]
              exact ⟨if_neg (by rw [Bool.and_eq_true]; exact fun q => hj q.2), trivial⟩
          · rename_i hcw
            refine ⟨rfl, ?_⟩
            rw [if_neg (by simp)]
            exact ⟨if_neg (by rw [Bool.and_eq_true]; exact fun q => hcw q.1), trivial⟩
        have elops : ([] : List D) ++ l.filterMap (fun p : Line => if (p.1 != ("label" : Str) && isJ p.1) = true then some (D.int p.2) else none) = dints (lops l) := by
          rw [List.nil_append, filterMap_keep (fun p : Line => D.int p.2) (fun p => p.1 != ("label" : Str) && isJ p.1)]
          unfold dints lops
          rw [List.map_map]; rfl
        rw [elops]
        refine ⟨_, rfl, fun x hx => hg.inLab x (hlo x hx), fun l' s1 s2 s3 => ?_⟩
        rw [show l' = sortI (keysOf (lops l)) from sort_set s1 s2 s3]
        refine o_ne (dints_ok _ 7) (dints_ok _ 7) ?_
        rw [deq_refl]
        walk_at "lap"
        rw [if_neg (by simp)]
        walk_at "lap"
        rw [if_neg (by simp)]
        walk_at "lap"
        -- no label that is not used
        refine ev_comp ["used"] _ rfl (fun x hx => by rw [List.mem_singleton.mp hx]; exact ⟨rfl, rfl, rfl, _, by walk_at "lk"⟩) (fun x c h => by obtain ⟨rfl, rfl⟩ := one h; rfl) (it_list (ev_name (by walk_at "lk") ⟨_, rfl, ?_⟩) (.inl fun _ _ => rfl))
        refine ⟨by rw [lines_len]; omega, fun L' => ?_⟩
        refine comp_fm (g := fun p : Line => if (isLab p && !((keysOf (lops l)).any fun y => decide (y = p.2))) = true then some (lineD p) else none) (fun m => m "used" = some (.val (.dict (dT (keysOf (lops l)))))) _ (fun p hp m hm => ?_) (fv_get (by simp) (by walk_at "lk")) ?_
        · obtain ⟨w, x⟩ := p
          walk_at "lap"
          split
          · rename_i hcw
            walk_at "lap"
            rw [dget_dT]
            split
            · rename_i hu
              walk_at "lap"
              refine ⟨rfl, ?_⟩
              rw [if_pos rfl]
              walk_at "lap"
              exact ⟨rfl, if_pos (by rw [Bool.and_eq_true]; exact ⟨hcw, hu⟩), by walk_at "lk"⟩
            · rename_i hu
              refine ⟨rfl, ?_⟩
              rw [if_neg (by simp)]
              exact ⟨if_neg (by rw [Bool.and_eq_true]; exact fun q => hu q.2), by walk_at "lk"⟩
          · rename_i hcw
            refine ⟨rfl, ?_⟩
            rw [if_neg (by simp)]
            exact ⟨if_neg (by rw [Bool.and_eq_true]; exact fun q => hcw q.1), by walk_at "lk"⟩
        rw [List.nil_append, filterMap_keep, ← hM.woU, woU_used, List.map_nil]
        walk_at "lap"
        refine o_ne (by intro d hd; cases hd) (by intro d hd; cases hd) ?_
        rw [deq_refl]
        walk_at "lap"
        rw [if_neg (by simp)]
        walk_at "lap"
        -- known
        refine ev_call (gfun X (by rfl)) (X _ _ (by rfl)) rfl (evs_cons (ev_name (by walk_at "lk") (evs_nil (label_lines_ok X B (by show 1 ≤ 10; decide) (by omega) ?_))))
        walk_at "lap"
        refine ex_for (it_dict (ev_name (by walk_at "lk") ⟨_, rfl, ?_⟩) (fun _ _ => rfl))
        have hkn := known_at l
        have hlns : ∀ {i : Nat} {o : Int}, l[i]? = some (("label" : Str), o) → iget (lln l.zipIdx []) o = some (i : Int) := fun hi => hM.lines hi
        rw [show (dI (lln l.zipIdx [])).map (fun p => D.int p.1) = (lln l.zipIdx []).map fun p => D.int p.1 by unfold dI; rw [List.map_map]; rfl]
        refine loop_ind (Inv := fun r m δ2 => δ2 = δ' ∧ (∀ p ∈ r, p ∈ lln l.zipIdx []) ∧ m "known" = some (.val (.dict (dI (lln l.zipIdx [])))) ∧ m "lines" = some (.val (.list (l.map lineD))) ∧ m "deck" = some (.val (.deck 0))) ?_ ?_ _
          ⟨rfl, fun p hp => hp, by walk_at "lk", by walk_at "lk", by walk_at "lk"⟩
        · rintro ⟨x, y⟩ r2 m δ2 ⟨rfl, hr2, g1, g2, g3⟩
          have hr2' := fun p hp => hr2 p (List.mem_cons_of_mem _ hp)
          obtain ⟨i, hi⟩ := hkn _ (hr2 _ List.mem_cons_self)
          simp only at hi
          have hln := hlns hi
          have hi2 : i < l.length := (List.getElem?_eq_some_iff.mp hi).1
          have hit : (l.map lineD)[((i : Nat) : Int).toNat]? = some (lineD (("label" : Str), x)) := by rw [Int.toNat_natCast, List.getElem?_map, hi]; rfl
          walk_at "lap"
          refine o_itemD (by rw [dget_dI, hln]; rfl) ?_
          walk_at "lap"
          refine o_item (by omega) (by omega) hit ?_
          have hwL : PyData.strOk ("label" : Str) = true := allW_strOk (.inr (by decide))
          have hw2 : PyData.strOk ((("label" : Str), x) : Line).1 = true := hwL
          have okl := lineD_ok1 ((("label" : Str), x) : Line) hw2 6
          walk_at "lap"
          refine o_ne okl okl ?_
          rw [deq_refl]
          walk_at "lap"
          rw [if_neg (by simp)]
          obtain ⟨q, hq1, hq2⟩ := hM.behind hi2
          have hq3 : ((nolab (l.drop i)).map lineD)[(0 : Int).toNat]? = some (lineD q) := by
            show ((nolab (l.drop i)).map lineD)[0]? = _
            rw [List.getElem?_map, hq1]; rfl
          have hqm : q ∈ l := by
            have := (nolab_mem (List.mem_of_getElem? hq1)).1
            exact List.mem_of_mem_drop this
          have okq : Ok 8 (lineD q) := by
            intro e he
            simp only [List.mem_cons, List.not_mem_nil, or_false] at he
            rcases he with rfl | rfl
            · exact allW_ok (hM.allW q hqm) 7
            · trivial
          walk_at "lap"
          refine ev_call (gfun X (by rfl)) (X _ _ (by rfl)) rfl (evs_cons (ev_name (by walk_at "lk") (evs_cons (ev_name (by walk_at "lk") (evs_nil (line_behind_ok X B (by show 1 ≤ 10; decide) (by omega) (Nat.le_of_lt hi2) ?_))))))
          rw [hq2]
          walk_at "lap"
          refine ev_comp [] _ rfl (fun x hx => nomatch hx) (fun x c h => by cases h) (it_list (ev_slice (ev_name (by walk_at "lk") ⟨_, rfl, by rw [lines_len]; omega, ev_name (by walk_at "lk") ⟨_, rfl, by omega, ?_⟩⟩)) (.inl fun _ _ => rfl))
          refine ⟨(l.drop i).map lineD, by rw [Int.toNat_natCast, List.map_drop], by simp only [List.length_map, List.length_drop]; omega, fun L' => ?_⟩
          refine comp_fm (g := fun p : Line => if (p.1 != ("label" : Str)) = true then some (lineD p) else none) (fun _ => True) (l.drop i) (fun p hp m _ => ?_) trivial ?_
          · obtain ⟨w, x⟩ := p
            walk_at "lap"
            refine ⟨rfl, ?_⟩
            split
            · walk_at "lap"
              exact ⟨rfl, rfl, trivial⟩
            · exact ⟨rfl, trivial⟩
          rw [List.nil_append, filterMap_keep]
          walk_at "lap"
          refine o_item (by decide) (by decide) hq3 ?_
          walk_at "lap"
          refine o_ne okq okq ?_
          rw [deq_refl]
          walk_at "lap"
          rw [if_neg (by simp)]
          walk_at "lap"
          rw [if_neg (by simp)]
          walk_at "lap"
          exact ⟨rfl, hr2', by walk_at "lk", by walk_at "lk", by walk_at "lk"⟩
        · rintro m δ2 ⟨rfl, hr2, g1, g2, g3⟩
          walk_at "lap"
          refine ex_unpack ?_ (by kernel_rfl) (by kernel_rfl)
          refine ev_call (gfun X (by rfl)) (X _ _ (by rfl)) rfl (evs_cons (ev_name (by walk_at "lk") (evs_cons (ev_name (by walk_at "lk") (evs_nil (law_faulty_ok X B (M := 40 * r.length) (by show 2 ≤ 10; decide) hc hM (by omega) hg.some hg.no99 hδ fun l2 i msg δ2 hmsg he hW2 hl2 hδ2 => ?_))))))
          walk_at "lap"
          refine ev_call (gfun X (by rfl)) (X _ _ (by rfl)) rfl (evs_cons (ev_name (by walk_at "lk") (evs_nil (lines_error_ok X B (by show 2 ≤ 10; decide) (by omega) hW2 ?_))))
          rw [he]
          walk_at "lap"
          refine o_ne (atD_ok i hmsg) (atD_ok i hmsg) ?_
          rw [deq_refl]
          walk_at "lap"
          rw [if_neg (by simp)]
          walk_at "lap"
          exact ⟨by walk_at "lk", hδ2⟩
    · rintro m δ ⟨k1, hδ⟩
      refine after_next (st_cons (ex_return (ev_and (ev_cmp ?_))))
      refine ev_call (gfun X (by rfl)) (X _ _ (by rfl)) rfl (evs_cons ?_)
      walk_at "lap"
      refine lines_error_ok X B (l := []) (by show 2 ≤ 10; decide) (by simp) (by intro p hp; cases hp) ?_
      rw [errP_nil]
      walk_at "lap"
      refine o_eq (errP_okD []) (errP_okD []) ?_
      rw [show deq (atD (-1) "end") (D.tup [D.int (-1), D.str "end"]) = true from deq_refl _]
      walk_at "lap"
      rw [if_pos (by rfl)]
      walk_at "lap"
      refine ev_call (gfun X (by rfl)) (X _ _ (by rfl)) rfl (evs_cons ?_)
      walk_at "lap"
      refine assembled_ok X (l := []) (by show 2 ≤ 10; decide) (by decide) (by intro p hp; cases hp) (by intro p hp; cases hp) ?_
      walk_at "lap"
      refine o_eq (show Ok 8 (.list (([] : List Line).map lineD)) from fun d hd => by cases hd) (show Ok 8 (.list []) from fun d hd => by cases hd) ?_
      rw [show deq (D.list ((asm []).map lineD)) (D.list []) = true from deq_refl _]
      walk_at "lap"
      rfl)

end
end Lap

theorem PySem.Challenge.cw_ok0049_02_holds : PySem.Challenge.rw_ok0049_02.Holds := by
  exact Lap.whole
