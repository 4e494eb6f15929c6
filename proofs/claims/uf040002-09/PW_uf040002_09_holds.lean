import PyProof.Rows.All
import PyProof.P3Statements
import OpenK.KCell
import OpenK.Lit
import OpenK.KTop
import Open.FastT9
import Wide.All
import Wide.FinOn
import PySem.Challenge.RW_uf040002_09
set_option Elab.async false
set_option linter.all false
set_option genSizeOf false
set_option bootstrap.genMatcherCode false
set_option backward.eqns.nonrecursive false
set_option backward.match.sparseCases false
set_option autoImplicit false
set_option maxRecDepth 100000
namespace Mine.Internal.K09
open PySem PySem.W
noncomputable def topS (i : Nat) : Stmt := (PySem.Challenge.pw_uf040002_09.main.body)[i]?.getD (.Pass ⟨0, 0, 0, 0⟩)
noncomputable def meS (i j : Nat) : Stmt := match topS i with
 | .ClassDef _ _ _ b _ _ _ _ _ _ _ => b[j]?.getD (.Pass ⟨0, 0, 0, 0⟩)
 | _ => .Pass ⟨0, 0, 0, 0⟩
noncomputable def argsOf : Stmt → Arguments
 | .FunctionDef _ a _ _ _ _ _ _ _ _ => a
 | _ => ⟨[], [], .none, [], [], .none, []⟩
noncomputable def bodyOf : Stmt → List Stmt
 | .FunctionDef _ _ b _ _ _ _ _ _ _ => b
 | _ => []
noncomputable def scopeOf : Stmt → Scope
 | .FunctionDef _ _ _ _ _ _ s _ _ _ => s
 | _ => ⟨.function, [], false, false, []⟩
noncomputable def g0 (P : Params) : Frag := [(2, { cls := Value.none, data := Data.dict #[] }), (3, { cls := Value.type "dict", data := Data.dict #[{ hash := PyData.keyHash P (Str.ofString "__name__"), key := Value.str (Str.ofString "__name__") 165, val := Value.str (Str.ofString "law_uf040002_09") 546 }, { hash := PyData.keyHash P (Str.ofString "__doc__"), key := Value.str (Str.ofString "__doc__") 166, val := Value.none }, { hash := PyData.keyHash P (Str.ofString "__package__"), key := Value.str (Str.ofString "__package__") 167, val := Value.none }, { hash := PyData.keyHash P (Str.ofString "__loader__"), key := Value.str (Str.ofString "__loader__") 168, val := Value.builtin "__main__.__loader__#opaque" }, { hash := PyData.keyHash P (Str.ofString "__spec__"), key := Value.str (Str.ofString "__spec__") 169, val := Value.none }, { hash := PyData.keyHash P (Str.ofString "__annotations__"), key := Value.str (Str.ofString "__annotations__") 170, val := Value.ref 6 }, { hash := PyData.keyHash P (Str.ofString "__builtins__"), key := Value.str (Str.ofString "__builtins__") 171, val := Value.ref 4 }, { hash := PyData.keyHash P (Str.ofString "__file__"), key := Value.str (Str.ofString "__file__") 173, val := Value.str (Str.ofString "/claim/cut.py") 172 }, { hash := PyData.keyHash P (Str.ofString "__cached__"), key := Value.str (Str.ofString "__cached__") 174, val := Value.none }, { hash := PyData.keyHash P (Str.ofString "reached"), key := Value.str (Str.ofString "reached") 200, val := Value.ref 21 }, { hash := PyData.keyHash P (Str.ofString "trials"), key := Value.str (Str.ofString "trials") 206, val := Value.ref 26 }, { hash := PyData.keyHash P (Str.ofString "tidy"), key := Value.str (Str.ofString "tidy") 212, val := Value.ref 31 }, { hash := PyData.keyHash P (Str.ofString "PileError"), key := Value.str (Str.ofString "PileError") 232, val := Value.ref 41 }, { hash := PyData.keyHash P (Str.ofString "NoHand"), key := Value.str (Str.ofString "NoHand") 248, val := Value.ref 54 }, { hash := PyData.keyHash P (Str.ofString "NoSize"), key := Value.str (Str.ofString "NoSize") 264, val := Value.ref 66 }, { hash := PyData.keyHash P (Str.ofString "Full"), key := Value.str (Str.ofString "Full") 280, val := Value.ref 78 }, { hash := PyData.keyHash P (Str.ofString "NoBox"), key := Value.str (Str.ofString "NoBox") 296, val := Value.ref 90 }, { hash := PyData.keyHash P (Str.ofString "NoSlot"), key := Value.str (Str.ofString "NoSlot") 312, val := Value.ref 102 }, { hash := PyData.keyHash P (Str.ofString "HANDS"), key := Value.str (Str.ofString "HANDS") 316, val := Value.int 8 315 }, { hash := PyData.keyHash P (Str.ofString "MOST_SLOTS"), key := Value.str (Str.ofString "MOST_SLOTS") 318, val := Value.int 6 317 }, { hash := PyData.keyHash P (Str.ofString "MOST_ALIVE"), key := Value.str (Str.ofString "MOST_ALIVE") 320, val := Value.int 60 319 }, { hash := PyData.keyHash P (Str.ofString "Pile"), key := Value.str (Str.ofString "Pile") 526, val := Value.ref 255 }, { hash := PyData.keyHash P (Str.ofString "done"), key := Value.str (Str.ofString "done") 537, val := Value.ref 266 }, { hash := PyData.keyHash P (Str.ofString "come_to"), key := Value.str (Str.ofString "come_to") 545, val := Value.ref 271 }, { hash := PyData.keyHash P (Str.ofString "_law_whole"), key := Value.str (Str.ofString "_law_whole") 554, val := Value.ref 278 }, { hash := PyData.keyHash P (Str.ofString "_law_cell_at"), key := Value.str (Str.ofString "_law_cell_at") 562, val := Value.ref 285 }, { hash := PyData.keyHash P (Str.ofString "_law_numbers"), key := Value.str (Str.ofString "_law_numbers") 571, val := Value.ref 292 }, { hash := PyData.keyHash P (Str.ofString "_law_deed_by"), key := Value.str (Str.ofString "_law_deed_by") 586, val := Value.ref 299 }, { hash := PyData.keyHash P (Str.ofString "_law_done"), key := Value.str (Str.ofString "_law_done") 594, val := Value.ref 306 }, { hash := PyData.keyHash P (Str.ofString "_law_ring"), key := Value.str (Str.ofString "_law_ring") 604, val := Value.ref 313 }, { hash := PyData.keyHash P (Str.ofString "_law_star"), key := Value.str (Str.ofString "_law_star") 615, val := Value.ref 320 }, { hash := PyData.keyHash P (Str.ofString "_law_begun"), key := Value.str (Str.ofString "_law_begun") 624, val := Value.ref 327 }, { hash := PyData.keyHash P (Str.ofString "_law_closure"), key := Value.str (Str.ofString "_law_closure") 638, val := Value.ref 334 }, { hash := PyData.keyHash P (Str.ofString "_law_pairs_due"), key := Value.str (Str.ofString "_law_pairs_due") 644, val := Value.ref 339 }, { hash := PyData.keyHash P (Str.ofString "_law_pairs"), key := Value.str (Str.ofString "_law_pairs") 653, val := Value.ref 346 }, { hash := PyData.keyHash P (Str.ofString "_law_good"), key := Value.str (Str.ofString "_law_good") 659, val := Value.ref 351 }, { hash := PyData.keyHash P (Str.ofString "law"), key := Value.str (Str.ofString "law") 665, val := Value.ref 356 }] 37 }), (15, { cls := Value.type "tuple", data := Data.seq #[] }), (17, { cls := Value.type "tuple", data := Data.seq #[Value.str (Str.ofString "pile") 192, Value.str (Str.ofString "numbers") 193, Value.str (Str.ofString "found") 194, Value.str (Str.ofString "waiting") 195, Value.str (Str.ofString "number") 196, Value.str (Str.ofString "other") 197] }), (18, { cls := Value.type "tuple", data := Data.seq #[] }), (20, { cls := Value.type "code", data := Data.fields #[Value.str (Str.ofString "reached") 189, Value.str (Str.ofString "reached") 190, Value.str (Str.ofString "/claim/cut.py") 191, Value.int 2 0, Value.int 2 0, Value.int 0 0, Value.int 0 0, Value.int 3 0, Value.ref 15, Value.bool true, Value.int 181 0, Value.ref 16, Value.none, Value.ref 17, Value.ref 18, Value.ref 19, Value.int 198 0, Value.int 2 0, Value.str (Str.ofString "/claim/cut.py") 199] }), (21, { cls := Value.type "function", data := Data.func { name := Str.ofString "reached", qualname := Str.ofString "reached", params := argsOf (topS 1), body := FuncBody.stmts (bodyOf (topS 1)), scope := scopeOf (topS 1), globals := 3, closure := [], defaults := Value.none, kwdefaults := Value.none, pyModule := Value.str (Str.ofString "boxpile.trial") 187, code := Value.ref 20 } }), (22, { cls := Value.type "tuple", data := Data.seq #[] }), (25, { cls := Value.type "code", data := Data.fields #[Value.str (Str.ofString "trials") 201, Value.str (Str.ofString "trials") 202, Value.str (Str.ofString "/claim/cut.py") 203, Value.int 15 0, Value.int 1 0, Value.int 0 0, Value.int 0 0, Value.int 3 0, Value.ref 22, Value.bool true, Value.int 181 0, Value.ref 23, Value.none, Value.none, Value.none, Value.ref 24, Value.int 204 0, Value.int 15 0, Value.str (Str.ofString "/claim/cut.py") 205] }), (26, { cls := Value.type "function", data := Data.func { name := Str.ofString "trials", qualname := Str.ofString "trials", params := argsOf (topS 2), body := FuncBody.stmts (bodyOf (topS 2)), scope := scopeOf (topS 2), globals := 3, closure := [], defaults := Value.none, kwdefaults := Value.none, pyModule := Value.str (Str.ofString "boxpile.trial") 187, code := Value.ref 25 } }), (27, { cls := Value.type "tuple", data := Data.seq #[] }), (30, { cls := Value.type "code", data := Data.fields #[Value.str (Str.ofString "tidy") 207, Value.str (Str.ofString "tidy") 208, Value.str (Str.ofString "/claim/cut.py") 209, Value.int 25 0, Value.int 1 0, Value.int 0 0, Value.int 0 0, Value.int 3 0, Value.ref 27, Value.bool true, Value.int 181 0, Value.ref 28, Value.none, Value.none, Value.none, Value.ref 29, Value.int 210 0, Value.int 25 0, Value.str (Str.ofString "/claim/cut.py") 211] })]
noncomputable def g1 (P : Params) : Frag := [(31, { cls := Value.type "function", data := Data.func { name := Str.ofString "tidy", qualname := Str.ofString "tidy", params := argsOf (topS 3), body := FuncBody.stmts (bodyOf (topS 3)), scope := scopeOf (topS 3), globals := 3, closure := [], defaults := Value.none, kwdefaults := Value.none, pyModule := Value.str (Str.ofString "boxpile.trial") 187, code := Value.ref 30 } }), (32, { cls := Value.type "tuple", data := Data.seq #[Value.type "ValueError"] }), (39, { cls := Value.type "tuple", data := Data.seq #[] }), (40, { cls := Value.type "dict", data := Data.dict #[{ hash := PyData.keyHash P (Str.ofString "__module__"), key := Value.str (Str.ofString "__module__") 222, val := Value.str (Str.ofString "boxpile.errors") 213 }, { hash := PyData.keyHash P (Str.ofString "__firstlineno__"), key := Value.str (Str.ofString "__firstlineno__") 226, val := Value.int 32 225 }, { hash := PyData.keyHash P (Str.ofString "__static_attributes__"), key := Value.str (Str.ofString "__static_attributes__") 227, val := Value.ref 39 }, { hash := PyData.keyHash P (Str.ofString "__weakref__"), key := Value.str (Str.ofString "__weakref__") 229, val := Value.ref 42 }, { hash := PyData.keyHash P (Str.ofString "__doc__"), key := Value.str (Str.ofString "__doc__") 230, val := Value.none }] 3 }), (41, { cls := Value.type "type", data := Data.cls { name := Str.ofString "PileError", bases := [Value.type "ValueError"], mro := [Value.ref 41, Value.type "ValueError", Value.type "Exception", Value.type "BaseException", Value.type "object"], ns := 40, qualname := Str.ofString "PileError", subclasses := [Value.ref 54, Value.ref 66, Value.ref 78, Value.ref 90, Value.ref 102] }, slots := #[.some (Value.ref 32), .none, .some (Value.str (Str.ofString "PileError") 215), .some (Value.str (Str.ofString "PileError") 223), .some (Value.builtin "ValueError.__new__"), .some (Value.bool true)] }), (42, { cls := Value.type "getset_descriptor", data := Data.fields #[Value.str (Str.ofString "__weakref__") 228, Value.ref 41, Value.builtin "ExceptionGroup.__weakref__", Value.none] }), (45, { cls := Value.type "tuple", data := Data.seq #[Value.ref 41] }), (52, { cls := Value.type "tuple", data := Data.seq #[] }), (53, { cls := Value.type "dict", data := Data.dict #[{ hash := PyData.keyHash P (Str.ofString "__module__"), key := Value.str (Str.ofString "__module__") 240, val := Value.str (Str.ofString "boxpile.errors") 213 }, { hash := PyData.keyHash P (Str.ofString "__firstlineno__"), key := Value.str (Str.ofString "__firstlineno__") 244, val := Value.int 34 243 }, { hash := PyData.keyHash P (Str.ofString "__static_attributes__"), key := Value.str (Str.ofString "__static_attributes__") 245, val := Value.ref 52 }, { hash := PyData.keyHash P (Str.ofString "__doc__"), key := Value.str (Str.ofString "__doc__") 246, val := Value.none }] 2 }), (54, { cls := Value.type "type", data := Data.cls { name := Str.ofString "NoHand", bases := [Value.ref 41], mro := [Value.ref 54, Value.ref 41, Value.type "ValueError", Value.type "Exception", Value.type "BaseException", Value.type "object"], ns := 53, qualname := Str.ofString "NoHand" }, slots := #[.some (Value.ref 45), .none, .some (Value.str (Str.ofString "NoHand") 233), .some (Value.str (Str.ofString "NoHand") 241), .some (Value.builtin "ValueError.__new__"), .some (Value.bool true)] }), (57, { cls := Value.type "tuple", data := Data.seq #[Value.ref 41] }), (64, { cls := Value.type "tuple", data := Data.seq #[] })]
noncomputable def g2 (P : Params) : Frag := [(65, { cls := Value.type "dict", data := Data.dict #[{ hash := PyData.keyHash P (Str.ofString "__module__"), key := Value.str (Str.ofString "__module__") 256, val := Value.str (Str.ofString "boxpile.errors") 213 }, { hash := PyData.keyHash P (Str.ofString "__firstlineno__"), key := Value.str (Str.ofString "__firstlineno__") 260, val := Value.int 36 259 }, { hash := PyData.keyHash P (Str.ofString "__static_attributes__"), key := Value.str (Str.ofString "__static_attributes__") 261, val := Value.ref 64 }, { hash := PyData.keyHash P (Str.ofString "__doc__"), key := Value.str (Str.ofString "__doc__") 262, val := Value.none }] 2 }), (66, { cls := Value.type "type", data := Data.cls { name := Str.ofString "NoSize", bases := [Value.ref 41], mro := [Value.ref 66, Value.ref 41, Value.type "ValueError", Value.type "Exception", Value.type "BaseException", Value.type "object"], ns := 65, qualname := Str.ofString "NoSize" }, slots := #[.some (Value.ref 57), .none, .some (Value.str (Str.ofString "NoSize") 249), .some (Value.str (Str.ofString "NoSize") 257), .some (Value.builtin "ValueError.__new__"), .some (Value.bool true)] }), (69, { cls := Value.type "tuple", data := Data.seq #[Value.ref 41] }), (76, { cls := Value.type "tuple", data := Data.seq #[] }), (77, { cls := Value.type "dict", data := Data.dict #[{ hash := PyData.keyHash P (Str.ofString "__module__"), key := Value.str (Str.ofString "__module__") 272, val := Value.str (Str.ofString "boxpile.errors") 213 }, { hash := PyData.keyHash P (Str.ofString "__firstlineno__"), key := Value.str (Str.ofString "__firstlineno__") 276, val := Value.int 38 275 }, { hash := PyData.keyHash P (Str.ofString "__static_attributes__"), key := Value.str (Str.ofString "__static_attributes__") 277, val := Value.ref 76 }, { hash := PyData.keyHash P (Str.ofString "__doc__"), key := Value.str (Str.ofString "__doc__") 278, val := Value.none }] 2 }), (78, { cls := Value.type "type", data := Data.cls { name := Str.ofString "Full", bases := [Value.ref 41], mro := [Value.ref 78, Value.ref 41, Value.type "ValueError", Value.type "Exception", Value.type "BaseException", Value.type "object"], ns := 77, qualname := Str.ofString "Full" }, slots := #[.some (Value.ref 69), .none, .some (Value.str (Str.ofString "Full") 265), .some (Value.str (Str.ofString "Full") 273), .some (Value.builtin "ValueError.__new__"), .some (Value.bool true)] }), (81, { cls := Value.type "tuple", data := Data.seq #[Value.ref 41] }), (88, { cls := Value.type "tuple", data := Data.seq #[] }), (89, { cls := Value.type "dict", data := Data.dict #[{ hash := PyData.keyHash P (Str.ofString "__module__"), key := Value.str (Str.ofString "__module__") 288, val := Value.str (Str.ofString "boxpile.errors") 213 }, { hash := PyData.keyHash P (Str.ofString "__firstlineno__"), key := Value.str (Str.ofString "__firstlineno__") 292, val := Value.int 40 291 }, { hash := PyData.keyHash P (Str.ofString "__static_attributes__"), key := Value.str (Str.ofString "__static_attributes__") 293, val := Value.ref 88 }, { hash := PyData.keyHash P (Str.ofString "__doc__"), key := Value.str (Str.ofString "__doc__") 294, val := Value.none }] 2 }), (90, { cls := Value.type "type", data := Data.cls { name := Str.ofString "NoBox", bases := [Value.ref 41], mro := [Value.ref 90, Value.ref 41, Value.type "ValueError", Value.type "Exception", Value.type "BaseException", Value.type "object"], ns := 89, qualname := Str.ofString "NoBox" }, slots := #[.some (Value.ref 81), .none, .some (Value.str (Str.ofString "NoBox") 281), .some (Value.str (Str.ofString "NoBox") 289), .some (Value.builtin "ValueError.__new__"), .some (Value.bool true)] }), (93, { cls := Value.type "tuple", data := Data.seq #[Value.ref 41] }), (100, { cls := Value.type "tuple", data := Data.seq #[] })]
noncomputable def g3 (P : Params) : Frag := [(101, { cls := Value.type "dict", data := Data.dict #[{ hash := PyData.keyHash P (Str.ofString "__module__"), key := Value.str (Str.ofString "__module__") 304, val := Value.str (Str.ofString "boxpile.errors") 213 }, { hash := PyData.keyHash P (Str.ofString "__firstlineno__"), key := Value.str (Str.ofString "__firstlineno__") 308, val := Value.int 42 307 }, { hash := PyData.keyHash P (Str.ofString "__static_attributes__"), key := Value.str (Str.ofString "__static_attributes__") 309, val := Value.ref 100 }, { hash := PyData.keyHash P (Str.ofString "__doc__"), key := Value.str (Str.ofString "__doc__") 310, val := Value.none }] 2 }), (102, { cls := Value.type "type", data := Data.cls { name := Str.ofString "NoSlot", bases := [Value.ref 41], mro := [Value.ref 102, Value.ref 41, Value.type "ValueError", Value.type "Exception", Value.type "BaseException", Value.type "object"], ns := 101, qualname := Str.ofString "NoSlot" }, slots := #[.some (Value.ref 93), .none, .some (Value.str (Str.ofString "NoSlot") 297), .some (Value.str (Str.ofString "NoSlot") 305), .some (Value.builtin "ValueError.__new__"), .some (Value.bool true)] }), (112, { cls := Value.type "tuple", data := Data.seq #[] }), (115, { cls := Value.type "code", data := Data.fields #[Value.str (Str.ofString "__init__") 333, Value.str (Str.ofString "Pile.__init__") 334, Value.str (Str.ofString "/claim/cut.py") 335, Value.int 50 0, Value.int 1 0, Value.int 0 0, Value.int 0 0, Value.int 3 0, Value.ref 112, Value.bool true, Value.int 181 0, Value.ref 113, Value.none, Value.none, Value.none, Value.ref 114, Value.int 336 0, Value.int 50 0, Value.str (Str.ofString "/claim/cut.py") 337] }), (116, { cls := Value.type "function", data := Data.func { name := Str.ofString "__init__", qualname := Str.ofString "Pile.__init__", params := argsOf (meS 15 0), body := FuncBody.stmts (bodyOf (meS 15 0)), scope := scopeOf (meS 15 0), globals := 3, closure := [], defaults := Value.none, kwdefaults := Value.none, pyModule := Value.str (Str.ofString "boxpile.pile") 313, code := Value.ref 115 } }), (117, { cls := Value.type "tuple", data := Data.seq #[] }), (119, { cls := Value.type "tuple", data := Data.seq #[Value.str (Str.ofString "self") 342, Value.str (Str.ofString "hand") 343] }), (120, { cls := Value.type "tuple", data := Data.seq #[] }), (122, { cls := Value.type "code", data := Data.fields #[Value.str (Str.ofString "need_hand") 339, Value.str (Str.ofString "Pile.need_hand") 340, Value.str (Str.ofString "/claim/cut.py") 341, Value.int 57 0, Value.int 2 0, Value.int 0 0, Value.int 0 0, Value.int 3 0, Value.ref 117, Value.bool true, Value.int 181 0, Value.ref 118, Value.none, Value.ref 119, Value.ref 120, Value.ref 121, Value.int 344 0, Value.int 57 0, Value.str (Str.ofString "/claim/cut.py") 345] }), (123, { cls := Value.type "function", data := Data.func { name := Str.ofString "need_hand", qualname := Str.ofString "Pile.need_hand", params := argsOf (meS 15 1), body := FuncBody.stmts (bodyOf (meS 15 1)), scope := scopeOf (meS 15 1), globals := 3, closure := [], defaults := Value.none, kwdefaults := Value.none, pyModule := Value.str (Str.ofString "boxpile.pile") 313, code := Value.ref 122 } }), (124, { cls := Value.type "tuple", data := Data.seq #[] }), (126, { cls := Value.type "tuple", data := Data.seq #[Value.str (Str.ofString "self") 350, Value.str (Str.ofString "number") 351] })]
noncomputable def g4 (P : Params) : Frag := [(127, { cls := Value.type "tuple", data := Data.seq #[] }), (129, { cls := Value.type "code", data := Data.fields #[Value.str (Str.ofString "need_box") 347, Value.str (Str.ofString "Pile.need_box") 348, Value.str (Str.ofString "/claim/cut.py") 349, Value.int 61 0, Value.int 2 0, Value.int 0 0, Value.int 0 0, Value.int 3 0, Value.ref 124, Value.bool true, Value.int 181 0, Value.ref 125, Value.none, Value.ref 126, Value.ref 127, Value.ref 128, Value.int 352 0, Value.int 61 0, Value.str (Str.ofString "/claim/cut.py") 353] }), (130, { cls := Value.type "function", data := Data.func { name := Str.ofString "need_box", qualname := Str.ofString "Pile.need_box", params := argsOf (meS 15 2), body := FuncBody.stmts (bodyOf (meS 15 2)), scope := scopeOf (meS 15 2), globals := 3, closure := [], defaults := Value.none, kwdefaults := Value.none, pyModule := Value.str (Str.ofString "boxpile.pile") 313, code := Value.ref 129 } }), (131, { cls := Value.type "tuple", data := Data.seq #[] }), (133, { cls := Value.type "tuple", data := Data.seq #[Value.str (Str.ofString "self") 358, Value.str (Str.ofString "hand") 359, Value.str (Str.ofString "slot") 360, Value.str (Str.ofString "number") 361] }), (134, { cls := Value.type "tuple", data := Data.seq #[] }), (136, { cls := Value.type "code", data := Data.fields #[Value.str (Str.ofString "box_with_slot") 355, Value.str (Str.ofString "Pile.box_with_slot") 356, Value.str (Str.ofString "/claim/cut.py") 357, Value.int 65 0, Value.int 3 0, Value.int 0 0, Value.int 0 0, Value.int 3 0, Value.ref 131, Value.bool true, Value.int 181 0, Value.ref 132, Value.none, Value.ref 133, Value.ref 134, Value.ref 135, Value.int 362 0, Value.int 65 0, Value.str (Str.ofString "/claim/cut.py") 363] }), (137, { cls := Value.type "function", data := Data.func { name := Str.ofString "box_with_slot", qualname := Str.ofString "Pile.box_with_slot", params := argsOf (meS 15 3), body := FuncBody.stmts (bodyOf (meS 15 3)), scope := scopeOf (meS 15 3), globals := 3, closure := [], defaults := Value.none, kwdefaults := Value.none, pyModule := Value.str (Str.ofString "boxpile.pile") 313, code := Value.ref 136 } }), (138, { cls := Value.type "tuple", data := Data.seq #[] }), (140, { cls := Value.type "tuple", data := Data.seq #[Value.str (Str.ofString "self") 368, Value.str (Str.ofString "number") 369] }), (141, { cls := Value.type "tuple", data := Data.seq #[] }), (143, { cls := Value.type "code", data := Data.fields #[Value.str (Str.ofString "counted") 365, Value.str (Str.ofString "Pile.counted") 366, Value.str (Str.ofString "/claim/cut.py") 367, Value.int 73 0, Value.int 2 0, Value.int 0 0, Value.int 0 0, Value.int 3 0, Value.ref 138, Value.bool true, Value.int 181 0, Value.ref 139, Value.none, Value.ref 140, Value.ref 141, Value.ref 142, Value.int 370 0, Value.int 73 0, Value.str (Str.ofString "/claim/cut.py") 371] })]
noncomputable def g5 (P : Params) : Frag := [(144, { cls := Value.type "function", data := Data.func { name := Str.ofString "counted", qualname := Str.ofString "Pile.counted", params := argsOf (meS 15 4), body := FuncBody.stmts (bodyOf (meS 15 4)), scope := scopeOf (meS 15 4), globals := 3, closure := [], defaults := Value.none, kwdefaults := Value.none, pyModule := Value.str (Str.ofString "boxpile.pile") 313, code := Value.ref 143 } }), (145, { cls := Value.type "tuple", data := Data.seq #[] }), (147, { cls := Value.type "tuple", data := Data.seq #[Value.str (Str.ofString "self") 376, Value.str (Str.ofString "number") 377, Value.str (Str.ofString "freed") 378, Value.str (Str.ofString "at") 379, Value.str (Str.ofString "slots") 380, Value.str (Str.ofString "other") 381] }), (148, { cls := Value.type "tuple", data := Data.seq #[] }), (150, { cls := Value.type "code", data := Data.fields #[Value.str (Str.ofString "let_go") 373, Value.str (Str.ofString "Pile.let_go") 374, Value.str (Str.ofString "/claim/cut.py") 375, Value.int 77 0, Value.int 2 0, Value.int 0 0, Value.int 0 0, Value.int 3 0, Value.ref 145, Value.bool true, Value.int 181 0, Value.ref 146, Value.none, Value.ref 147, Value.ref 148, Value.ref 149, Value.int 382 0, Value.int 77 0, Value.str (Str.ofString "/claim/cut.py") 383] }), (151, { cls := Value.type "function", data := Data.func { name := Str.ofString "let_go", qualname := Str.ofString "Pile.let_go", params := argsOf (meS 15 5), body := FuncBody.stmts (bodyOf (meS 15 5)), scope := scopeOf (meS 15 5), globals := 3, closure := [], defaults := Value.none, kwdefaults := Value.none, pyModule := Value.str (Str.ofString "boxpile.pile") 313, code := Value.ref 150 } }), (152, { cls := Value.type "tuple", data := Data.seq #[] }), (154, { cls := Value.type "tuple", data := Data.seq #[Value.str (Str.ofString "self") 388, Value.str (Str.ofString "number") 389, Value.str (Str.ofString "freed") 390] }), (155, { cls := Value.type "tuple", data := Data.seq #[] }), (157, { cls := Value.type "code", data := Data.fields #[Value.str (Str.ofString "lighter") 385, Value.str (Str.ofString "Pile.lighter") 386, Value.str (Str.ofString "/claim/cut.py") 387, Value.int 88 0, Value.int 3 0, Value.int 0 0, Value.int 0 0, Value.int 3 0, Value.ref 152, Value.bool true, Value.int 181 0, Value.ref 153, Value.none, Value.ref 154, Value.ref 155, Value.ref 156, Value.int 391 0, Value.int 88 0, Value.str (Str.ofString "/claim/cut.py") 392] }), (158, { cls := Value.type "function", data := Data.func { name := Str.ofString "lighter", qualname := Str.ofString "Pile.lighter", params := argsOf (meS 15 6), body := FuncBody.stmts (bodyOf (meS 15 6)), scope := scopeOf (meS 15 6), globals := 3, closure := [], defaults := Value.none, kwdefaults := Value.none, pyModule := Value.str (Str.ofString "boxpile.pile") 313, code := Value.ref 157 } }), (159, { cls := Value.type "tuple", data := Data.seq #[] })]
noncomputable def g6 (P : Params) : Frag := [(161, { cls := Value.type "tuple", data := Data.seq #[Value.str (Str.ofString "self") 397, Value.str (Str.ofString "hand") 398, Value.str (Str.ofString "number") 399, Value.str (Str.ofString "old") 400] }), (162, { cls := Value.type "tuple", data := Data.seq #[] }), (164, { cls := Value.type "code", data := Data.fields #[Value.str (Str.ofString "handed") 394, Value.str (Str.ofString "Pile.handed") 395, Value.str (Str.ofString "/claim/cut.py") 396, Value.int 99 0, Value.int 3 0, Value.int 0 0, Value.int 0 0, Value.int 3 0, Value.ref 159, Value.bool true, Value.int 181 0, Value.ref 160, Value.none, Value.ref 161, Value.ref 162, Value.ref 163, Value.int 401 0, Value.int 99 0, Value.str (Str.ofString "/claim/cut.py") 402] }), (165, { cls := Value.type "function", data := Data.func { name := Str.ofString "handed", qualname := Str.ofString "Pile.handed", params := argsOf (meS 15 7), body := FuncBody.stmts (bodyOf (meS 15 7)), scope := scopeOf (meS 15 7), globals := 3, closure := [], defaults := Value.none, kwdefaults := Value.none, pyModule := Value.str (Str.ofString "boxpile.pile") 313, code := Value.ref 164 } }), (166, { cls := Value.type "tuple", data := Data.seq #[] }), (168, { cls := Value.type "tuple", data := Data.seq #[Value.str (Str.ofString "self") 407, Value.str (Str.ofString "box") 408, Value.str (Str.ofString "slot") 409, Value.str (Str.ofString "number") 410, Value.str (Str.ofString "old") 411] }), (169, { cls := Value.type "tuple", data := Data.seq #[] }), (171, { cls := Value.type "code", data := Data.fields #[Value.str (Str.ofString "pointed") 404, Value.str (Str.ofString "Pile.pointed") 405, Value.str (Str.ofString "/claim/cut.py") 406, Value.int 105 0, Value.int 4 0, Value.int 0 0, Value.int 0 0, Value.int 3 0, Value.ref 166, Value.bool true, Value.int 181 0, Value.ref 167, Value.none, Value.ref 168, Value.ref 169, Value.ref 170, Value.int 412 0, Value.int 105 0, Value.str (Str.ofString "/claim/cut.py") 413] }), (172, { cls := Value.type "function", data := Data.func { name := Str.ofString "pointed", qualname := Str.ofString "Pile.pointed", params := argsOf (meS 15 8), body := FuncBody.stmts (bodyOf (meS 15 8)), scope := scopeOf (meS 15 8), globals := 3, closure := [], defaults := Value.none, kwdefaults := Value.none, pyModule := Value.str (Str.ofString "boxpile.pile") 313, code := Value.ref 171 } }), (173, { cls := Value.type "tuple", data := Data.seq #[] }), (176, { cls := Value.type "code", data := Data.fields #[Value.str (Str.ofString "make") 415, Value.str (Str.ofString "Pile.make") 416, Value.str (Str.ofString "/claim/cut.py") 417, Value.int 111 0, Value.int 3 0, Value.int 0 0, Value.int 0 0, Value.int 3 0, Value.ref 173, Value.bool true, Value.int 181 0, Value.ref 174, Value.none, Value.none, Value.none, Value.ref 175, Value.int 418 0, Value.int 111 0, Value.str (Str.ofString "/claim/cut.py") 419] }), (177, { cls := Value.type "function", data := Data.func { name := Str.ofString "make", qualname := Str.ofString "Pile.make", params := argsOf (meS 15 9), body := FuncBody.stmts (bodyOf (meS 15 9)), scope := scopeOf (meS 15 9), globals := 3, closure := [], defaults := Value.none, kwdefaults := Value.none, pyModule := Value.str (Str.ofString "boxpile.pile") 313, code := Value.ref 176 } })]
noncomputable def g7 (P : Params) : Frag := [(178, { cls := Value.type "tuple", data := Data.seq #[] }), (180, { cls := Value.type "tuple", data := Data.seq #[Value.str (Str.ofString "self") 424, Value.str (Str.ofString "hand") 425, Value.str (Str.ofString "other") 426] }), (181, { cls := Value.type "tuple", data := Data.seq #[] }), (183, { cls := Value.type "code", data := Data.fields #[Value.str (Str.ofString "hold") 421, Value.str (Str.ofString "Pile.hold") 422, Value.str (Str.ofString "/claim/cut.py") 423, Value.int 123 0, Value.int 3 0, Value.int 0 0, Value.int 0 0, Value.int 3 0, Value.ref 178, Value.bool true, Value.int 181 0, Value.ref 179, Value.none, Value.ref 180, Value.ref 181, Value.ref 182, Value.int 427 0, Value.int 123 0, Value.str (Str.ofString "/claim/cut.py") 428] }), (184, { cls := Value.type "function", data := Data.func { name := Str.ofString "hold", qualname := Str.ofString "Pile.hold", params := argsOf (meS 15 10), body := FuncBody.stmts (bodyOf (meS 15 10)), scope := scopeOf (meS 15 10), globals := 3, closure := [], defaults := Value.none, kwdefaults := Value.none, pyModule := Value.str (Str.ofString "boxpile.pile") 313, code := Value.ref 183 } }), (185, { cls := Value.type "tuple", data := Data.seq #[] }), (187, { cls := Value.type "tuple", data := Data.seq #[Value.str (Str.ofString "self") 433, Value.str (Str.ofString "hand") 434] }), (188, { cls := Value.type "tuple", data := Data.seq #[] }), (190, { cls := Value.type "code", data := Data.fields #[Value.str (Str.ofString "drop") 430, Value.str (Str.ofString "Pile.drop") 431, Value.str (Str.ofString "/claim/cut.py") 432, Value.int 128 0, Value.int 2 0, Value.int 0 0, Value.int 0 0, Value.int 3 0, Value.ref 185, Value.bool true, Value.int 181 0, Value.ref 186, Value.none, Value.ref 187, Value.ref 188, Value.ref 189, Value.int 435 0, Value.int 128 0, Value.str (Str.ofString "/claim/cut.py") 436] }), (191, { cls := Value.type "function", data := Data.func { name := Str.ofString "drop", qualname := Str.ofString "Pile.drop", params := argsOf (meS 15 11), body := FuncBody.stmts (bodyOf (meS 15 11)), scope := scopeOf (meS 15 11), globals := 3, closure := [], defaults := Value.none, kwdefaults := Value.none, pyModule := Value.str (Str.ofString "boxpile.pile") 313, code := Value.ref 190 } }), (192, { cls := Value.type "tuple", data := Data.seq #[] }), (194, { cls := Value.type "tuple", data := Data.seq #[Value.str (Str.ofString "self") 441, Value.str (Str.ofString "hand") 442, Value.str (Str.ofString "slot") 443, Value.str (Str.ofString "other") 444, Value.str (Str.ofString "box") 445] })]
noncomputable def g8 (P : Params) : Frag := [(195, { cls := Value.type "tuple", data := Data.seq #[] }), (197, { cls := Value.type "code", data := Data.fields #[Value.str (Str.ofString "put") 438, Value.str (Str.ofString "Pile.put") 439, Value.str (Str.ofString "/claim/cut.py") 440, Value.int 132 0, Value.int 4 0, Value.int 0 0, Value.int 0 0, Value.int 3 0, Value.ref 192, Value.bool true, Value.int 181 0, Value.ref 193, Value.none, Value.ref 194, Value.ref 195, Value.ref 196, Value.int 446 0, Value.int 132 0, Value.str (Str.ofString "/claim/cut.py") 447] }), (198, { cls := Value.type "function", data := Data.func { name := Str.ofString "put", qualname := Str.ofString "Pile.put", params := argsOf (meS 15 12), body := FuncBody.stmts (bodyOf (meS 15 12)), scope := scopeOf (meS 15 12), globals := 3, closure := [], defaults := Value.none, kwdefaults := Value.none, pyModule := Value.str (Str.ofString "boxpile.pile") 313, code := Value.ref 197 } }), (199, { cls := Value.type "tuple", data := Data.seq #[] }), (201, { cls := Value.type "tuple", data := Data.seq #[Value.str (Str.ofString "self") 452, Value.str (Str.ofString "hand") 453, Value.str (Str.ofString "slot") 454, Value.str (Str.ofString "box") 455] }), (202, { cls := Value.type "tuple", data := Data.seq #[] }), (204, { cls := Value.type "code", data := Data.fields #[Value.str (Str.ofString "empty") 449, Value.str (Str.ofString "Pile.empty") 450, Value.str (Str.ofString "/claim/cut.py") 451, Value.int 138 0, Value.int 3 0, Value.int 0 0, Value.int 0 0, Value.int 3 0, Value.ref 199, Value.bool true, Value.int 181 0, Value.ref 200, Value.none, Value.ref 201, Value.ref 202, Value.ref 203, Value.int 456 0, Value.int 138 0, Value.str (Str.ofString "/claim/cut.py") 457] }), (205, { cls := Value.type "function", data := Data.func { name := Str.ofString "empty", qualname := Str.ofString "Pile.empty", params := argsOf (meS 15 13), body := FuncBody.stmts (bodyOf (meS 15 13)), scope := scopeOf (meS 15 13), globals := 3, closure := [], defaults := Value.none, kwdefaults := Value.none, pyModule := Value.str (Str.ofString "boxpile.pile") 313, code := Value.ref 204 } }), (206, { cls := Value.type "tuple", data := Data.seq #[] }), (208, { cls := Value.type "tuple", data := Data.seq #[Value.str (Str.ofString "self") 462, Value.str (Str.ofString "hand") 463, Value.str (Str.ofString "other") 464, Value.str (Str.ofString "slot") 465, Value.str (Str.ofString "box") 466] }), (209, { cls := Value.type "tuple", data := Data.seq #[] }), (211, { cls := Value.type "code", data := Data.fields #[Value.str (Str.ofString "take") 459, Value.str (Str.ofString "Pile.take") 460, Value.str (Str.ofString "/claim/cut.py") 461, Value.int 143 0, Value.int 4 0, Value.int 0 0, Value.int 0 0, Value.int 3 0, Value.ref 206, Value.bool true, Value.int 181 0, Value.ref 207, Value.none, Value.ref 208, Value.ref 209, Value.ref 210, Value.int 467 0, Value.int 143 0, Value.str (Str.ofString "/claim/cut.py") 468] })]
noncomputable def g9 (P : Params) : Frag := [(212, { cls := Value.type "function", data := Data.func { name := Str.ofString "take", qualname := Str.ofString "Pile.take", params := argsOf (meS 15 14), body := FuncBody.stmts (bodyOf (meS 15 14)), scope := scopeOf (meS 15 14), globals := 3, closure := [], defaults := Value.none, kwdefaults := Value.none, pyModule := Value.str (Str.ofString "boxpile.pile") 313, code := Value.ref 211 } }), (213, { cls := Value.type "tuple", data := Data.seq #[] }), (216, { cls := Value.type "code", data := Data.fields #[Value.str (Str.ofString "swept") 470, Value.str (Str.ofString "Pile.swept") 471, Value.str (Str.ofString "/claim/cut.py") 472, Value.int 149 0, Value.int 2 0, Value.int 0 0, Value.int 0 0, Value.int 3 0, Value.ref 213, Value.bool true, Value.int 181 0, Value.ref 214, Value.none, Value.none, Value.none, Value.ref 215, Value.int 473 0, Value.int 149 0, Value.str (Str.ofString "/claim/cut.py") 474] }), (217, { cls := Value.type "function", data := Data.func { name := Str.ofString "swept", qualname := Str.ofString "Pile.swept", params := argsOf (meS 15 15), body := FuncBody.stmts (bodyOf (meS 15 15)), scope := scopeOf (meS 15 15), globals := 3, closure := [], defaults := Value.none, kwdefaults := Value.none, pyModule := Value.str (Str.ofString "boxpile.pile") 313, code := Value.ref 216 } }), (218, { cls := Value.type "tuple", data := Data.seq #[] }), (220, { cls := Value.type "tuple", data := Data.seq #[Value.str (Str.ofString "self") 479, Value.str (Str.ofString "hand") 480] }), (221, { cls := Value.type "tuple", data := Data.seq #[] }), (223, { cls := Value.type "code", data := Data.fields #[Value.str (Str.ofString "holds") 476, Value.str (Str.ofString "Pile.holds") 477, Value.str (Str.ofString "/claim/cut.py") 478, Value.int 159 0, Value.int 2 0, Value.int 0 0, Value.int 0 0, Value.int 3 0, Value.ref 218, Value.bool true, Value.int 181 0, Value.ref 219, Value.none, Value.ref 220, Value.ref 221, Value.ref 222, Value.int 481 0, Value.int 159 0, Value.str (Str.ofString "/claim/cut.py") 482] }), (224, { cls := Value.type "function", data := Data.func { name := Str.ofString "holds", qualname := Str.ofString "Pile.holds", params := argsOf (meS 15 16), body := FuncBody.stmts (bodyOf (meS 15 16)), scope := scopeOf (meS 15 16), globals := 3, closure := [], defaults := Value.none, kwdefaults := Value.none, pyModule := Value.str (Str.ofString "boxpile.pile") 313, code := Value.ref 223 } }), (225, { cls := Value.type "tuple", data := Data.seq #[] }), (227, { cls := Value.type "tuple", data := Data.seq #[Value.str (Str.ofString "self") 487, Value.str (Str.ofString "number") 488] }), (228, { cls := Value.type "tuple", data := Data.seq #[] })]
noncomputable def g10 (P : Params) : Frag := [(230, { cls := Value.type "code", data := Data.fields #[Value.str (Str.ofString "points") 484, Value.str (Str.ofString "Pile.points") 485, Value.str (Str.ofString "/claim/cut.py") 486, Value.int 163 0, Value.int 2 0, Value.int 0 0, Value.int 0 0, Value.int 3 0, Value.ref 225, Value.bool true, Value.int 181 0, Value.ref 226, Value.none, Value.ref 227, Value.ref 228, Value.ref 229, Value.int 489 0, Value.int 163 0, Value.str (Str.ofString "/claim/cut.py") 490] }), (231, { cls := Value.type "function", data := Data.func { name := Str.ofString "points", qualname := Str.ofString "Pile.points", params := argsOf (meS 15 17), body := FuncBody.stmts (bodyOf (meS 15 17)), scope := scopeOf (meS 15 17), globals := 3, closure := [], defaults := Value.none, kwdefaults := Value.none, pyModule := Value.str (Str.ofString "boxpile.pile") 313, code := Value.ref 230 } }), (232, { cls := Value.type "tuple", data := Data.seq #[] }), (234, { cls := Value.type "tuple", data := Data.seq #[Value.str (Str.ofString "self") 495, Value.str (Str.ofString "number") 496] }), (235, { cls := Value.type "tuple", data := Data.seq #[] }), (237, { cls := Value.type "code", data := Data.fields #[Value.str (Str.ofString "weighs") 492, Value.str (Str.ofString "Pile.weighs") 493, Value.str (Str.ofString "/claim/cut.py") 494, Value.int 167 0, Value.int 2 0, Value.int 0 0, Value.int 0 0, Value.int 3 0, Value.ref 232, Value.bool true, Value.int 181 0, Value.ref 233, Value.none, Value.ref 234, Value.ref 235, Value.ref 236, Value.int 497 0, Value.int 167 0, Value.str (Str.ofString "/claim/cut.py") 498] }), (238, { cls := Value.type "function", data := Data.func { name := Str.ofString "weighs", qualname := Str.ofString "Pile.weighs", params := argsOf (meS 15 18), body := FuncBody.stmts (bodyOf (meS 15 18)), scope := scopeOf (meS 15 18), globals := 3, closure := [], defaults := Value.none, kwdefaults := Value.none, pyModule := Value.str (Str.ofString "boxpile.pile") 313, code := Value.ref 237 } }), (239, { cls := Value.type "tuple", data := Data.seq #[] }), (241, { cls := Value.type "tuple", data := Data.seq #[Value.str (Str.ofString "self") 503] }), (242, { cls := Value.type "tuple", data := Data.seq #[] }), (244, { cls := Value.type "code", data := Data.fields #[Value.str (Str.ofString "alive") 500, Value.str (Str.ofString "Pile.alive") 501, Value.str (Str.ofString "/claim/cut.py") 502, Value.int 171 0, Value.int 1 0, Value.int 0 0, Value.int 0 0, Value.int 3 0, Value.ref 239, Value.bool true, Value.int 181 0, Value.ref 240, Value.none, Value.ref 241, Value.ref 242, Value.ref 243, Value.int 504 0, Value.int 171 0, Value.str (Str.ofString "/claim/cut.py") 505] }), (245, { cls := Value.type "function", data := Data.func { name := Str.ofString "alive", qualname := Str.ofString "Pile.alive", params := argsOf (meS 15 19), body := FuncBody.stmts (bodyOf (meS 15 19)), scope := scopeOf (meS 15 19), globals := 3, closure := [], defaults := Value.none, kwdefaults := Value.none, pyModule := Value.str (Str.ofString "boxpile.pile") 313, code := Value.ref 244 } })]
noncomputable def g11 (P : Params) : Frag := [(246, { cls := Value.type "tuple", data := Data.seq #[] }), (248, { cls := Value.type "tuple", data := Data.seq #[Value.str (Str.ofString "self") 510] }), (249, { cls := Value.type "tuple", data := Data.seq #[] }), (251, { cls := Value.type "code", data := Data.fields #[Value.str (Str.ofString "suspects") 507, Value.str (Str.ofString "Pile.suspects") 508, Value.str (Str.ofString "/claim/cut.py") 509, Value.int 174 0, Value.int 1 0, Value.int 0 0, Value.int 0 0, Value.int 3 0, Value.ref 246, Value.bool true, Value.int 181 0, Value.ref 247, Value.none, Value.ref 248, Value.ref 249, Value.ref 250, Value.int 511 0, Value.int 174 0, Value.str (Str.ofString "/claim/cut.py") 512] }), (252, { cls := Value.type "function", data := Data.func { name := Str.ofString "suspects", qualname := Str.ofString "Pile.suspects", params := argsOf (meS 15 20), body := FuncBody.stmts (bodyOf (meS 15 20)), scope := scopeOf (meS 15 20), globals := 3, closure := [], defaults := Value.none, kwdefaults := Value.none, pyModule := Value.str (Str.ofString "boxpile.pile") 313, code := Value.ref 251 } }), (253, { cls := Value.type "tuple", data := Data.seq #[Value.str (Str.ofString "boxes") 514, Value.str (Str.ofString "doubted") 515, Value.str (Str.ofString "in_hands") 516, Value.str (Str.ofString "made") 517, Value.str (Str.ofString "weights") 518] }), (254, { cls := Value.type "dict", data := Data.dict #[{ hash := PyData.keyHash P (Str.ofString "__module__"), key := Value.str (Str.ofString "__module__") 328, val := Value.str (Str.ofString "boxpile.pile") 313 }, { hash := PyData.keyHash P (Str.ofString "__firstlineno__"), key := Value.str (Str.ofString "__firstlineno__") 332, val := Value.int 48 331 }, { hash := PyData.keyHash P (Str.ofString "__init__"), key := Value.str (Str.ofString "__init__") 338, val := Value.ref 116 }, { hash := PyData.keyHash P (Str.ofString "need_hand"), key := Value.str (Str.ofString "need_hand") 346, val := Value.ref 123 }, { hash := PyData.keyHash P (Str.ofString "need_box"), key := Value.str (Str.ofString "need_box") 354, val := Value.ref 130 }, { hash := PyData.keyHash P (Str.ofString "box_with_slot"), key := Value.str (Str.ofString "box_with_slot") 364, val := Value.ref 137 }, { hash := PyData.keyHash P (Str.ofString "counted"), key := Value.str (Str.ofString "counted") 372, val := Value.ref 144 }, { hash := PyData.keyHash P (Str.ofString "let_go"), key := Value.str (Str.ofString "let_go") 384, val := Value.ref 151 }, { hash := PyData.keyHash P (Str.ofString "lighter"), key := Value.str (Str.ofString "lighter") 393, val := Value.ref 158 }, { hash := PyData.keyHash P (Str.ofString "handed"), key := Value.str (Str.ofString "handed") 403, val := Value.ref 165 }, { hash := PyData.keyHash P (Str.ofString "pointed"), key := Value.str (Str.ofString "pointed") 414, val := Value.ref 172 }, { hash := PyData.keyHash P (Str.ofString "make"), key := Value.str (Str.ofString "make") 420, val := Value.ref 177 }, { hash := PyData.keyHash P (Str.ofString "hold"), key := Value.str (Str.ofString "hold") 429, val := Value.ref 184 }, { hash := PyData.keyHash P (Str.ofString "drop"), key := Value.str (Str.ofString "drop") 437, val := Value.ref 191 }, { hash := PyData.keyHash P (Str.ofString "put"), key := Value.str (Str.ofString "put") 448, val := Value.ref 198 }, { hash := PyData.keyHash P (Str.ofString "empty"), key := Value.str (Str.ofString "empty") 458, val := Value.ref 205 }, { hash := PyData.keyHash P (Str.ofString "take"), key := Value.str (Str.ofString "take") 469, val := Value.ref 212 }, { hash := PyData.keyHash P (Str.ofString "swept"), key := Value.str (Str.ofString "swept") 475, val := Value.ref 217 }, { hash := PyData.keyHash P (Str.ofString "holds"), key := Value.str (Str.ofString "holds") 483, val := Value.ref 224 }, { hash := PyData.keyHash P (Str.ofString "points"), key := Value.str (Str.ofString "points") 491, val := Value.ref 231 }, { hash := PyData.keyHash P (Str.ofString "weighs"), key := Value.str (Str.ofString "weighs") 499, val := Value.ref 238 }, { hash := PyData.keyHash P (Str.ofString "alive"), key := Value.str (Str.ofString "alive") 506, val := Value.ref 245 }, { hash := PyData.keyHash P (Str.ofString "suspects"), key := Value.str (Str.ofString "suspects") 513, val := Value.ref 252 }, { hash := PyData.keyHash P (Str.ofString "__static_attributes__"), key := Value.str (Str.ofString "__static_attributes__") 519, val := Value.ref 253 }, { hash := PyData.keyHash P (Str.ofString "__dict__"), key := Value.str (Str.ofString "__dict__") 521, val := Value.ref 256 }, { hash := PyData.keyHash P (Str.ofString "__weakref__"), key := Value.str (Str.ofString "__weakref__") 523, val := Value.ref 257 }, { hash := PyData.keyHash P (Str.ofString "__doc__"), key := Value.str (Str.ofString "__doc__") 524, val := Value.none }] 4 }), (255, { cls := Value.type "type", data := Data.cls { name := Str.ofString "Pile", bases := [Value.type "object"], mro := [Value.ref 255, Value.type "object"], ns := 254, qualname := Str.ofString "Pile" }, slots := #[.none, .none, .some (Value.str (Str.ofString "Pile") 321), .some (Value.str (Str.ofString "Pile") 329), .some (Value.builtin "object.__new__"), .some (Value.bool true)] }), (256, { cls := Value.type "getset_descriptor", data := Data.fields #[Value.str (Str.ofString "__dict__") 520, Value.ref 255, Value.builtin "function.__dict__", Value.builtin "function.__dict__#set"] }), (257, { cls := Value.type "getset_descriptor", data := Data.fields #[Value.str (Str.ofString "__weakref__") 522, Value.ref 255, Value.builtin "ExceptionGroup.__weakref__", Value.none] }), (260, { cls := Value.type "tuple", data := Data.seq #[] }), (262, { cls := Value.type "tuple", data := Data.seq #[Value.str (Str.ofString "pile") 532, Value.str (Str.ofString "deed") 533, Value.str (Str.ofString "word") 534] })]
noncomputable def g12 (P : Params) : Frag := [(263, { cls := Value.type "tuple", data := Data.seq #[] }), (265, { cls := Value.type "code", data := Data.fields #[Value.str (Str.ofString "done") 529, Value.str (Str.ofString "done") 530, Value.str (Str.ofString "/claim/cut.py") 531, Value.int 177 0, Value.int 2 0, Value.int 0 0, Value.int 0 0, Value.int 3 0, Value.ref 260, Value.bool true, Value.int 181 0, Value.ref 261, Value.none, Value.ref 262, Value.ref 263, Value.ref 264, Value.int 535 0, Value.int 177 0, Value.str (Str.ofString "/claim/cut.py") 536] }), (266, { cls := Value.type "function", data := Data.func { name := Str.ofString "done", qualname := Str.ofString "done", params := argsOf (topS 17), body := FuncBody.stmts (bodyOf (topS 17)), scope := scopeOf (topS 17), globals := 3, closure := [], defaults := Value.none, kwdefaults := Value.none, pyModule := Value.str (Str.ofString "boxpile.notes") 527, code := Value.ref 265 } }), (267, { cls := Value.type "tuple", data := Data.seq #[] }), (270, { cls := Value.type "code", data := Data.fields #[Value.str (Str.ofString "come_to") 540, Value.str (Str.ofString "come_to") 541, Value.str (Str.ofString "/claim/cut.py") 542, Value.int 193 0, Value.int 1 0, Value.int 0 0, Value.int 0 0, Value.int 3 0, Value.ref 267, Value.bool true, Value.int 181 0, Value.ref 268, Value.none, Value.none, Value.none, Value.ref 269, Value.int 543 0, Value.int 193 0, Value.str (Str.ofString "/claim/cut.py") 544] }), (271, { cls := Value.type "function", data := Data.func { name := Str.ofString "come_to", qualname := Str.ofString "come_to", params := argsOf (topS 19), body := FuncBody.stmts (bodyOf (topS 19)), scope := scopeOf (topS 19), globals := 3, closure := [], defaults := Value.none, kwdefaults := Value.none, pyModule := Value.str (Str.ofString "boxpile.ways") 538, code := Value.ref 270 } }), (272, { cls := Value.type "tuple", data := Data.seq #[] }), (274, { cls := Value.type "tuple", data := Data.seq #[Value.str (Str.ofString "_law_found") 551] }), (275, { cls := Value.type "tuple", data := Data.seq #[] }), (277, { cls := Value.type "code", data := Data.fields #[Value.str (Str.ofString "_law_whole") 548, Value.str (Str.ofString "_law_whole") 549, Value.str (Str.ofString "/claim/cut.py") 550, Value.int 197 0, Value.int 1 0, Value.int 0 0, Value.int 0 0, Value.int 3 0, Value.ref 272, Value.bool true, Value.int 181 0, Value.ref 273, Value.none, Value.ref 274, Value.ref 275, Value.ref 276, Value.int 552 0, Value.int 197 0, Value.str (Str.ofString "/claim/cut.py") 553] }), (278, { cls := Value.type "function", data := Data.func { name := Str.ofString "_law_whole", qualname := Str.ofString "_law_whole", params := argsOf (topS 21), body := FuncBody.stmts (bodyOf (topS 21)), scope := scopeOf (topS 21), globals := 3, closure := [], defaults := Value.none, kwdefaults := Value.none, pyModule := Value.str (Str.ofString "law_uf040002_09") 546, code := Value.ref 277 } }), (279, { cls := Value.type "tuple", data := Data.seq #[] })]
noncomputable def g13 (P : Params) : Frag := [(281, { cls := Value.type "tuple", data := Data.seq #[Value.str (Str.ofString "_law_script") 558, Value.str (Str.ofString "_law_k") 559] }), (282, { cls := Value.type "tuple", data := Data.seq #[] }), (284, { cls := Value.type "code", data := Data.fields #[Value.str (Str.ofString "_law_cell_at") 555, Value.str (Str.ofString "_law_cell_at") 556, Value.str (Str.ofString "/claim/cut.py") 557, Value.int 199 0, Value.int 2 0, Value.int 0 0, Value.int 0 0, Value.int 3 0, Value.ref 279, Value.bool true, Value.int 181 0, Value.ref 280, Value.none, Value.ref 281, Value.ref 282, Value.ref 283, Value.int 560 0, Value.int 199 0, Value.str (Str.ofString "/claim/cut.py") 561] }), (285, { cls := Value.type "function", data := Data.func { name := Str.ofString "_law_cell_at", qualname := Str.ofString "_law_cell_at", params := argsOf (topS 22), body := FuncBody.stmts (bodyOf (topS 22)), scope := scopeOf (topS 22), globals := 3, closure := [], defaults := Value.none, kwdefaults := Value.none, pyModule := Value.str (Str.ofString "law_uf040002_09") 546, code := Value.ref 284 } }), (286, { cls := Value.type "tuple", data := Data.seq #[] }), (288, { cls := Value.type "tuple", data := Data.seq #[Value.str (Str.ofString "_law_found") 566, Value.str (Str.ofString "_law_due") 567, Value.str (Str.ofString "_law_k") 568] }), (289, { cls := Value.type "tuple", data := Data.seq #[] }), (291, { cls := Value.type "code", data := Data.fields #[Value.str (Str.ofString "_law_numbers") 563, Value.str (Str.ofString "_law_numbers") 564, Value.str (Str.ofString "/claim/cut.py") 565, Value.int 203 0, Value.int 2 0, Value.int 0 0, Value.int 0 0, Value.int 3 0, Value.ref 286, Value.bool true, Value.int 181 0, Value.ref 287, Value.none, Value.ref 288, Value.ref 289, Value.ref 290, Value.int 569 0, Value.int 203 0, Value.str (Str.ofString "/claim/cut.py") 570] }), (292, { cls := Value.type "function", data := Data.func { name := Str.ofString "_law_numbers", qualname := Str.ofString "_law_numbers", params := argsOf (topS 23), body := FuncBody.stmts (bodyOf (topS 23)), scope := scopeOf (topS 23), globals := 3, closure := [], defaults := Value.none, kwdefaults := Value.none, pyModule := Value.str (Str.ofString "law_uf040002_09") 546, code := Value.ref 291 } }), (293, { cls := Value.type "tuple", data := Data.seq #[] }), (295, { cls := Value.type "tuple", data := Data.seq #[Value.str (Str.ofString "_law_one") 575, Value.str (Str.ofString "_law_two") 576, Value.str (Str.ofString "_law_few") 577, Value.str (Str.ofString "_law_words") 578, Value.str (Str.ofString "_law_word") 579, Value.str (Str.ofString "_law_hand") 580, Value.str (Str.ofString "_law_other") 581, Value.str (Str.ofString "_law_size") 582, Value.str (Str.ofString "_law_slot") 583] }), (296, { cls := Value.type "tuple", data := Data.seq #[] })]
noncomputable def g14 (P : Params) : Frag := [(298, { cls := Value.type "code", data := Data.fields #[Value.str (Str.ofString "_law_deed_by") 572, Value.str (Str.ofString "_law_deed_by") 573, Value.str (Str.ofString "/claim/cut.py") 574, Value.int 213 0, Value.int 3 0, Value.int 0 0, Value.int 0 0, Value.int 3 0, Value.ref 293, Value.bool true, Value.int 181 0, Value.ref 294, Value.none, Value.ref 295, Value.ref 296, Value.ref 297, Value.int 584 0, Value.int 213 0, Value.str (Str.ofString "/claim/cut.py") 585] }), (299, { cls := Value.type "function", data := Data.func { name := Str.ofString "_law_deed_by", qualname := Str.ofString "_law_deed_by", params := argsOf (topS 24), body := FuncBody.stmts (bodyOf (topS 24)), scope := scopeOf (topS 24), globals := 3, closure := [], defaults := Value.none, kwdefaults := Value.none, pyModule := Value.str (Str.ofString "law_uf040002_09") 546, code := Value.ref 298 } }), (300, { cls := Value.type "tuple", data := Data.seq #[] }), (302, { cls := Value.type "tuple", data := Data.seq #[Value.str (Str.ofString "_law_pile") 590, Value.str (Str.ofString "_law_deed") 591] }), (303, { cls := Value.type "tuple", data := Data.seq #[] }), (305, { cls := Value.type "code", data := Data.fields #[Value.str (Str.ofString "_law_done") 587, Value.str (Str.ofString "_law_done") 588, Value.str (Str.ofString "/claim/cut.py") 589, Value.int 233 0, Value.int 2 0, Value.int 0 0, Value.int 0 0, Value.int 3 0, Value.ref 300, Value.bool true, Value.int 181 0, Value.ref 301, Value.none, Value.ref 302, Value.ref 303, Value.ref 304, Value.int 592 0, Value.int 233 0, Value.str (Str.ofString "/claim/cut.py") 593] }), (306, { cls := Value.type "function", data := Data.func { name := Str.ofString "_law_done", qualname := Str.ofString "_law_done", params := argsOf (topS 25), body := FuncBody.stmts (bodyOf (topS 25)), scope := scopeOf (topS 25), globals := 3, closure := [], defaults := Value.none, kwdefaults := Value.none, pyModule := Value.str (Str.ofString "law_uf040002_09") 546, code := Value.ref 305 } }), (307, { cls := Value.type "tuple", data := Data.seq #[] }), (309, { cls := Value.type "tuple", data := Data.seq #[Value.str (Str.ofString "_law_pile") 598, Value.str (Str.ofString "_law_many") 599, Value.str (Str.ofString "_law_closed") 600, Value.str (Str.ofString "_law_k") 601] }), (310, { cls := Value.type "tuple", data := Data.seq #[] }), (312, { cls := Value.type "code", data := Data.fields #[Value.str (Str.ofString "_law_ring") 595, Value.str (Str.ofString "_law_ring") 596, Value.str (Str.ofString "/claim/cut.py") 597, Value.int 238 0, Value.int 3 0, Value.int 0 0, Value.int 0 0, Value.int 3 0, Value.ref 307, Value.bool true, Value.int 181 0, Value.ref 308, Value.none, Value.ref 309, Value.ref 310, Value.ref 311, Value.int 602 0, Value.int 238 0, Value.str (Str.ofString "/claim/cut.py") 603] }), (313, { cls := Value.type "function", data := Data.func { name := Str.ofString "_law_ring", qualname := Str.ofString "_law_ring", params := argsOf (topS 26), body := FuncBody.stmts (bodyOf (topS 26)), scope := scopeOf (topS 26), globals := 3, closure := [], defaults := Value.none, kwdefaults := Value.none, pyModule := Value.str (Str.ofString "law_uf040002_09") 546, code := Value.ref 312 } })]
noncomputable def g15 (P : Params) : Frag := [(314, { cls := Value.type "tuple", data := Data.seq #[] }), (316, { cls := Value.type "tuple", data := Data.seq #[Value.str (Str.ofString "_law_pile") 608, Value.str (Str.ofString "_law_many") 609, Value.str (Str.ofString "_law_closed") 610, Value.str (Str.ofString "_law_k") 611, Value.str (Str.ofString "_law_slot") 612] }), (317, { cls := Value.type "tuple", data := Data.seq #[] }), (319, { cls := Value.type "code", data := Data.fields #[Value.str (Str.ofString "_law_star") 605, Value.str (Str.ofString "_law_star") 606, Value.str (Str.ofString "/claim/cut.py") 607, Value.int 255 0, Value.int 3 0, Value.int 0 0, Value.int 0 0, Value.int 3 0, Value.ref 314, Value.bool true, Value.int 181 0, Value.ref 315, Value.none, Value.ref 316, Value.ref 317, Value.ref 318, Value.int 613 0, Value.int 255 0, Value.str (Str.ofString "/claim/cut.py") 614] }), (320, { cls := Value.type "function", data := Data.func { name := Str.ofString "_law_star", qualname := Str.ofString "_law_star", params := argsOf (topS 27), body := FuncBody.stmts (bodyOf (topS 27)), scope := scopeOf (topS 27), globals := 3, closure := [], defaults := Value.none, kwdefaults := Value.none, pyModule := Value.str (Str.ofString "law_uf040002_09") 546, code := Value.ref 319 } }), (321, { cls := Value.type "tuple", data := Data.seq #[] }), (323, { cls := Value.type "tuple", data := Data.seq #[Value.str (Str.ofString "_law_pile") 619, Value.str (Str.ofString "_law_script") 620, Value.str (Str.ofString "_law_first") 621] }), (324, { cls := Value.type "tuple", data := Data.seq #[] }), (326, { cls := Value.type "code", data := Data.fields #[Value.str (Str.ofString "_law_begun") 616, Value.str (Str.ofString "_law_begun") 617, Value.str (Str.ofString "/claim/cut.py") 618, Value.int 270 0, Value.int 2 0, Value.int 0 0, Value.int 0 0, Value.int 3 0, Value.ref 321, Value.bool true, Value.int 181 0, Value.ref 322, Value.none, Value.ref 323, Value.ref 324, Value.ref 325, Value.int 622 0, Value.int 270 0, Value.str (Str.ofString "/claim/cut.py") 623] }), (327, { cls := Value.type "function", data := Data.func { name := Str.ofString "_law_begun", qualname := Str.ofString "_law_begun", params := argsOf (topS 28), body := FuncBody.stmts (bodyOf (topS 28)), scope := scopeOf (topS 28), globals := 3, closure := [], defaults := Value.none, kwdefaults := Value.none, pyModule := Value.str (Str.ofString "law_uf040002_09") 546, code := Value.ref 326 } }), (328, { cls := Value.type "tuple", data := Data.seq #[] }), (330, { cls := Value.type "tuple", data := Data.seq #[Value.str (Str.ofString "_law_pile") 628, Value.str (Str.ofString "_law_numbers_here") 629, Value.str (Str.ofString "_law_row") 630, Value.str (Str.ofString "_law_met") 631, Value.str (Str.ofString "_law_number") 632, Value.str (Str.ofString "_law_at") 633, Value.str (Str.ofString "_law_room") 634, Value.str (Str.ofString "_law_other") 635] })]
noncomputable def g16 (P : Params) : Frag := [(331, { cls := Value.type "tuple", data := Data.seq #[] }), (333, { cls := Value.type "code", data := Data.fields #[Value.str (Str.ofString "_law_closure") 625, Value.str (Str.ofString "_law_closure") 626, Value.str (Str.ofString "/claim/cut.py") 627, Value.int 277 0, Value.int 2 0, Value.int 0 0, Value.int 0 0, Value.int 3 0, Value.ref 328, Value.bool true, Value.int 181 0, Value.ref 329, Value.none, Value.ref 330, Value.ref 331, Value.ref 332, Value.int 636 0, Value.int 277 0, Value.str (Str.ofString "/claim/cut.py") 637] }), (334, { cls := Value.type "function", data := Data.func { name := Str.ofString "_law_closure", qualname := Str.ofString "_law_closure", params := argsOf (topS 29), body := FuncBody.stmts (bodyOf (topS 29)), scope := scopeOf (topS 29), globals := 3, closure := [], defaults := Value.none, kwdefaults := Value.none, pyModule := Value.str (Str.ofString "law_uf040002_09") 546, code := Value.ref 333 } }), (335, { cls := Value.type "tuple", data := Data.seq #[] }), (338, { cls := Value.type "code", data := Data.fields #[Value.str (Str.ofString "_law_pairs_due") 639, Value.str (Str.ofString "_law_pairs_due") 640, Value.str (Str.ofString "/claim/cut.py") 641, Value.int 293 0, Value.int 1 0, Value.int 0 0, Value.int 0 0, Value.int 3 0, Value.ref 335, Value.bool true, Value.int 181 0, Value.ref 336, Value.none, Value.none, Value.none, Value.ref 337, Value.int 642 0, Value.int 293 0, Value.str (Str.ofString "/claim/cut.py") 643] }), (339, { cls := Value.type "function", data := Data.func { name := Str.ofString "_law_pairs_due", qualname := Str.ofString "_law_pairs_due", params := argsOf (topS 30), body := FuncBody.stmts (bodyOf (topS 30)), scope := scopeOf (topS 30), globals := 3, closure := [], defaults := Value.none, kwdefaults := Value.none, pyModule := Value.str (Str.ofString "law_uf040002_09") 546, code := Value.ref 338 } }), (340, { cls := Value.type "tuple", data := Data.seq #[] }), (342, { cls := Value.type "tuple", data := Data.seq #[Value.str (Str.ofString "_law_found") 648, Value.str (Str.ofString "_law_due") 649, Value.str (Str.ofString "_law_k") 650] }), (343, { cls := Value.type "tuple", data := Data.seq #[] }), (345, { cls := Value.type "code", data := Data.fields #[Value.str (Str.ofString "_law_pairs") 645, Value.str (Str.ofString "_law_pairs") 646, Value.str (Str.ofString "/claim/cut.py") 647, Value.int 303 0, Value.int 2 0, Value.int 0 0, Value.int 0 0, Value.int 3 0, Value.ref 340, Value.bool true, Value.int 181 0, Value.ref 341, Value.none, Value.ref 342, Value.ref 343, Value.ref 344, Value.int 651 0, Value.int 303 0, Value.str (Str.ofString "/claim/cut.py") 652] }), (346, { cls := Value.type "function", data := Data.func { name := Str.ofString "_law_pairs", qualname := Str.ofString "_law_pairs", params := argsOf (topS 31), body := FuncBody.stmts (bodyOf (topS 31)), scope := scopeOf (topS 31), globals := 3, closure := [], defaults := Value.none, kwdefaults := Value.none, pyModule := Value.str (Str.ofString "law_uf040002_09") 546, code := Value.ref 345 } }), (347, { cls := Value.type "tuple", data := Data.seq #[] })]
noncomputable def g17 (P : Params) : Frag := [(350, { cls := Value.type "code", data := Data.fields #[Value.str (Str.ofString "_law_good") 654, Value.str (Str.ofString "_law_good") 655, Value.str (Str.ofString "/claim/cut.py") 656, Value.int 310 0, Value.int 2 0, Value.int 0 0, Value.int 0 0, Value.int 3 0, Value.ref 347, Value.bool true, Value.int 181 0, Value.ref 348, Value.none, Value.none, Value.none, Value.ref 349, Value.int 657 0, Value.int 310 0, Value.str (Str.ofString "/claim/cut.py") 658] }), (351, { cls := Value.type "function", data := Data.func { name := Str.ofString "_law_good", qualname := Str.ofString "_law_good", params := argsOf (topS 32), body := FuncBody.stmts (bodyOf (topS 32)), scope := scopeOf (topS 32), globals := 3, closure := [], defaults := Value.none, kwdefaults := Value.none, pyModule := Value.str (Str.ofString "law_uf040002_09") 546, code := Value.ref 350 } }), (352, { cls := Value.type "tuple", data := Data.seq #[] }), (355, { cls := Value.type "code", data := Data.fields #[Value.str (Str.ofString "law") 660, Value.str (Str.ofString "law") 661, Value.str (Str.ofString "/claim/cut.py") 662, Value.int 334 0, Value.int 1 0, Value.int 0 0, Value.int 0 0, Value.int 3 0, Value.ref 352, Value.bool true, Value.int 181 0, Value.ref 353, Value.none, Value.none, Value.none, Value.ref 354, Value.int 663 0, Value.int 334 0, Value.str (Str.ofString "/claim/cut.py") 664] }), (356, { cls := Value.type "function", data := Data.func { name := Str.ofString "law", qualname := Str.ofString "law", params := argsOf (topS 33), body := FuncBody.stmts (bodyOf (topS 33)), scope := scopeOf (topS 33), globals := 3, closure := [], defaults := Value.none, kwdefaults := Value.none, pyModule := Value.str (Str.ofString "law_uf040002_09") 546, code := Value.ref 355 } })]
noncomputable def K (P : Params) : Frag := g0 P ++ (g1 P ++ (g2 P ++ (g3 P ++ (g4 P ++ (g5 P ++ (g6 P ++ (g7 P ++ (g8 P ++ (g9 P ++ (g10 P ++ (g11 P ++ (g12 P ++ (g13 P ++ (g14 P ++ (g15 P ++ (g16 P ++ (g17 P)))))))))))))))))
noncomputable def as : List Addr := [2, 3, 15, 17, 18, 20, 21, 22, 25, 26, 27, 30, 31, 32, 39, 40, 41, 42, 45, 52, 53, 54, 57, 64, 65, 66, 69, 76, 77, 78, 81, 88, 89, 90, 93, 100, 101, 102, 112, 115, 116, 117, 119, 120, 122, 123, 124, 126, 127, 129, 130, 131, 133, 134, 136, 137, 138, 140, 141, 143, 144, 145, 147, 148, 150, 151, 152, 154, 155, 157, 158, 159, 161, 162, 164, 165, 166, 168, 169, 171, 172, 173, 176, 177, 178, 180, 181, 183, 184, 185, 187, 188, 190, 191, 192, 194, 195, 197, 198, 199, 201, 202, 204, 205, 206, 208, 209, 211, 212, 213, 216, 217, 218, 220, 221, 223, 224, 225, 227, 228, 230, 231, 232, 234, 235, 237, 238, 239, 241, 242, 244, 245, 246, 248, 249, 251, 252, 253, 254, 255, 256, 257, 260, 262, 263, 265, 266, 267, 270, 271, 272, 274, 275, 277, 278, 279, 281, 282, 284, 285, 286, 288, 289, 291, 292, 293, 295, 296, 298, 299, 300, 302, 303, 305, 306, 307, 309, 310, 312, 313, 314, 316, 317, 319, 320, 321, 323, 324, 326, 327, 328, 330, 331, 333, 334, 335, 338, 339, 340, 342, 343, 345, 346, 347, 350, 351, 352, 355, 356]
end Mine.Internal.K09
set_option maxRecDepth 100000
set_option maxHeartbeats 8000000
namespace Mine.Internal.K09
open PySem PySem.W PyProof.Rows
noncomputable def q : Program := { PySem.Challenge.pw_uf040002_09 with main := { PySem.Challenge.pw_uf040002_09.main with body := ([1,2,3,5,6,7,8,9,10,12,13,14,15,17,19,21,22,23,24,25,26,27,28,29,30,31,32,33] : List Nat).map topS } }
noncomputable def Hk : Hook := kHook K as (fun _ => by kernel_rfl)
theorem HL : LeftO PySem.Challenge.pw_uf040002_09 q [] (fun s => xlAt q [] s && recOk (RowW.records (PySem.Challenge.rw_uf040002_09.row.toRowW)) s) (Hook.obs Hk) (Hook.val Hk) 6000 := by
 intro w
 kernel_rfl
theorem WS : PySem.Challenge.rw_uf040002_09.wellSaid = true := by kernel_rfl
end Mine.Internal.K09
namespace Mine.Internal
open PySem (Str PyData)
inductive V where
 | none
 | bool (b : Bool)
 | int (i : Int)
 | str (s : Str)
 | ref (a : Nat)
 deriving DecidableEq
inductive O where
 | list (xs : List V)
 | tup (xs : List V)
 | dict (es : List (V × V))
 | inst (c : Nat) (d : Nat)
 | attrs (es : List (Nat × V))
 | rng (a b c : Int)
 | lck (es : List (V × V))
 deriving DecidableEq
noncomputable abbrev H := List O
noncomputable def H.get (h : H) (a : Nat) : Option O := h[a]?
noncomputable def H.put (h : H) (a : Nat) (o : O) : H := h.set a o
noncomputable def H.push (h : H) (o : O) : H := h ++ [o]
inductive R (α : Type) where
 | ok (a : α)
 | err (c : Nat)
noncomputable abbrev X (α : Type) := H → Option (R α × H)
noncomputable def X.pure {α : Type} (a : α) : X α := fun h => some (.ok a, h)
noncomputable def X.bind {α β : Type} (m : X α) (f : α → X β) : X β := fun h =>
 match m h with
 | some (.ok a, h') => f a h'
 | some (.err c, h') => some (.err c, h')
 | none => none
noncomputable def X.none {α : Type} : X α := fun _ => Option.none
noncomputable def X.lift {α : Type} (o : Option α) : X α := fun h => match o with | some a => some (.ok a, h) | Option.none => Option.none
noncomputable abbrev Loc := Nat → Option V
noncomputable def Loc.upd (l : Loc) (i : Nat) (v : V) : Loc := fun j => bif j == i then some v else l j
inductive Bi where
 | len | sorted | list | range | min
 deriving DecidableEq
set_option genInjectivity false in
set_option genCtorIdx false in
mutual
inductive Ex where
 | cnone
 | cbool (b : Bool)
 | cint (i : Int)
 | cstr (s : Str)
 | loc (i : Nat)
 | glo (i : Nat)
 | bin (op : PySem.Operator) (a b : Ex)
 | not (a : Ex)
 | band (es : Exs)
 | bor (es : Exs)
 | cmp (op : PySem.CmpOp) (a b : Ex)
 | cmp2 (o1 o2 : PySem.CmpOp) (a b c : Ex)
 | list (es : Exs)
 | tup (es : Exs)
 | dict (ks vs : Exs)
 | attr (a : Ex) (n : Nat)
 | sub (a i : Ex)
 | slice (a lo hi : Ex)
 | call (f : Nat) (args : Exs)
 | new (c : Nat)
 | meth (o : Ex) (n : Nat) (args : Exs)
 | bi (b : Bi) (args : Exs)
 | isi (a : Ex) (cs : List Nat)
 | comp (elt : Ex) (tg : List Nat) (tup : Bool) (it : Ex) (conds : Exs)
inductive Exs where
 | nil
 | cons (e : Ex) (es : Exs)
end
set_option genInjectivity false in
inductive Tg where
 | var (i : Nat)
 | attr (o : Ex) (n : Nat)
 | sub (o i : Ex)
set_option genInjectivity false in
set_option genCtorIdx false in
mutual
inductive St where
 | expr (e : Ex)
 | asg (t : Tg) (e : Ex)
 | ite (c : Ex) (a b : Sts)
 | whl (c : Ex) (b : Sts)
 | ford (i : Nat) (e : Ex) (b : Sts)
 | for (tg : List Nat) (tup : Bool) (e : Ex) (b : Sts)
 | ret (e : Ex)
 | ret0
 | pass
 | rais (c : Nat) (msg : Str)
 | try (b : Sts) (cs : List (Nat × Ex))
inductive Sts where
 | nil
 | cons (s : St) (ss : Sts)
 | any
end
set_option genInjectivity false in
structure FD where
 params : List Nat
 body : Sts
set_option genInjectivity false in
structure Prog where
 funs : List (Nat × FD)
 meths : List (Nat × FD)
 globs : List (Nat × V)
 init : Nat
 attrs : List Nat := []
 nf : Nat := 0
 xb : Nat := 0
noncomputable def H.getM (P : Prog) (h : H) (a : Nat) : Option O := if P.nf ≤ a then h.get a else none
noncomputable def idInt : Nat := 0
noncomputable def idBool : Nat := 1
noncomputable def idList : Nat := 2
noncomputable def idTuple : Nat := 3
noncomputable def idStr : Nat := 4
noncomputable def idAppend : Nat := 6
noncomputable def idPop : Nat := 7
noncomputable def idClear : Nat := 8
noncomputable def lim : Nat := 1000000
noncomputable def okO : O → Bool
 | .list xs => decide (xs.length ≤ lim)
 | .tup xs => decide (xs.length ≤ lim)
 | .dict es => decide (es.length ≤ lim)
 | _ => true
noncomputable def okS (s : Str) : Bool := decide (s.length ≤ lim) && PySem.PyData.strOk s
noncomputable def small (i : Int) : Bool := decide (i.natAbs < 2 ^ 64)
noncomputable def small' (i : Int) : Bool := decide (i.natAbs < 2 ^ 60)
noncomputable def alloc (o : O) : X V := fun h => if okO o then some (.ok (.ref h.length), h.push o) else none
noncomputable def grow (a : Nat) (o : O) (v : V) : X V := fun h => if okO o then some (.ok v, h.put a o) else none
noncomputable def err {α : Type} (c : Nat) : X α := fun h => some (.err c, h)
noncomputable def truth (v : V) : X Bool := fun h => match v with
 | .none => some (.ok false, h)
 | .bool b => some (.ok b, h)
 | .int i => some (.ok (decide (i ≠ 0)), h)
 | .str s => some (.ok (decide (s.length ≠ 0)), h)
 | .ref a => match h.get a with
  | some (.list xs) => some (.ok (!xs.isEmpty), h)
  | some (.tup xs) => some (.ok (!xs.isEmpty), h)
  | some (.dict es) => some (.ok (!es.isEmpty), h)
  | _ => none
noncomputable def optAll {α β : Type} (f : α → Option β) : List α → Option (List β)
 | [] => some []
 | x :: xs => match f x, optAll f xs with
  | some y, some ys => some (y :: ys)
  | _, _ => none
noncomputable def dataOf (h : H) : Nat → V → Option PyData
 | 0, _ => none
 | n + 1, v => match v with
  | .none => some .none
  | .bool b => some (.bool b)
  | .int i => some (.int i)
  | .str s => some (.str s)
  | .ref a => match h.get a with
   | some (.list xs) => (optAll (dataOf h n) xs).map .list
   | some (.tup xs) => (optAll (dataOf h n) xs).map .tuple
   | _ => none
noncomputable def deq (h : H) (a b : V) : Option Bool := match dataOf h 5 a, dataOf h 5 b with
 | some x, some y => some (PyData.eqv x y)
 | _, _ => none
/- parts of values, for what is partly defined -/
noncomputable def onInt {β : Type} (v : V) (f : Int → Option β) : Option β := match v with
 | .int i => f i
 | _ => none
noncomputable def onRef {β : Type} (v : V) (f : Nat → Option β) : Option β := match v with
 | .ref i => f i
 | _ => none
noncomputable def onL {β : Type} (o : Option O) (f : List V → Option β) : Option β := match o with
 | some (.list xs) => f xs
 | _ => none
noncomputable def on1 {β : Type} (l : List V) (f : V → Option β) : Option β := match l with
 | [a] => f a
 | _ => none
noncomputable def on2 {β : Type} (l : List V) (f : V → V → Option β) : Option β := match l with
 | [a, b] => f a b
 | _ => none
theorem onInt_eq {β : Type} {v : V} {f : Int → Option β} {r : β} (h : onInt v f = some r) : ∃ i, v = .int i ∧ f i = some r := by
 cases v <;> first | exact ⟨_, rfl, h⟩ | cases h
theorem onRef_eq {β : Type} {v : V} {f : Nat → Option β} {r : β} (h : onRef v f = some r) : ∃ i, v = .ref i ∧ f i = some r := by
 cases v <;> first | exact ⟨_, rfl, h⟩ | cases h
theorem onL_eq {β : Type} {o : Option O} {f : List V → Option β} {r : β} (h : onL o f = some r) : ∃ xs, o = some (.list xs) ∧ f xs = some r := by
 cases o with
 | none => cases h
 | some o => cases o <;> first | exact ⟨_, rfl, h⟩ | cases h
theorem on1_eq {β : Type} {l : List V} {f : V → Option β} {r : β} (h : on1 l f = some r) : ∃ a, l = [a] ∧ f a = some r := by
 match l, h with
 | [a], h => exact ⟨a, rfl, h⟩
theorem on2_eq {β : Type} {l : List V} {f : V → V → Option β} {r : β} (h : on2 l f = some r) : ∃ a b, l = [a, b] ∧ f a b = some r := by
 match l, h with
 | [a, b], h => exact ⟨a, b, rfl, h⟩
noncomputable def twoInts (a b : V) (f : Int → Int → Option (R V × H)) : Option (R V × H) := onInt a fun x => onInt b fun y => f x y
noncomputable def binop (op : PySem.Operator) (a b : V) : X V := fun h => match op with
 | .Add => match a with
  | .int x => onInt b fun y => some (.ok (.int (x + y)), h)
  | .ref x => onRef b fun y => onL (h.get x) fun xs => onL (h.get y) fun ys => alloc (.list (xs ++ ys)) h
  | _ => none
 | .Sub => twoInts a b fun x y => some (.ok (.int (x - y)), h)
 | .FloorDiv => twoInts a b fun x y => if y = 0 then none else if small y then some (.ok (.int (Int.fdiv x y)), h) else none
 | .Mod => twoInts a b fun x y => if y = 0 then none else some (.ok (.int (Int.fmod x y)), h)
 | .Mult => twoInts a b fun x y => if small x || small y then some (.ok (.int (x * y)), h) else none
 | _ => none
noncomputable def inList (h : H) (x : V) (ys : List V) : Option Bool := match dataOf h 5 x, optAll (dataOf h 4) ys with
 | some d, some ds => some (ds.any fun y => PyData.eqv y d)
 | _, _ => none
noncomputable def dget (es : List (V × V)) (k : V) : Option V := match es with
 | [] => none
 | (k', v) :: r => if k' = k then some v else dget r k
noncomputable def dset (es : List (V × V)) (k v : V) : List (V × V) := match es with
 | [] => [(k, v)]
 | (k', v') :: r => if k' = k then (k', v) :: r else (k', v') :: dset r k v
noncomputable def ddel (es : List (V × V)) (k : V) : List (V × V) := match es with
 | [] => []
 | (k', v') :: r => if k' = k then r else (k', v') :: ddel r k
noncomputable def isKey : V → Bool
 | .int _ => true
 | .str _ => true
 | _ => false
noncomputable def contains (P : Prog) (x c : V) : X Bool := fun h => match c with
 | .ref a => match h.get a with
  | some (.list ys) => (inList h x ys).map fun b => (.ok b, h)
  | some (.tup ys) => (inList h x ys).map fun b => (.ok b, h)
  | some (.dict es) => if isKey x || decide (x = .none) then some (.ok (dget es x).isSome, h) else none
  | _ => none
 | _ => none
noncomputable def onN {β : Type} (v : V) (x : Option β) : Option β := match v with
 | .none => x
 | _ => none
theorem onN_eq {β : Type} {v : V} {x : Option β} {r : β} (h : onN v x = some r) : v = .none ∧ x = some r := by
 cases v <;> first | exact ⟨rfl, h⟩ | cases h
noncomputable def cmpop (P : Prog) (op : PySem.CmpOp) (a b : V) : X V := fun h => match op with
 | .Eq => (deq h a b).map fun r => (.ok (.bool r), h)
 | .NotEq => (deq h a b).map fun r => (.ok (.bool (!r)), h)
 | .Lt => twoInts a b fun x y => some (.ok (.bool (decide (x < y))), h)
 | .LtE => twoInts a b fun x y => some (.ok (.bool (decide (x ≤ y))), h)
 | .Gt => twoInts a b fun x y => some (.ok (.bool (decide (x > y))), h)
 | .GtE => twoInts a b fun x y => some (.ok (.bool (decide (x ≥ y))), h)
 | .Is => onN b (some (.ok (.bool (decide (a = .none))), h))
 | .IsNot => onN b (some (.ok (.bool (decide (a ≠ .none))), h))
 | .In => X.bind (contains P a b) (fun r => X.pure (.bool r)) h
 | .NotIn => X.bind (contains P a b) (fun r => X.pure (.bool (!r))) h
noncomputable def idx (i : Int) (n : Nat) : Option Nat := if 0 ≤ i ∧ i < n then some i.toNat else none
noncomputable def getItem (P : Prog) (o i : V) : X V := fun h => match o with
 | .ref a => match h.get a, i with
  | some (.list xs), .int k => ((idx k xs.length).bind fun j => xs[j]?).map fun v => (.ok v, h)
  | some (.tup xs), .int k => ((idx k xs.length).bind fun j => xs[j]?).map fun v => (.ok v, h)
  | some (.dict es), k => if isKey k then (dget es k).map fun v => (.ok v, h) else none
  | _, _ => none
 | _ => none
noncomputable def setItem (P : Prog) (o i v : V) : X Unit := fun h => match o with
 | .ref a => match h.getM P a, i with
  | some (.list xs), .int k => (idx k xs.length).map fun j => (.ok (), h.put a (.list (xs.set j v)))
  | some (.dict es), k => if isKey k then (if okO (.dict (dset es k v)) then some (.ok (), h.put a (.dict (dset es k v))) else none) else none
  | _, _ => none
 | _ => none
noncomputable def clip (v : V) (n : Nat) (d : Nat) : Option Nat := match v with
 | .none => some d
 | .int i => some (if 0 ≤ i then min i.toNat n else (i + n).toNat)
 | _ => none
noncomputable def cut {α : Type} (xs : List α) (lo hi : Nat) : List α := (xs.take hi).drop lo
noncomputable def getSlice (o lo hi : V) : X V := fun h => match o with
 | .ref a => match h.get a with
  | some (.list xs) => match clip lo xs.length 0, clip hi xs.length xs.length with
   | some l, some u => some (.ok (.ref h.length), h.push (.list (cut xs l u)))
   | _, _ => none
  | _ => none
 | _ => none
noncomputable def aget (es : List (Nat × V)) (k : Nat) : Option V := match es with
 | [] => none
 | (k', v) :: r => if k' = k then some v else aget r k
noncomputable def aset (es : List (Nat × V)) (k : Nat) (v : V) : List (Nat × V) := match es with
 | [] => [(k, v)]
 | (k', v') :: r => if k' = k then (k', v) :: r else (k', v') :: aset r k v
noncomputable def getAttr (o : V) (n : Nat) : X V := fun h => match o with
 | .ref a => match h.get a with
  | some (.inst _ d) => match h.get d with
   | some (.attrs es) => (aget es n).map fun v => (.ok v, h)
   | _ => none
  | _ => none
 | _ => none
noncomputable def setAttr (P : Prog) (o : V) (n : Nat) (v : V) : X Unit := fun h => match o with
 | .ref a => match h.get a with
  | some (.inst _ d) => match h.getM P d with
   | some (.attrs es) => if P.attrs.contains n && decide ((aset es n v).length ≤ 100) then some (.ok (), h.put d (.attrs (aset es n v))) else none
   | _ => none
  | _ => none
 | _ => none
noncomputable def intsOf : List V → Option (List Int)
 | [] => some []
 | .int i :: r => (intsOf r).map (i :: ·)
 | _ => none
noncomputable def insertI (x : Int) : List Int → List Int
 | [] => [x]
 | y :: r => if x ≤ y then x :: y :: r else y :: insertI x r
noncomputable def sortI : List Int → List Int
 | [] => []
 | x :: r => insertI x (sortI r)
noncomputable def rangeList (a b c : Int) : List Int :=
 if 0 < c then (List.range (if a < b then (b - a - 1) / c + 1 else 0).toNat).map fun (k : Nat) => a + (k : Int) * c else []
noncomputable def iterOf (v : V) (h : H) : Option (List V) := match v with
 | .ref a => match h.get a with
  | some (.list xs) => some xs
  | some (.tup xs) => some xs
  | some (.rng a b c) => if small' a && small' b && small' c && decide (b - a ≤ (lim : Int)) && decide (0 < c) then some ((rangeList a b c).map .int) else none
  | _ => none
 | _ => none
noncomputable def still (v : V) (h h' : H) : Bool := match v with
 | .ref a => decide (h'.get a = h.get a)
 | _ => true
noncomputable def biLen (v : V) (h : H) : Option (R V × H) := match v with
 | .ref a => match h.get a with
  | some (.list xs) => some (.ok (.int xs.length), h)
  | some (.tup xs) => some (.ok (.int xs.length), h)
  | some (.dict es) => some (.ok (.int es.length), h)
  | _ => none
 | _ => none
noncomputable def sortedI (o : Option (List Int)) (h : H) : Option (R V × H) := match o with
 | some ns => if ns.length < 64 then some (.ok (.ref h.length), h.push (.list ((sortI ns).map .int))) else none
 | none => none
noncomputable def biSorted (v : V) (h : H) : Option (R V × H) := onRef v fun a => match h.get a with
  | some (.dict es) => sortedI (intsOf (es.map (·.1))) h
  | _ => none
noncomputable def biList (v : V) (h : H) : Option (R V × H) := onRef v fun a => match h.get a with
  | some (.list xs) => alloc (.list xs) h
  | some (.tup xs) => alloc (.list xs) h
  | _ => none
noncomputable def biRange (args : List V) (h : H) : Option (R V × H) := match args with
 | [a] => onInt a fun n => alloc (.rng 0 n 1) h
 | [a, b, c] => twoInts a b fun a b => onInt c fun c => if c = 0 then none else if small c then alloc (.rng a b c) h else none
 | _ => none
noncomputable def builtin (b : Bi) (args : List V) : X V := fun h => match b with
 | .len => on1 args fun v => biLen v h
 | .sorted => on1 args fun v => biSorted v h
 | .list => on1 args fun v => biList v h
 | .range => biRange args h
 | .min => on2 args fun a b => twoInts a b fun a b => some (.ok (.int (if b < a then b else a)), h)
noncomputable def isinst (P : Prog) (v : V) (c : Nat) : X Bool := fun h => match v with
 | .none => some (.ok false, h)
 | .bool _ => some (.ok (c == idBool || c == idInt), h)
 | .int _ => some (.ok (c == idInt), h)
 | .str _ => some (.ok (c == idStr), h)
 | .ref a => match h.get a with
  | some (.list _) => some (.ok (c == idList), h)
  | some (.tup _) => some (.ok (c == idTuple), h)
  | _ => none
noncomputable abbrev isB : Nat := 4
noncomputable def isinsts (P : Prog) (v : V) : List Nat → X Bool
 | [c] => if c ≤ isB then isinst P v c else X.none
 | _ => X.none
noncomputable def listMeth (P : Prog) (o : V) (n : Nat) (args : List V) : X V := fun h => match o with
 | .ref a => match h.getM P a with
  | some (.list xs) =>
   if n = idAppend then match args with
    | [v] => grow a (.list (xs ++ [v])) .none h
    | _ => none
   else if n = idPop then match args with
    | [] => match xs.getLast? with
     | some v => some (.ok v, h.put a (.list xs.dropLast))
     | none => none
    | _ => none
   else if n = idClear then match args with
    | [] => some (.ok .none, h.put a (.list []))
    | _ => none
   else none
  | _ => none
 | _ => none
noncomputable def dictMeth (P : Prog) (o : V) (n : Nat) (args : List V) : X V := fun h => match o with
 | .ref a => match h.getM P a with
  | some (.dict es) =>
   if n = idPop then match args with
    | [k] => if isKey k then match dget es k with
      | some v => some (.ok v, h.put a (.dict (ddel es k)))
      | none => none
     else none
    | [k, d] => if isKey k then match dget es k with
      | some v => some (.ok v, h.put a (.dict (ddel es k)))
      | none => some (.ok d, h)
     else none
    | _ => none
   else none
  | _ => none
 | _ => none
inductive Kd where
 | inst | list | dict | str | other
noncomputable def kdOf (v : V) (h : H) : Kd := match v with
 | .ref a => match h.get a with
  | some (.inst _ d) => match h.get d with
   | some (.attrs _) => .inst
   | _ => .other
  | some (.list _) => .list
  | some (.dict _) => .dict
  | _ => .other
 | .str _ => .str
 | _ => .other
noncomputable def bindTg (tg : List Nat) (tup : Bool) (v : V) (loc : Loc) (h : H) : Option Loc := match tup, tg with
 | false, [i] => some (loc.upd i v)
 | true, is => match v with
  | .ref a => match h.get a with
   | some (.tup xs) => if xs.length = is.length then some ((is.zip xs).foldl (fun l p => l.upd p.1 p.2) loc) else none
   | _ => none
  | _ => none
 | _, _ => none
noncomputable def compL (v₀ : V) (tg : List Nat) (tup : Bool) (t : Loc → X Bool) (e : Loc → X V) (loc : Loc) (h₀ : H) : List V → H → Option (R (List V) × H)
 | [], h => some (.ok [], h)
 | v :: vs, h => match bindTg tg tup v loc h with
  | none => none
  | some l' => match t l' h with
   | none => none
   | some (.err _, _) => none
   | some (.ok false, h₁) => if still v₀ h₀ h₁ then compL v₀ tg tup t e loc h₀ vs h₁ else none
   | some (.ok true, h₁) => match e l' h₁ with
    | none => none
    | some (.err _, _) => none
    | some (.ok w, h₂) => if still v₀ h₀ h₂ then match compL v₀ tg tup t e loc h₀ vs h₂ with
      | none => none
      | some (.err _, _) => none
      | some (.ok ws, h₃) => some (.ok (w :: ws), h₃)
     else none
noncomputable abbrev Calls := Bool → Nat → List V → X V
section
variable (P : Prog) (C : Calls)
mutual
noncomputable def ev : Ex → Loc → X V
 | .cnone, _ => X.pure .none
 | .cbool b, _ => X.pure (.bool b)
 | .cint i, _ => X.pure (.int i)
 | .cstr s, _ => X.pure (.str s)
 | .loc i, loc => X.lift (loc i)
 | .glo i, _ => match P.globs.lookup i with
  | some v => X.pure v
  | none => X.none
 | .bin op a b, loc => X.bind (ev a loc) fun x => X.bind (ev b loc) fun y => binop op x y
 | .not a, loc => X.bind (ev a loc) fun x => X.bind (truth x) fun t => X.pure (.bool (!t))
 | .band es, loc => evAnd es loc
 | .bor _, _ => X.none
 | .cmp op a b, loc => X.bind (ev a loc) fun x => X.bind (ev b loc) fun y => cmpop P op x y
 | .cmp2 o1 o2 a b c, loc => X.bind (ev a loc) fun x => X.bind (ev b loc) fun y => X.bind (cmpop P o1 x y) fun r => X.bind (truth r) fun t =>
   if t then X.bind (ev c loc) fun z => cmpop P o2 y z else X.pure r
 | .list es, loc => X.bind (evs es loc) fun vs => alloc (.list vs)
 | .tup es, loc => X.bind (evs es loc) fun vs => alloc (.tup vs)
 | .dict ks vs, loc => X.bind (evs ks loc) fun kv => X.bind (evs vs loc) fun vv => if kv.all isKey && kv.length == vv.length then alloc (.dict ((kv.zip vv).foldl (fun d p => dset d p.1 p.2) [])) else X.none
 | .attr a n, loc => X.bind (ev a loc) fun o => getAttr o n
 | .sub a i, loc => X.bind (ev a loc) fun o => X.bind (ev i loc) fun k => getItem P o k
 | .slice a lo hi, loc => X.bind (ev a loc) fun o => X.bind (ev lo loc) fun l => X.bind (ev hi loc) fun u => getSlice o l u
 | .call f args, loc => X.bind (evs args loc) fun vs => C false f vs
 | .new c, _ => X.bind (alloc (.attrs [])) fun d => match d with
  | .ref k => X.bind (alloc (.inst c k)) fun o => X.bind (C true P.init [o]) fun r => match r with | .none => X.pure o | _ => X.none
  | _ => X.none
 | .meth o n args, loc => X.bind (ev o loc) fun ov => fun h => match kdOf ov h with
  | .inst => if n ≤ 12 then none else X.bind (evs args loc) (fun vs => C true n (ov :: vs)) h
  | .list => if n = idAppend ∨ n = idPop ∨ n = idClear then X.bind (evs args loc) (fun vs => listMeth P ov n vs) h else none
  | .dict => if n = idPop then X.bind (evs args loc) (fun vs => dictMeth P ov n vs) h else none
  | _ => none
 | .bi b args, loc => X.bind (evs args loc) fun vs => builtin b vs
 | .isi a cs, loc => X.bind (ev a loc) fun v => X.bind (isinsts P v cs) fun b => X.pure (.bool b)
 | .comp elt tg tup it conds, loc => X.bind (ev it loc) fun v => fun h => match iterOf v h with
  | none => none
  | some vs => X.bind (compL v tg tup (tstAnd conds) (ev elt) loc h vs) (fun ws => alloc (.list ws)) h
noncomputable def evs : Exs → Loc → X (List V)
 | .nil, _ => X.pure []
 | .cons e es, loc => X.bind (ev e loc) fun v => X.bind (evs es loc) fun vs => X.pure (v :: vs)
noncomputable def evAnd : Exs → Loc → X V
 | .nil, _ => X.none
 | .cons e .nil, loc => ev e loc
 | .cons e es, loc => X.bind (ev e loc) fun v => X.bind (truth v) fun t => if t then evAnd es loc else X.pure v
noncomputable def tst : Ex → Loc → X V → X Bool
 | .not a, loc, _ => X.bind (tst a loc (ev a loc)) fun t => X.pure (!t)
 | .band es, loc, _ => tstAnd es loc
 | .bor es, loc, _ => tstOr es loc
 | _, _, whole => X.bind whole truth
noncomputable def tstAnd : Exs → Loc → X Bool
 | .nil, _ => X.pure true
 | .cons e es, loc => X.bind (tst e loc (ev e loc)) fun t => if t then tstAnd es loc else X.pure false
noncomputable def tstOr : Exs → Loc → X Bool
 | .nil, _ => X.pure false
 | .cons e es, loc => X.bind (tst e loc (ev e loc)) fun t => if t then X.pure true else tstOr es loc
end
noncomputable def afterX (x : Option (R (Option V) × Loc × H)) (k : Loc → H → Option (R (Option V) × Loc × H)) : Option (R (Option V) × Loc × H) := match x with
 | none => none
 | some (.ok none, l₂, h₂) => k l₂ h₂
 | some (.ok (some v), l₂, h₂) => some (.ok (some v), l₂, h₂)
 | some (.err _, _, _) => none
noncomputable def whileL (t : Loc → X Bool) (b : Loc → H → Option (R (Option V) × Loc × H)) : Nat → Loc → H → Option (R (Option V) × Loc × H)
 | 0, _, _ => none
 | n + 1, loc, h => match t loc h with
  | none => none
  | some (.err _, _) => none
  | some (.ok false, h₁) => some (.ok none, loc, h₁)
  | some (.ok true, h₁) => afterX (b loc h₁) fun l₂ h₂ => whileL t b n l₂ h₂
noncomputable def forL (v₀ : V) (tg : List Nat) (tup : Bool) (b : Loc → H → Option (R (Option V) × Loc × H)) (h₀ : H) : List V → Loc → H → Option (R (Option V) × Loc × H)
 | [], loc, h => some (.ok none, loc, h)
 | v :: vs, loc, h => match bindTg tg tup v loc h with
  | none => none
  | some l' => afterX (b l' h) fun l₂ h₂ => if still v₀ h₀ h₂ then forL v₀ tg tup b h₀ vs l₂ h₂ else none
noncomputable def unlk (a : Nat) (es : List (V × V)) : Option (R (Option V) × Loc × H) → Option (R (Option V) × Loc × H)
 | some (.ok none, l, h) => if h.get a = some (.lck es) then some (.ok none, l, h.put a (.dict es)) else none
 | _ => none
noncomputable def forD (P : Prog) (v : V) (i : Nat) (b : Loc → H → Option (R (Option V) × Loc × H)) (loc : Loc) (h : H) : Option (R (Option V) × Loc × H) := match v with
 | .ref a => match h.getM P a with
  | some (.dict es) => if (intsOf (es.map (·.1))).isSome then unlk a es (forL (.ref a) [i] false b (h.put a (.lck es)) (es.map (·.1)) loc (h.put a (.lck es))) else none
  | _ => none
 | _ => none
noncomputable def onX {α : Type} (m : X α) (loc : Loc) (f : α → H → Option (R (Option V) × Loc × H)) (h : H) : Option (R (Option V) × Loc × H) := match m h with
 | none => none
 | some (.err c, h₁) => some (.err c, loc, h₁)
 | some (.ok a, h₁) => f a h₁
noncomputable def kstV : Ex → Option V
 | .cnone => some .none
 | .cbool b => some (.bool b)
 | .cstr s => if okS s then some (.str s) else none
 | _ => none
noncomputable def catchX (P : Prog) (k : Nat) : List (Nat × Ex) → Option V
 | [] => none
 | (c, r) :: cs => if k = c ∨ c = P.xb then kstV r else catchX P k cs
noncomputable def tryX (P : Prog) (x : Option (R (Option V) × Loc × H)) (cs : List (Nat × Ex)) : Option (R (Option V) × Loc × H) := match x with
 | none => none
 | some (.ok o, l₁, h₁) => some (.ok o, l₁, h₁)
 | some (.err k, l₁, h₁) => (catchX P k cs).map fun v => (.ok (some v), l₁, h₁)
variable (F : Nat)
mutual
noncomputable def ex : St → Loc → H → Option (R (Option V) × Loc × H)
 | .expr e, loc, h => onX (ev P C e loc) loc (fun _ h₁ => some (.ok none, loc, h₁)) h
 | .asg t e, loc, h => onX (ev P C e loc) loc (fun v h₁ => match t with
   | .var i => some (.ok none, loc.upd i v, h₁)
   | .attr o n => onX (ev P C o loc) loc (fun ov h₂ => onX (setAttr P ov n v) loc (fun _ h₃ => some (.ok none, loc, h₃)) h₂) h₁
   | .sub o i => onX (ev P C o loc) loc (fun ov h₂ => onX (ev P C i loc) loc (fun iv h₃ => onX (setItem P ov iv v) loc (fun _ h₄ => some (.ok none, loc, h₄)) h₃) h₂) h₁) h
 | .ite c a b, loc, h => onX (tst P C c loc (ev P C c loc)) loc (fun t h₁ => if t then exs a loc h₁ else exs b loc h₁) h
 | .ford i e b, loc, h => onX (ev P C e loc) loc (fun v h₁ => forD P v i (exs b) loc h₁) h
 | .whl c b, loc, h => whileL (fun l => tst P C c l (ev P C c l)) (exs b) F loc h
 | .for tg tup e b, loc, h => onX (ev P C e loc) loc (fun v h₁ => match iterOf v h₁ with
   | none => none
   | some vs => forL v tg tup (exs b) h₁ vs loc h₁) h
 | .ret e, loc, h => onX (ev P C e loc) loc (fun v h₁ => some (.ok (some v), loc, h₁)) h
 | .ret0, loc, h => some (.ok (some .none), loc, h)
 | .pass, loc, h => some (.ok none, loc, h)
 | .rais c _, loc, h => some (.err c, loc, h)
 | .try b cs, loc, h => tryX P (exs b loc h) cs
noncomputable def exs : Sts → Loc → H → Option (R (Option V) × Loc × H)
 | .any, _, _ => none
 | .nil, loc, h => some (.ok none, loc, h)
 | .cons s ss, loc, h => match ex s loc h with
  | some (.ok none, l₁, h₁) => exs ss l₁ h₁
  | r => r
end
end
noncomputable def run (P : Prog) (F : Nat) : Nat → Calls
 | 0, _, _, _ => X.none
 | d + 1, m, f, args => fun h => match (if m then P.meths else P.funs).lookup f with
  | none => none
  | some fd => if args.length = fd.params.length then
    match exs P (run P F d) F fd.body ((fd.params.zip args).foldl (fun l p => l.upd p.1 p.2) (fun _ => none)) h with
    | none => none
    | some (.err c, _, h₁) => some (.err c, h₁)
    | some (.ok r, _, h₁) => some (.ok (r.getD .none), h₁)
   else none
end Mine.Internal
set_option autoImplicit false
namespace Mine.Internal
theorem insertI_perm (x : Int) (l : List Int) : (insertI x l).Perm (x :: l) := by
 induction l with
 | nil => exact List.Perm.refl _
 | cons y r ih =>
  simp only [insertI]
  split
  ·exact List.Perm.refl _
  ·exact (ih.cons y).trans (List.Perm.swap x y r)
theorem sortI_perm (l : List Int) : (sortI l).Perm l := by
 induction l with
 | nil => exact List.Perm.refl _
 | cons x r ih => exact (insertI_perm x _).trans (ih.cons x)
theorem insertI_sorted (x : Int) {l : List Int} (h : l.Pairwise (· ≤ ·)) : (insertI x l).Pairwise (· ≤ ·) := by
 induction l with
 | nil => simp [insertI]
 | cons y r ih =>
  simp only [insertI]
  rw [List.pairwise_cons] at h
  split
  ·rename_i hxy
   refine List.pairwise_cons.mpr ⟨fun z hz => ?_, List.pairwise_cons.mpr h⟩
   rcases List.mem_cons.mp hz with rfl | hz
   ·exact hxy
   ·exact Int.le_trans hxy (h.1 z hz)
  ·rename_i hxy
   refine List.pairwise_cons.mpr ⟨fun z hz => ?_, ih h.2⟩
   rcases List.mem_cons.mp ((insertI_perm x r).mem_iff.mp hz) with rfl | hz
   ·lia
   ·exact h.1 z hz
theorem sortI_sorted (l : List Int) : (sortI l).Pairwise (· ≤ ·) := by
 induction l with
 | nil => exact List.Pairwise.nil
 | cons x r ih => exact insertI_sorted x ih
theorem sorted_unique : ∀ {a b : List Int}, a.Perm b → a.Pairwise (· ≤ ·) → b.Pairwise (· ≤ ·) → a = b
 | [], b, p, _, _ => (List.nil_perm.mp p).symm
 | x :: a, [], p, _, _ => absurd p.length_eq (by simp)
 | x :: a, y :: b, p, ha, hb => by
  rw [List.pairwise_cons] at ha hb
  have hxy : x = y := by
   have h1 : x ∈ y :: b := p.mem_iff.mp (.head _)
   have h2 : y ∈ x :: a := p.mem_iff.mpr (.head _)
   rcases List.mem_cons.mp h1 with h1 | h1
   ·exact h1
   ·rcases List.mem_cons.mp h2 with h2 | h2
    ·exact h2.symm
    ·have := hb.1 x h1; have := ha.1 y h2; lia
  subst hxy
  rw [sorted_unique (List.Perm.cons_inv p) ha.2 hb.2]
end Mine.Internal
set_option autoImplicit false
namespace Mine.Internal
open PySem PySem.W PySem.Calls PyProof.Rows
inductive All2 {α β : Type} (R : α → β → Prop) : List α → List β → Prop
 | nil : All2 R [] []
 | cons {a : α} {b : β} {as : List α} {bs : List β} : R a b → All2 R as bs → All2 R (a :: as) (b :: bs)
namespace All2
variable {α β γ δ : Type} {R R' : α → β → Prop}
theorem length {as : List α} {bs : List β} (h : All2 R as bs) : as.length = bs.length := by
 induction h with
 | nil => rfl
 | cons _ _ ih => simp [ih]
theorem get {as : List α} {bs : List β} (h : All2 R as bs) : ∀ {i : Nat} {a : α}, as[i]? = some a → ∃ b, bs[i]? = some b ∧ R a b := by
 induction h with
 | nil => intro i a e; simp at e
 | cons hr _ ih =>
  intro i a e
  cases i with
  | zero => simp only [List.getElem?_cons_zero, Option.some.injEq] at e; subst e; exact ⟨_, rfl, hr⟩
  | succ i => simp only [List.getElem?_cons_succ] at e ⊢; exact ih e
theorem mono {as : List α} {bs : List β} (h : All2 R as bs) (k : ∀ a b, R a b → R' a b) : All2 R' as bs := by
 induction h with
 | nil => exact .nil
 | cons hr _ ih => exact .cons (k _ _ hr) ih
theorem append {as as' : List α} {bs bs' : List β} (h : All2 R as bs) (h' : All2 R as' bs') : All2 R (as ++ as') (bs ++ bs') := by
 induction h with
 | nil => exact h'
 | cons hr _ ih => exact .cons hr ih
theorem set {as : List α} {bs : List β} (h : All2 R as bs) {a : α} {b : β} (hr : R a b) : ∀ i : Nat, All2 R (as.set i a) (bs.set i b) := by
 induction h with
 | nil => intro i; exact .nil
 | cons hr' hs ih =>
  intro i
  cases i with
  | zero => exact .cons hr hs
  | succ i => exact .cons hr' (ih i)
theorem one {a : α} {b : β} (h : R a b) : All2 R [a] [b] := .cons h .nil
theorem take {as : List α} {bs : List β} (h : All2 R as bs) : ∀ n : Nat, All2 R (as.take n) (bs.take n) := by
 induction h with
 | nil => intro n; simp; exact .nil
 | cons hr _ ih =>
  intro n
  cases n with
  | zero => exact .nil
  | succ n => exact .cons hr (ih n)
theorem drop {as : List α} {bs : List β} (h : All2 R as bs) : ∀ n : Nat, All2 R (as.drop n) (bs.drop n) := by
 induction h with
 | nil => intro n; simp; exact .nil
 | cons hr hs ih =>
  intro n
  cases n with
  | zero => exact .cons hr hs
  | succ n => exact ih n
end All2
set_option genInjectivity false in
structure Sig where
 prog : Program
 w : World
 K : Frag
 T : List Str
 P : Prog
 cls : Nat → Option Addr
 fn : Nat → Option Addr
 me : Nat → Option Addr
 ex : Nat → Option Addr
 xp : Addr
 fz : List (Addr × Obj)
 lk : List (Nat × Addr × Obj)
variable (S : Sig)
noncomputable def VR (ρ : List Addr) : V → Value → Prop
 | .none, x => x = .none
 | .bool b, x => x = .bool b
 | .int i, x => ∃ t, x = .int i t
 | .str s, x => ∃ t, x = .str s t ∧ okS s = true
 | .ref a, x => ∃ A, ρ[a]? = some A ∧ x = .ref A
theorem VR.mono {ρ ρ' : List Addr} {v : V} {x : Value} (h : VR ρ v x) (k : ρ <+: ρ') : VR ρ' v x := by
 cases v <;> try exact h
 obtain ⟨A, hA, rfl⟩ := h
 obtain ⟨r, rfl⟩ := k
 refine ⟨A, ?_, rfl⟩
 rw [List.getElem?_append_left (List.getElem?_eq_some_iff.mp hA).1]
 exact hA
noncomputable def keyIs : V → Value → Bool
 | .int i, v => Value.isInt i v
 | .str s, v => Value.isStrOf s v
 | .none, .none => true
 | _, _ => false
theorem keyIs_int {i : Int} {v : Value} (h : keyIs (.int i) v = true) : ∃ t, v = .int i t := Value.isInt_shape h
theorem keyIs_str {s : Str} {v : Value} (h : keyIs (.str s) v = true) : ∃ t, v = .str s t := Value.isStrOf_shape h
theorem keyIs_none {v : Value} (h : keyIs .none v = true) : v = .none := by cases v <;> first | rfl | cases h
inductive KS : V → Value → Prop
 | int (i : Int) (t : Tok) : KS (.int i) (.int i t)
 | str (s : Str) (t : Tok) : KS (.str s) (.str s t)
 | none : KS .none .none
theorem keyIs_shape {k : V} {v : Value} (h : keyIs k v = true) : KS k v := by
 cases k with
 | int i => obtain ⟨t, rfl⟩ := keyIs_int h; exact .int i t
 | str s => obtain ⟨t, rfl⟩ := keyIs_str h; exact .str s t
 | none => cases keyIs_none h; exact .none
 | _ => exact (Bool.false_ne_true h).elim
noncomputable def hashNone : Int := 4238894112
noncomputable def hashV (w : World) : V → Int
 | .int i => hashInt i
 | .str s => hashStr w s
 | _ => hashNone
section
variable {prog : Program} {w : World} {A : Around} {E : Value → Shared → Prop} {s : Shared}
theorem hash_none {Q : Int → Shared → Prop} (h : Q hashNone { s with toks := s.toks + 1 }) : wpAny (model prog w) A (pyHash .none) Q E s := by
 have hT : s.TypeIs .none "NoneType" := rfl
 unfold pyHash
 have hv : [Value.none].any Value.onHeap = false := rfl
 refine wpAny_bind ?_
 rw [cRoomFor, if_neg (by rw [hv]; exact Bool.false_ne_true)]; refine wpAny_pure ?_
 refine wpAny_bind (wpAny_specialOf hT F.slot_NoneType_hash.lookup ?_)
 show wpAny _ _ (if (some (Value.builtin "NoneType.__hash__") == some Value.none) = true then _ else _) Q E s
 rw [if_neg (by decide)]
 refine wpAny_bind (wpAny_specialOf hT F.slot_NoneType_hash.lookup ?_)
 show wpAny _ _ (callSpecialIfBoundUnlessNone? .none "__hash__" _ >>= _) Q E s
 refine wpAny_bind (wpAny_callSpecialIfBoundUnlessNone?_slot hT F.slot_NoneType_hash
  (wpAny_call_entry F.slot_NoneType_hash hT F.entry_NoneType_hash
   (show wpAny _ _ (do ret (← mkInt hashNone)) _ _ s from wpAny_ret_mkInt ?_) (F.args_NoneType_hash_1 _)))
 exact wpAny_pure h
theorem eqBool_of {a b : Value} {r : Bool} {Q : Bool → Shared → Prop} (hne : (a == b) = true → r = true) (hf : ∀ x t, a ≠ .float x t)
  (hc : ∀ Q' : Value → Shared → Prop, Q' (.bool r) s → wpAny (model prog w) A (compareOp .Eq a b) Q' E s) (h : Q r s) : wpAny (model prog w) A (eqBool a b) Q E s := by
 unfold eqBool
 refine wpAny_holding ?_
 by_cases hab : (a == b) = true
 ·rw [if_pos hab]
  exact wpAny_bind (wpAny_rule (wpAny_pure (by rw [hne hab] at h; exact h)))
 ·rw [if_neg hab]
  cases a <;> first | exact absurd rfl (hf _ _) | exact wpAny_bind (hc _ (wpAny_truthy_bool h))
end
theorem keyIs_inj (v : Value) (a b : V) (ha : keyIs a v = true) (hb : keyIs b v = true) : a = b := by
 cases keyIs_shape ha <;> cases keyIs_shape hb <;> rfl
section
variable {prog : Program} {w : World} {A : Around} {E : Value → Shared → Prop} {s : Shared}
theorem eq_no {a b : Value} {k l : V} {Q : Bool → Shared → Prop} (h : Q (decide (k = l)) s) (hne : (a == b) = true → False) (hf : ∀ x t, a ≠ .float x t) (hkl : k ≠ l)
  (hc : ∀ Q' : Value → Shared → Prop, Q' (.bool false) s → wpAny (model prog w) A (compareOp .Eq a b) Q' E s) : wpAny (model prog w) A (eqBool a b) Q E s :=
 eqBool_of (r := false) (fun e => (hne e).elim) hf hc (by rw [decide_eq_false hkl] at h; exact h)
end
noncomputable def vKind (prog : Program) (w : World) : KeyKind prog w V where
 is := keyIs
 hash := hashV w
 inj := keyIs_inj
 byValue := fun k v h => by cases keyIs_shape h <;> rfl
 pyHash := fun hv h => by
  cases keyIs_shape hv with
  | int => exact wpAny_pyHash_int h
  | str => exact wpAny_pyHash_str h
  | none => exact hash_none h
 eqBool := fun hu hv h => by
  cases keyIs_shape hu with
  | int i t =>
   cases keyIs_shape hv with
   | int j u =>
    refine wpAny_eqBool_int ?_
    have : (i == j) = decide (V.int i = V.int j) := by by_cases hij : i = j <;> simp [hij]
    rw [this]; exact h
   | str => exact eq_no h (fun e => nomatch eq_of_beq e) (fun _ _ e => nomatch e) (fun e => nomatch e) (fun _ h' => EqMixed.eq_int_str h')
   | none => exact eq_no h (fun e => nomatch eq_of_beq e) (fun _ _ e => nomatch e) (fun e => nomatch e) (fun _ h' => EqNone.eq_int_none h')
  | str x t =>
   cases keyIs_shape hv with
   | int => exact eq_no h (fun e => nomatch eq_of_beq e) (fun _ _ e => nomatch e) (fun e => nomatch e) (fun _ h' => EqMixed.eq_str_int h')
   | str y u =>
    refine wpAny_eqBool_str ?_
    have : decide (x = y) = decide (V.str x = V.str y) := by by_cases hij : x = y <;> simp [hij]
    rw [this]; exact h
   | none => exact eq_no h (fun e => nomatch eq_of_beq e) (fun _ _ e => nomatch e) (fun e => nomatch e) (fun _ h' => EqNone.eq_str_none h')
  | none =>
   cases keyIs_shape hv with
   | int => exact eq_no h (fun e => nomatch eq_of_beq e) (fun _ _ e => nomatch e) (fun e => nomatch e) (fun _ h' => EqNone.eq_none_int h')
   | str => exact eq_no h (fun e => nomatch eq_of_beq e) (fun _ _ e => nomatch e) (fun e => nomatch e) (fun _ h' => EqNone.eq_none_str h')
   | none => exact eqBool_of (r := true) (fun _ => rfl) (fun _ _ e => nomatch e) (fun _ h' => EqNone.eq_none_none h') (by rw [decide_eq_true rfl] at h; exact h)
 «strs» := fun k x t v h => by
  cases keyIs_shape h
  cases v <;> rfl
noncomputable abbrev tupOf (its : Array Value) (n : Nat) : Obj := { cls := .type "tuple", data := .seq its n }
noncomputable abbrev rangeOf (a b c : Int) (ta tb tc : Tok) : Obj := { cls := .type "range", data := .fields #[.int a ta, .int b tb, .int c tc] }
noncomputable def PR (ρ : List Addr) (p : V × V) (q : V × Value) : Prop := p.1 = q.1 ∧ VR ρ p.2 q.2
noncomputable def AR (at' : List Nat) (T : List Str) (ρ : List Addr) (p : Nat × V) (e : DictEntry) : Prop := p.1 ∈ at' ∧ ∃ nm t, T[p.1]? = some nm ∧ e.key = .str nm t ∧ VR ρ p.2 e.val
inductive ListR (ρ : List Addr) (xs : List V) (o : Obj) : Prop
 | mk (vs : List Value) (n : Nat) (e : o = listOf (List.toArray vs) n) (h : All2 (VR ρ) xs vs) (z : xs.length ≤ lim) : ListR ρ xs o
inductive TupR (ρ : List Addr) (xs : List V) (o : Obj) : Prop
 | mk (vs : List Value) (n : Nat) (e : o = tupOf (List.toArray vs) n) (h : All2 (VR ρ) xs vs) (z : xs.length ≤ lim) : TupR ρ xs o
inductive DictR (prog : Program) (w : World) (ρ : List Addr) (es : List (V × V)) (o : Obj) : Prop
 | mk (es' : List DictEntry) (n : Nat) (kvs : List (V × Value)) (e : o = dictOf es' n) (k1 : KeysOf (vKind prog w) es'.toArray) (k2 : Pairs (vKind prog w) es' kvs) (k3 : (kvs.map (·.1)).Nodup) (k4 : All2 (PR ρ) es kvs) (z : es.length ≤ lim) : DictR prog w ρ es o
inductive InstR (cls : Nat → Option Addr) (ρ : List Addr) (c d : Nat) (o : Obj) : Prop
 | mk (C D : Addr) (h1 : cls c = some C) (h2 : ρ[d]? = some D) (e : o = ⟨.ref C, some D, .plain, #[]⟩) : InstR cls ρ c d o
inductive AttrsR (at' : List Nat) (T : List Str) (ρ : List Addr) (es : List (Nat × V)) (o : Obj) : Prop
 | mk (es' : List DictEntry) (n : Nat) (e : o = dictOf es' n) (h : All2 (AR at' T ρ) es es') (z : es.length ≤ 100) : AttrsR at' T ρ es o
noncomputable def OR (ρ : List Addr) : O → Obj → Prop
 | .list xs, o => ListR ρ xs o
 | .tup xs, o => TupR ρ xs o
 | .dict es, o => DictR S.prog S.w ρ es o
 | .inst c d, o => InstR S.cls ρ c d o
 | .attrs es, o => AttrsR S.P.attrs S.T ρ es o
 | .lck es, o => DictR S.prog S.w ρ es o
 | .rng a b c, o => ∃ ta tb tc, o = rangeOf a b c ta tb tc
theorem PR.mono {ρ ρ' : List Addr} (k : ρ <+: ρ') {p : V × V} {q : V × Value} (h : PR ρ p q) : PR ρ' p q := ⟨h.1, h.2.mono k⟩
theorem AR.mono {at' : List Nat} {T : List Str} {ρ ρ' : List Addr} (k : ρ <+: ρ') {p : Nat × V} {q : DictEntry} (h : AR at' T ρ p q) : AR at' T ρ' p q := by
 obtain ⟨h1, nm, t, h2, h3, h4⟩ := h
 exact ⟨h1, nm, t, h2, h3, h4.mono k⟩
theorem pre_get {ρ ρ' : List Addr} (k : ρ <+: ρ') {a : Nat} {A : Addr} (h : ρ[a]? = some A) : ρ'[a]? = some A := by
 obtain ⟨r, rfl⟩ := k
 rw [List.getElem?_append_left (List.getElem?_eq_some_iff.mp h).1]
 exact h
theorem OR.mono {ρ ρ' : List Addr} (k : ρ <+: ρ') {o : O} {x : Obj} (h : OR S ρ o x) : OR S ρ' o x := by
 cases o with
 | list xs => obtain ⟨vs, n, rfl, h, z⟩ := h; exact ⟨vs, n, rfl, h.mono fun _ _ e => e.mono k, z⟩
 | tup xs => obtain ⟨vs, n, rfl, h, z⟩ := h; exact ⟨vs, n, rfl, h.mono fun _ _ e => e.mono k, z⟩
 | dict es => obtain ⟨es', n, kvs, rfl, h1, h2, h3, h4, z⟩ := h; exact ⟨es', n, kvs, rfl, h1, h2, h3, h4.mono fun _ _ e => e.mono k, z⟩
 | inst c d => obtain ⟨C, D, h1, h2, rfl⟩ := h; exact ⟨C, D, h1, pre_get k h2, rfl⟩
 | attrs es => obtain ⟨es', n, rfl, h, z⟩ := h; exact ⟨es', n, rfl, h.mono fun _ _ e => e.mono k, z⟩
 | rng a b c => exact h
 | lck es => obtain ⟨es', n, kvs, rfl, h1, h2, h3, h4, z⟩ := h; exact ⟨es', n, kvs, rfl, h1, h2, h3, h4.mono fun _ _ e => e.mono k, z⟩
theorem OR.notFreed {ρ : List Addr} {o : O} {x : Obj} (h : OR S ρ o x) : x.isFreed = false := by
 cases o with
 | list xs => obtain ⟨vs, n, rfl, h, z⟩ := h; rfl
 | tup xs => obtain ⟨vs, n, rfl, h, z⟩ := h; rfl
 | dict es => obtain ⟨es', n, kvs, rfl, h1, h2, h3, h4, z⟩ := h; rfl
 | inst c d => obtain ⟨C, D, h1, h2, rfl⟩ := h; rfl
 | attrs es => obtain ⟨es', n, rfl, h, z⟩ := h; rfl
 | rng a b c => obtain ⟨ta, tb, tc, rfl⟩ := h; rfl
 | lck es => obtain ⟨es', n, kvs, rfl, h1, h2, h3, h4, z⟩ := h; rfl
noncomputable def isLk : Option O → Bool
 | some (.lck _) => true
 | _ => false
noncomputable abbrev adr (os : List (Addr × Obj)) : List Addr := os.map (·.1)
noncomputable abbrev Fs := List (Addr × (Str → Option Value))
structure Led (h₀ : Heap) (L : Addr) (m : Str → Option Value) (fs : Fs) (kp os : List (Addr × Obj)) (σ : H) (h : Heap) : Prop where
 fr : Fr h₀ L h m
 news : News h₀ L h (kp ++ os)
 nd : (adr (kp ++ os)).Nodup
 objs : All2 (fun o p => OR S (adr os) o p.2) σ os
 outs : ∀ f ∈ fs, h.Ns f.1 f.2 ∧ f.1 ≠ L ∧ h₀.get? f.1 = none ∧ f.1 ∉ adr (kp ++ os)
 top : ∃ o, h₀.get? mainGlobals = some o
 big : ∀ a ∈ adr (kp ++ os), (a == sysModules) = false
 frz : S.fz <+: os ∧ S.fz.length ≤ S.P.nf
 lkd : ∀ p ∈ S.lk, os[p.1]? = some p.2 ∧ isLk (σ.get p.1) = true
section
variable {S} {h₀ h h' : Heap} {L : Addr} {m : Str → Option Value} {fs : Fs} {kp os : List (Addr × Obj)} {σ : H}
theorem Led.keep (l : Led S h₀ L m fs kp os σ h) (k : ∀ b o, h.get? b = some o → h'.get? b = some o) : Led S h₀ L m fs kp os σ h' :=
 ⟨l.fr.keptAll k, fun p hp => ⟨k _ _ (l.news p hp).1, (l.news p hp).2⟩, l.nd, l.objs, fun f hf => ⟨(l.outs f hf).1.keeps k, (l.outs f hf).2⟩, l.top, l.big, l.frz, l.lkd⟩
inductive AtI (S : Sig) (h₀ h : Heap) (L : Addr) (os : List (Addr × Obj)) (a : Nat) (o : O) : Prop
 | mk (A : Addr) (x : Obj) (e1 : os[a]? = some (A, x)) (e2 : (adr os)[a]? = some A) (e3 : OR S (adr os) o x) (e4 : h.get? A = some x) (e5 : A ≠ L) (e6 : h₀.get? A = none) (e7 : (A == sysModules) = false) : AtI S h₀ h L os a o
theorem Led.at (l : Led S h₀ L m fs kp os σ h) {a : Nat} {o : O} (e : σ.get a = some o) : AtI S h₀ h L os a o := by
 obtain ⟨p, hp, hr⟩ := l.objs.get e
 obtain ⟨A, x⟩ := p
 have := l.news _ (List.mem_append_right _ (List.mem_of_getElem? hp))
 exact ⟨A, x, hp, by simp [adr, hp], hr, this.1, this.2.1, this.2.2, l.big _ (List.mem_map.mpr ⟨_, List.mem_append_right _ (List.mem_of_getElem? hp), rfl⟩)⟩
inductive RefI (S : Sig) (h₀ h : Heap) (L : Addr) (os : List (Addr × Obj)) (a : Nat) (o : O) (v : Value) : Prop
 | mk (A : Addr) (x : Obj) (e : v = .ref A) (e1 : os[a]? = some (A, x)) (e2 : (adr os)[a]? = some A) (e3 : OR S (adr os) o x) (e4 : h.get? A = some x) (e5 : A ≠ L) (e6 : h₀.get? A = none) (e7 : (A == sysModules) = false) : RefI S h₀ h L os a o v
theorem Led.ref (l : Led S h₀ L m fs kp os σ h) {ρ : List Addr} (k : ρ <+: adr os) {a : Nat} {o : O} {v : Value} (e : σ.get a = some o) (hv : VR ρ (.ref a) v) : RefI S h₀ h L os a o v := by
 obtain ⟨A, x, h1, h2, h3, h4, h5, h6, h7⟩ := l.at e
 obtain ⟨B, hB, rfl⟩ := hv
 have hB := pre_get k hB
 rw [h2] at hB; cases hB
 exact ⟨A, x, rfl, h1, h2, h3, h4, h5, h6, h7⟩
theorem set_self_fst : ∀ {l : List Addr} {a : Nat} {A : Addr}, l[a]? = some A → l.set a A = l
 | [], _, _, e => by simp at e
 | x :: r, 0, _, e => by simp only [List.getElem?_cons_zero, Option.some.injEq] at e; rw [e]; rfl
 | x :: r, a + 1, _, e => by simp only [List.getElem?_cons_succ] at e; rw [List.set_cons_succ, set_self_fst e]
theorem adr_set {os : List (Addr × Obj)} {a : Nat} {A : Addr} {x x' : Obj} (e : os[a]? = some (A, x)) : adr (os.set a (A, x')) = adr os := by
 unfold adr
 rw [List.map_set]
 have : (os.map (·.1))[a]? = some A := by simp [e]
 exact set_self_fst this
theorem mem_set_iff {os : List (Addr × Obj)} {a : Nat} {A : Addr} {x x' : Obj} (nd : (adr os).Nodup) (e : os[a]? = some (A, x)) {p : Addr × Obj} (hp : p ∈ os.set a (A, x')) : p = (A, x') ∨ (p ∈ os ∧ p.1 ≠ A) := by
 obtain ⟨i, hi⟩ := List.getElem?_of_mem hp
 rw [List.getElem?_set] at hi
 split at hi
 ·split at hi
  ·cases hi; exact .inl rfl
  ·cases hi
 ·rename_i hne
  refine .inr ⟨List.mem_of_getElem? hi, fun q => hne ?_⟩
  have h1 : (adr os)[a]? = some A := by simp [adr, e]
  have h2 : (adr os)[i]? = some A := by simp [adr, hi, q]
  have ha := (List.getElem?_eq_some_iff.mp h1).1
  exact (List.getElem?_inj ha nd).mp (h1.trans h2.symm)
theorem prefix_set {α : Type} : ∀ {l l' : List α} {a : Nat} {x : α}, l <+: l' → l.length ≤ a → l <+: l'.set a x
 | [], _, _, _, _, _ => List.nil_prefix
 | _ :: _, [], _, _, h, _ => h
 | y :: l, z :: l', 0, _, _, h => by simp at h
 | y :: l, z :: l', a + 1, x, h, h' => by
  rw [List.set_cons_succ]
  rw [List.cons_prefix_cons] at h ⊢
  exact ⟨h.1, prefix_set h.2 (by simpa using h')⟩
theorem notMods {a : Addr} (h : mainGlobals < a) : (a == sysModules) = false := by
 have h1 : mainGlobals = 3 := rfl
 have h2 : sysModules = 1 := rfl
 rw [h1] at h; rw [h2]
 exact beq_eq_false_iff_ne.mpr (fun e => by rw [e] at h; exact absurd h (by decide))
theorem Led.lkset (l : Led S h₀ L m fs kp os σ h) {a : Nat} {y : Addr × Obj} {o' : O} (hlk : isLk (σ.get a) = false) : ∀ p ∈ S.lk, (os.set a y)[p.1]? = some p.2 ∧ isLk ((σ.put a o').get p.1) = true := fun p hp => by
 obtain ⟨h1, h2⟩ := l.lkd p hp
 have hne : a ≠ p.1 := fun q => by rw [q, h2] at hlk; cases hlk
 exact ⟨by rw [List.getElem?_set_ne hne]; exact h1, by show isLk ((σ.set a o')[p.1]?) = true; rw [List.getElem?_set_ne hne]; exact h2⟩
theorem Led.upd (l : Led S h₀ L m fs kp os σ h) {a : Nat} {A : Addr} {x x' : Obj} {o' : O} (hlk : isLk (σ.get a) = false) (hnf : S.P.nf ≤ a) (e : os[a]? = some (A, x)) (hs : Heap.SameBut A h h') (hx : h'.get? A = some x') (hr : OR S (adr os) o' x') :
  Led S h₀ L m fs kp (os.set a (A, x')) (σ.put a o') h' := by
 have hA := l.news (A, x) (List.mem_append_right _ (List.mem_of_getElem? e))
 have ad : adr (os.set a (A, x')) = adr os := adr_set e
 have adk : adr (kp ++ os.set a (A, x')) = adr (kp ++ os) := by
  unfold adr at ad ⊢; rw [List.map_append, List.map_append, ad]
 have ndo : (adr os).Nodup := by have := l.nd; rw [adr, List.map_append] at this; exact (List.nodup_append.mp this).2.1
 have apart : ∀ p ∈ kp, p.1 ≠ A := fun p hp q => by
  have := l.nd
  rw [adr, List.map_append] at this
  exact (List.nodup_append.mp this).2.2 p.1 (List.mem_map_of_mem hp) A (List.mem_map.mpr ⟨_, List.mem_of_getElem? e, rfl⟩) q
 refine ⟨l.fr.change hs hA.2.1 hA.2.2, fun p hp => ?_, by rw [adk]; exact l.nd, by rw [ad]; exact l.objs.set hr a, fun f hf => ?_, l.top, by rw [adk]; exact l.big, ⟨prefix_set l.frz.1 (Nat.le_trans l.frz.2 hnf), l.frz.2⟩, l.lkset hlk⟩
 ·rcases List.mem_append.mp hp with hp | hp
  ·have := l.news p (List.mem_append_left _ hp)
   exact ⟨(hs.2 _ (apart p hp)).trans this.1, this.2⟩
  ·rcases mem_set_iff ndo e hp with rfl | ⟨hp, hne⟩
   ·exact ⟨hx, hA.2⟩
   ·have := l.news p (List.mem_append_right _ hp)
    exact ⟨(hs.2 _ hne).trans this.1, this.2⟩
 ·have := l.outs f hf
  have hne : f.1 ≠ A := fun q => this.2.2.2 (q ▸ List.mem_map.mpr ⟨_, List.mem_append_right _ (List.mem_of_getElem? e), rfl⟩)
  exact ⟨this.1.sameBut hs hne, this.2.1, this.2.2.1, by rw [adk]; exact this.2.2.2⟩
theorem adr_new {os : List (Addr × Obj)} {p : Addr × Obj} : adr os <+: adr (os ++ [p]) := by rw [adr, adr, List.map_append]; exact List.prefix_append _ _
theorem Led.free (l : Led S h₀ L m fs kp os σ h) {q : Addr} (hf : h.get? q = none) : q ≠ L ∧ h₀.get? q = none ∧ q ∉ adr (kp ++ os) ∧ ∀ f ∈ fs, f.1 ≠ q := by
 refine ⟨fun e => ?_, ?_, fun hm => ?_, fun f hm e => ?_⟩
 ·obtain ⟨oL, _, _, hL, _⟩ := l.fr.ns
  rw [e, hL] at hf; cases hf
 ·cases e : h₀.get? q with
  | none => rfl
  | some y => rw [l.fr.keep _ _ e] at hf; cases hf
 ·obtain ⟨p, hp, rfl⟩ := List.mem_map.mp hm
  rw [(l.news p hp).1] at hf; cases hf
 ·obtain ⟨oL, _, _, hL, _⟩ := (l.outs f hm).1
  rw [e, hf] at hL; cases hL
theorem Led.lknew (l : Led S h₀ L m fs kp os σ h) {y : Addr × Obj} {o : O} : ∀ p ∈ S.lk, (os ++ [y])[p.1]? = some p.2 ∧ isLk ((σ.push o).get p.1) = true := fun p hp => by
 obtain ⟨h1, h2⟩ := l.lkd p hp
 have hi := (List.getElem?_eq_some_iff.mp h1).1
 have hs : p.1 < σ.length := by rw [l.objs.length]; exact hi
 exact ⟨by rw [List.getElem?_append_left hi]; exact h1, by show isLk ((σ ++ [o])[p.1]?) = true; rw [List.getElem?_append_left hs]; exact h2⟩
theorem Led.new (l : Led S h₀ L m fs kp os σ h) {q : Addr} {x : Obj} {o : O} (k : ∀ b o, h.get? b = some o → h'.get? b = some o) (hf : h.get? q = none) (hq : mainGlobals < q) (hx : h'.get? q = some x) (hr : OR S (adr os) o x) :
  Led S h₀ L m fs kp (os ++ [(q, x)]) (σ.push o) h' := by
 have pf : adr os <+: adr (os ++ [(q, x)]) := adr_new
 obtain ⟨q1, q2, q3, q4⟩ := l.free hf
 have adk : adr (kp ++ (os ++ [(q, x)])) = adr (kp ++ os) ++ [q] := by simp [adr]
 refine ⟨l.fr.keptAll k, fun p hp => ?_, ?_, (l.objs.mono fun _ _ e => e.mono S pf).append (.one (hr.mono S pf)), fun f hf => ?_, l.top, ?_, ⟨l.frz.1.trans (List.prefix_append _ _), l.frz.2⟩, l.lknew⟩
 ·rw [← List.append_assoc] at hp
  rcases List.mem_append.mp hp with hp | hp
  ·exact ⟨k _ _ (l.news p hp).1, (l.news p hp).2⟩
  ·rw [List.mem_singleton.mp hp]
   exact ⟨hx, q1, q2⟩
 ·rw [adk]
  refine List.nodup_append.mpr ⟨l.nd, by simp, fun b hb c hc e => ?_⟩
  rw [List.mem_singleton.mp hc] at e
  exact q3 (e ▸ hb)
 ·have := l.outs f hf
  refine ⟨this.1.keeps k, this.2.1, this.2.2.1, ?_⟩
  rw [adk]
  intro hm
  rcases List.mem_append.mp hm with hm | hm
  ·exact this.2.2.2 hm
  ·exact q4 f hf (List.mem_singleton.mp hm)
 ·rw [adk]
  intro b hb
  rcases List.mem_append.mp hb with hb | hb
  ·exact l.big b hb
  ·rw [List.mem_singleton.mp hb]; exact notMods hq
theorem Led.room (l : Led S h₀ L m fs kp os σ h) : mainGlobals < h.objs.size := let ⟨o, ho⟩ := l.top; Heap.lt_size (l.fr.keep _ _ ho)
theorem Led.len (l : Led S h₀ L m fs kp os σ h) : σ.length = (adr os).length := by simp [adr, l.objs.length]
theorem Led.ref_new (l : Led S h₀ L m fs kp os σ h) {p : Addr × Obj} : VR (adr (os ++ [p])) (.ref σ.length) (.ref p.1) :=
 ⟨p.1, by rw [l.len]; simp [adr], rfl⟩
end
set_option genInjectivity false in
structure Cx where
 A : Around
 env : Env
 h₀ : Heap
 L : Addr
 m : Str → Option Value
 fs : Fs
 kp : List (Addr × Obj)
noncomputable abbrev Cx.led (c : Cx) (os : List (Addr × Obj)) (σ : H) (h : Heap) : Prop := Led S c.h₀ c.L c.m c.fs c.kp os σ h
noncomputable def FlyB (B : Heap) (l : List Env) (a : Addr) (cls : Value) (h : Heap) : Prop :=
 B.StaysIn h ∧ B.get? a = none ∧ h.FunFrames B l ∧ ((∃ a0, h.TracedW B a cls a0) ∨ (∃ oe vs a0, h.get? a = some oe ∧ oe.cls = cls ∧ oe.data = .fields vs ∧ vs[1]? = some .none ∧ vs[0]? = some a0)
 )
noncomputable def Fly (c : Cx) (os : List (Addr × Obj)) (e : Value) (k : Nat) (h : Heap) : Prop :=
 ∃ a C B l, e = .ref a ∧ S.ex k = some C ∧ c.A.frames = some l ∧ FlyB B l a (.ref C) h ∧ c.h₀.StaysIn B ∧ ∀ p ∈ c.kp ++ os, B.get? p.1 = some p.2
noncomputable def SM {α β : Type} (c : Cx) (ρ₀ : List Addr) (RV : List Addr → β → α → Prop) (t : Sem α) (x : X β) : Prop :=
 ∀ (os : List (Addr × Obj)) (σ : H) (s : Shared) (r : R β) (σ' : H), ρ₀ <+: adr os → c.led S os σ s.heap → x σ = some (r, σ') →
  ∀ (Q : α → Shared → Prop) (E : Value → Shared → Prop),
   (match r with
    | .ok b => ∀ os' h' tk a, adr os <+: adr os' → c.led S os' σ' h' → RV (adr os') b a → Q a { s with heap := h', toks := tk }
    | .err k => ∀ os' h' tk e, adr os <+: adr os' → c.led S os' σ' h' → Fly S c os' e k h' → E e { s with heap := h', toks := tk }) →
   wpAny (model S.prog S.w) c.A t Q E s
section
variable {S} {α β γ δ : Type} {c : Cx} {ρ : List Addr} {RV : List Addr → β → α → Prop} {RW : List Addr → δ → γ → Prop}
theorem SM.mono {t : Sem α} {x : X β} {ρ' : List Addr} (h : SM S c ρ RV t x) (k : ρ <+: ρ') : SM S c ρ' RV t x :=
 fun os σ s r σ' hp => h os σ s r σ' (k.trans hp)
theorem SM.pure {a : α} {b : β} (h : ∀ ρ', ρ <+: ρ' → RV ρ' b a) : SM S c ρ RV (Pure.pure a) (X.pure b) := by
 intro os σ s r σ' hp hl hx Q E hQ
 cases hx
 exact wpAny_pure (hQ os s.heap s.toks a (List.prefix_rfl) hl (h _ hp))
theorem SM.bind {t : Sem α} {x : X β} {f : α → Sem γ} {g : β → X δ} (h1 : SM S c ρ RV t x) (h2 : ∀ ρ' b a, ρ <+: ρ' → RV ρ' b a → SM S c ρ' RW (f a) (g b)) : SM S c ρ RW (t >>= f) (X.bind x g) := by
 intro os σ s r σ' hp hl hx Q E hQ
 unfold X.bind at hx
 split at hx
 ·rename_i b σ₁ hb
  refine wpAny_bind (h1 os σ s _ _ hp hl hb _ _ fun os' h' tk a k l' hr => ?_)
  refine h2 _ b a (hp.trans k) hr os' σ₁ { s with heap := h', toks := tk } r σ' (List.prefix_rfl) l' hx Q E ?_
  cases r with
  | ok d => exact fun os'' h'' tk' a' k' l'' hr' => hQ os'' h'' tk' a' (k.trans k') l'' hr'
  | err e => exact fun os'' h'' tk' a' k' l'' hr' => hQ os'' h'' tk' a' (k.trans k') l'' hr'
 ·rename_i k σ₁ hb
  cases hx
  exact wpAny_bind (h1 os σ s _ _ hp hl hb _ _ hQ)
 ·cases hx
theorem SM.hold {t : Sem α} {x : X β} {vs : List Value} (h : SM S c ρ RV t x) : SM S c ρ RV (holding vs t) x :=
 fun os σ s r σ' hp hl hx Q E hQ => wpAny_holding (h os σ s r σ' hp hl hx Q E hQ)
theorem SM.stand {t : Sem α} {x : X β} {p : Pos} (h : SM S c ρ RV t x) : SM S c ρ RV (do standAt p; t) x :=
 fun os σ s r σ' hp hl hx Q E hQ => wpAny_bind (wpAny_standAt (h os σ s r σ' hp hl hx Q E hQ))
theorem SM.eq {t t' : Sem α} {x : X β} (h : SM S c ρ RV t x) (e : t' = t) : SM S c ρ RV t' x := e ▸ h
theorem SM.eqx {t : Sem α} {x x' : X β} (h : SM S c ρ RV t x) (e : x' = x) : SM S c ρ RV t x' := e ▸ h
theorem SM.none {t : Sem α} : SM S c ρ RV t (X.none : X β) := fun _ _ _ _ _ _ _ hx => by cases hx
end
end Mine.Internal
set_option autoImplicit false
namespace Mine.Internal
open PySem PySem.W PySem.Calls PyProof.Rows
variable {S : Sig} {c : Cx} {ρ : List Addr}
theorem get_size (h : Heap) : h.get? h.objs.size = none := by
 cases e : h.get? h.objs.size with
 | none => rfl
 | some o => exact absurd (Heap.lt_size e) (Nat.lt_irrefl _)
theorem Led.pushed {h₀ h : Heap} {L : Addr} {m : Str → Option Value} {fs : Fs} {kp os : List (Addr × Obj)} {σ : H} (l : Led S h₀ L m fs kp os σ h) {x : Obj} {o : O} (hr : OR S (adr os) o x) :
  Led S h₀ L m fs kp (os ++ [(h.objs.size, x)]) (σ.push o) (h.push x) :=
 l.new (fun _ _ e => Heap.get?_push_of_some _ e) (get_size h) l.room (Heap.get?_push_size _ (hr.notFreed S)) hr
theorem getM_inv {P : Prog} {σ : H} {a : Nat} {o : O} (h : σ.getM P a = some o) : σ.get a = some o ∧ P.nf ≤ a := by
 unfold H.getM at h
 split at h
 ·rename_i q; exact ⟨h, q⟩
 ·cases h
theorem dict_of {h : Heap} {A : Addr} {es' : List DictEntry} {n : Nat} {kvs : List (V × Value)} (h1 : h.get? A = some (dictOf es' n)) (k1 : KeysOf (vKind S.prog S.w) es'.toArray) (k2 : Pairs (vKind S.prog S.w) es' kvs)
  (k3 : (kvs.map (·.1)).Nodup) : h.DictOf (vKind S.prog S.w) A kvs := ⟨_, _, n, h1, ⟨rfl, rfl, rfl⟩, rfl, k1, by simpa using k2, k3⟩
theorem of_dict {h : Heap} {A : Addr} {kvs : List (V × Value)} (x : h.DictOf (vKind S.prog S.w) A kvs) :
  ∃ es' n, h.get? A = some (dictOf es' n) ∧ KeysOf (vKind S.prog S.w) es'.toArray ∧ Pairs (vKind S.prog S.w) es' kvs ∧ (kvs.map (·.1)).Nodup := by
 obtain ⟨⟨oc, od, odt, osl⟩, es, n, h1, ⟨c1, c2, c3⟩, hd, k1, k2, k3⟩ := x
 dsimp only at c1 c2 c3 hd
 subst c1 c2 c3 hd
 exact ⟨es.toList, n, by simpa using h1, by simpa using k1, k2, k3⟩
theorem small_bits {i : Int} (h : small i = true) : i.natAbs < 2 ^ 64 := by simpa [small] using h
theorem okS_len {s : Str} (h : okS s = true) : s.length ≤ lim := of_decide_eq_true (Bool.and_eq_true_iff.mp h).1
theorem okS_ok {s : Str} (h : okS s = true) : PyData.strOk s = true := (Bool.and_eq_true_iff.mp h).2
theorem lim_le : lim ≤ sizeLine := by rw [sizeLine_eq]; decide
theorem VR.ne_none {ρ : List Addr} {v : V} {x : Value} (h : VR ρ v x) : (x == Value.none) = decide (v = V.none) := by
 cases v with
 | none => cases h; rfl
 | bool b => cases h; rfl
 | int i => obtain ⟨t, rfl⟩ := h; rfl
 | str s => obtain ⟨t, rfl, _⟩ := h; rfl
 | ref a => obtain ⟨A, _, rfl⟩ := h; rfl
theorem VRs.mono {ρ ρ' : List Addr} (k : ρ <+: ρ') {xs : List V} {vs : List Value} (h : All2 (VR ρ) xs vs) : All2 (VR ρ') xs vs := h.mono fun _ _ e => e.mono k
theorem bits_small {i : Int} (h : small i = true) : Builtin.Int.intBits i ≤ 64 := by
 have h := small_bits h
 unfold Builtin.Int.intBits
 split
 ·lia
 ·rename_i hz
  have hz' : i.natAbs ≠ 0 := by
   intro e; apply hz; simp [Int.natAbs_eq_zero.mp e]
  have := (Nat.log2_lt hz').mpr h
  lia
theorem log2_small {i : Int} (h : small i = true) : i.natAbs.log2 < 9000 := by
 have h := small_bits h
 by_cases hz' : i.natAbs = 0
 ·rw [hz']; decide
 ·have := (Nat.log2_lt hz').mpr h
  lia
theorem twoInts_eq {a b : V} {f : Int → Int → Option (R V × H)} {r : R V × H} (h : twoInts a b f = some r) : ∃ x y, a = .int x ∧ b = .int y ∧ f x y = some r := by
 obtain ⟨x, hx, h1⟩ := onInt_eq h
 obtain ⟨y, hy, h2⟩ := onInt_eq h1
 exact ⟨x, y, hx, hy, h2⟩
theorem sm_binop {op : Operator} {x y : V} {a b : Value} (hx : VR ρ x a) (hy : VR ρ y b) : SM S c ρ VR (binaryOp op a b) (binop op x y) := by
 intro os σ s r σ' hp hl he Q E hQ
 cases op with
 | Add =>
  cases x with
  | int x =>
   have hq := onInt_eq (show onInt y _ = some (r, σ') from he)
   clear he
   obtain ⟨y, rfl, he⟩ := hq
   obtain ⟨t, rfl⟩ := hx; obtain ⟨u, rfl⟩ := hy
   cases he
   exact PySem.P.add_int (hQ os _ _ _ List.prefix_rfl hl ⟨_, rfl⟩)
  | ref x =>
   have hq := onRef_eq (show onRef y _ = some (r, σ') from he)
   clear he
   obtain ⟨y, rfl, he⟩ := hq
   have hq := onL_eq he
   clear he
   obtain ⟨xs, ha, he⟩ := hq
   have hq := onL_eq he
   clear he
   obtain ⟨ys, hb, he⟩ := hq
   obtain ⟨A, o1, rfl, e1, e2, ⟨vs, n, rfl, hvs, _⟩, h1, _⟩ := hl.ref hp ha hx
   obtain ⟨B, o2, rfl, f1, f2, ⟨ws, n', rfl, hws, _⟩, h2, _⟩ := hl.ref hp hb hy
   unfold alloc at he
   split at he
   ·rename_i hk
    cases he
    have hk : (xs ++ ys).length ≤ lim := of_decide_eq_true hk
    refine PySem.P.add_list h1 h2 (hQ (os ++ [(_, _)]) _ s.toks _ adr_new (hl.pushed (o := .list (xs ++ ys)) ?_) (hl.ref_new (p := (_, _)))) ?_
    ·exact ⟨vs ++ ws, 0, by simp, hvs.append hws, hk⟩
    ·rw [List.size_toArray, List.size_toArray, ← hvs.length, ← hws.length, ← List.length_append]; exact Nat.le_trans hk lim_le
   ·cases he
  | _ => cases he
 | Sub =>
  have hq := twoInts_eq (show twoInts x y _ = some (r, σ') from he)
  clear he
  obtain ⟨x, y, rfl, rfl, he⟩ := hq
  obtain ⟨t, rfl⟩ := hx; obtain ⟨u, rfl⟩ := hy
  cases he
  exact PySem.P.sub_int (hQ os _ _ _ List.prefix_rfl hl ⟨_, rfl⟩)
 | FloorDiv =>
  have hq := twoInts_eq (show twoInts x y _ = some (r, σ') from he)
  clear he
  obtain ⟨x, y, rfl, rfl, he⟩ := hq
  obtain ⟨t, rfl⟩ := hx; obtain ⟨u, rfl⟩ := hy
  split at he
  ·cases he
  ·rename_i hy0
   split at he
   ·rename_i hsm
    cases he
    exact floordiv_int hy0 (hQ os _ _ _ List.prefix_rfl hl ⟨_, rfl⟩) (.inl (PyProof.noPylong_of_log2 (log2_small hsm)))
   ·cases he
 | Mod =>
  have hq := twoInts_eq (show twoInts x y _ = some (r, σ') from he)
  clear he
  obtain ⟨x, y, rfl, rfl, he⟩ := hq
  obtain ⟨t, rfl⟩ := hx; obtain ⟨u, rfl⟩ := hy
  split at he
  ·cases he
  ·rename_i hy0
   cases he
   exact mod_int' hy0 (hQ os _ _ _ List.prefix_rfl hl ⟨_, rfl⟩)
 | Mult =>
  have hq := twoInts_eq (show twoInts x y _ = some (r, σ') from he)
  clear he
  obtain ⟨x, y, rfl, rfl, he⟩ := hq
  obtain ⟨t, rfl⟩ := hx; obtain ⟨u, rfl⟩ := hy
  split at he
  ·rename_i hsm
   cases he
   refine PySem.P.mul_int (hQ os _ _ _ List.prefix_rfl hl ⟨_, rfl⟩) ?_
   rcases Bool.or_eq_true_iff.mp hsm with h | h
   ·exact IntMulOk.of_left (bits_small h)
   ·exact IntMulOk.of_right (bits_small h)
  ·cases he
 | _ => cases he
noncomputable abbrev EqR {β : Type} : List Addr → β → β → Prop := fun _ a b => a = b
theorem sm_truth {x : V} {a : Value} (hx : VR ρ x a) : SM S c ρ EqR (truthy a) (truth x) := by
 intro os σ s r σ' hp hl he Q E hQ
 unfold truth at he
 split at he
 ·cases hx; cases he
  exact truthy_none (hQ os _ _ _ List.prefix_rfl hl rfl)
 ·cases hx; cases he
  exact wpAny_truthy_bool (hQ os _ _ _ List.prefix_rfl hl rfl)
 ·obtain ⟨t, rfl⟩ := hx; cases he
  refine PySem.P.truthy_int (hQ os _ _ _ List.prefix_rfl hl ?_)
  show decide _ = _
  rename_i i
  by_cases h : i = 0 <;> simp [h]
 ·obtain ⟨t, rfl, hz⟩ := hx; cases he
  have hz' := okS_len hz
  have : lim < 2 ^ 63 := by decide
  refine PySem.P.truthy_str (by lia) (hQ os _ _ _ List.prefix_rfl hl ?_)
  show decide _ = _
  rename_i st
  by_cases h : st.length = 0
  ·simp [h]
  ·have : ((st.length : Int) != 0) = true := by simp; lia
   rw [this]; simp [h]
 ·split at he
  ·rename_i xs ha
   obtain ⟨A, o1, rfl, e1, e2, ⟨vs, n, rfl, hvs, hz⟩, h1, _⟩ := hl.ref hp ha hx
   cases he
   have : lim < 2 ^ 63 := by decide
   have hlen := hvs.length
   refine wpAny_truthy_list (PySem.IsL.isList (n := n) h1) (by simp; lia) (hQ os _ _ _ List.prefix_rfl hl ?_)
   show (!_) = _
   cases hvs <;> simp
  ·rename_i xs ha
   obtain ⟨A, o1, rfl, e1, e2, ⟨vs, n, rfl, hvs, hz⟩, h1, _⟩ := hl.ref hp ha hx
   cases he
   have : lim < 2 ^ 63 := by decide
   have hlen := hvs.length
   refine truthy_tuple ⟨_, h1, rfl, n, rfl⟩ (by simp; lia) (hQ os _ _ _ List.prefix_rfl hl ?_)
   show (!_) = _
   cases hvs <;> simp
  ·rename_i es ha
   obtain ⟨A, o1, rfl, e1, e2, ⟨es', n, kvs, rfl, k1, k2, k3, k4, hz⟩, h1, hL, hn, hb⟩ := hl.ref hp ha hx
   cases he
   have : lim < 2 ^ 63 := by decide
   have hlen := k4.length
   refine wpAny_truthy_dict hb (knd := vKind S.prog S.w) (kvs := kvs) (dict_of h1 k1 k2 k3) (by lia) (hQ os _ _ _ List.prefix_rfl hl ?_)
   show (!_) = _
   cases k4 <;> simp
  ·cases he
theorem reads_data {h₀ h : Heap} {L : Addr} {m : Str → Option Value} {fs : Fs} {kp os : List (Addr × Obj)} {σ : H} (l : Led S h₀ L m fs kp os σ h) :
  ∀ (n : Nat) (x : V) (d : PyData) (a : Value), dataOf σ n x = some d → VR (adr os) x a → (∃ as, Reads h a d as) ∧ d.canLay0 = true ∧ d.depth ≤ n := by
 intro n
 induction n with
 | zero => intro x d a e; cases e
 | succ n ih =>
  intro x d a e hv
  have all : ∀ (xs : List V) (ds : List PyData) (vs : List Value), optAll (dataOf σ n) xs = some ds → All2 (VR (adr os)) xs vs → (∃ as, ReadsAll h vs ds as) ∧ PyData.canLayAll0 ds = true ∧ PyData.depthAll ds ≤ n := by
   intro xs
   induction xs with
   | nil => intro ds vs e h2; cases e; cases h2; exact ⟨⟨_, .nil⟩, rfl, Nat.zero_le _⟩
   | cons y ys ihy =>
    intro ds vs e h2
    unfold optAll at e
    split at e
    ·rename_i d' ds' e1 e2
     cases e
     cases h2 with
     | cons h1 h2 =>
      obtain ⟨⟨as, r1⟩, c1, p1⟩ := ih _ _ _ e1 h1
      obtain ⟨⟨bs, r2⟩, c2, p2⟩ := ihy _ _ e2 h2
      exact ⟨⟨_, .cons r1 r2⟩, by simp only [PyData.canLayAll0, c1, c2, Bool.and_self], by simp only [PyData.depthAll]; lia⟩
    ·cases e
  unfold dataOf at e
  cases x with
  | none => cases hv; cases e; exact ⟨⟨_, .none⟩, rfl, by simp [PyData.depth]⟩
  | bool b => cases hv; cases e; exact ⟨⟨_, .bool b⟩, rfl, by simp [PyData.depth]⟩
  | int i => obtain ⟨t, rfl⟩ := hv; cases e; exact ⟨⟨_, .int i t⟩, rfl, by simp [PyData.depth]⟩
  | str st => obtain ⟨t, rfl, hk⟩ := hv; cases e; exact ⟨⟨_, .str st t⟩, okS_ok hk, by simp [PyData.depth]⟩
  | ref b =>
   dsimp only at e
   split at e
   ·rename_i xs ha
    obtain ⟨ds, e1, rfl⟩ := Option.map_eq_some_iff.mp e
    obtain ⟨A, o1, rfl, _, _, ⟨vs, k, rfl, hvs, _⟩, h1, _⟩ := l.ref List.prefix_rfl ha hv
    obtain ⟨⟨as, r⟩, c1, p1⟩ := all _ _ _ e1 hvs
    exact ⟨⟨_, .list h1 rfl rfl (by simpa using r)⟩, c1, by simp only [PyData.depth]; lia⟩
   ·rename_i xs ha
    obtain ⟨ds, e1, rfl⟩ := Option.map_eq_some_iff.mp e
    obtain ⟨A, o1, rfl, _, _, ⟨vs, k, rfl, hvs, _⟩, h1, _⟩ := l.ref List.prefix_rfl ha hv
    obtain ⟨⟨as, r⟩, c1, p1⟩ := all _ _ _ e1 hvs
    exact ⟨⟨_, .tuple h1 rfl rfl (by simpa using r)⟩, c1, by simp only [PyData.depth]; lia⟩
   ·cases e
noncomputable def Room (c : Cx) : Prop := c.A.units + 100 < cLine
inductive BindI {α β : Type} (m : X α) (f : α → X β) (σ σ' : H) (r : R β) : Prop
 | ok (a : α) (σ₁ : H) (e1 : m σ = some (.ok a, σ₁)) (e2 : f a σ₁ = some (r, σ')) : BindI m f σ σ' r
 | err (k : Nat) (e1 : m σ = some (.err k, σ')) (e2 : r = .err k) : BindI m f σ σ' r
theorem X.bind_inv {α β : Type} {m : X α} {f : α → X β} {σ σ' : H} {r : R β} (h : X.bind m f σ = some (r, σ')) : BindI m f σ σ' r := by
 unfold X.bind at h
 split at h
 ·rename_i a σ₁ e; exact .ok a σ₁ e h
 ·rename_i k σ₁ e; cases h; exact .err k e rfl
 ·cases h
theorem key_is {ρ : List Addr} {x : V} {a : Value} (h : VR ρ x a) (hk : (isKey x || decide (x = .none)) = true) : keyIs x a = true := by
 cases x with
 | none => cases h; rfl
 | int i => obtain ⟨t, rfl⟩ := h; simp [keyIs, Value.isInt]
 | str st => obtain ⟨t, rfl, _⟩ := h; simp [keyIs, Value.isStrOf]
 | _ => simp [isKey] at hk
theorem valueAt_dget {ρ : List Addr} {es : List (V × V)} {kvs : List (V × Value)} (ha : All2 (PR ρ) es kvs) (k : V) : (valueAt kvs k = none ∧ dget es k = none) ∨ ∃ v x, dget es k = some v ∧ valueAt kvs k = some x ∧ VR ρ v x := by
 induction ha with
 | nil => exact .inl ⟨rfl, rfl⟩
 | @cons kv kx es kvs h hr ih =>
  obtain ⟨k1, v1⟩ := kv
  obtain ⟨k2, x2⟩ := kx
  obtain ⟨h1, h2⟩ := h
  dsimp only at h1 h2
  subst h1
  by_cases hk : k1 = k
  ·exact .inr ⟨v1, x2, by simp [dget, hk], by simp [valueAt, hk], h2⟩
  ·rcases ih with ⟨e1, e2⟩ | ⟨v, x, e1, e2, e3⟩
   ·exact .inl ⟨by simpa [valueAt, List.find?_cons, hk] using e1, by simpa [dget, hk] using e2⟩
   ·exact .inr ⟨v, x, by simpa [dget, hk] using e1, by simpa [valueAt, List.find?_cons, hk] using e2, e3⟩
inductive ConI (σ : H) (x : V) : V → Bool → Prop
 | list (k : Nat) (ys : List V) (d : PyData) (ds : List PyData) (hk : σ.get k = some (.list ys)) (e1 : dataOf σ 5 x = some d) (e2 : optAll (dataOf σ 4) ys = some ds) : ConI σ x (.ref k) (ds.any fun y => PyData.eqv y d)
 | tup (k : Nat) (ys : List V) (d : PyData) (ds : List PyData) (hk : σ.get k = some (.tup ys)) (e1 : dataOf σ 5 x = some d) (e2 : optAll (dataOf σ 4) ys = some ds) : ConI σ x (.ref k) (ds.any fun y => PyData.eqv y d)
 | dict (k : Nat) (es : List (V × V)) (hk : σ.get k = some (.dict es)) (key : (isKey x || decide (x = .none)) = true) : ConI σ x (.ref k) (dget es x).isSome
inductive ConR (σ : H) (x y : V) (r : R Bool) (σ' : H) : Prop
 | mk (q : Bool) (e1 : r = .ok q) (e2 : σ' = σ) (h : ConI σ x y q) : ConR σ x y r σ'
inductive InI (σ : H) (x : V) (ys : List V) (q : Bool) : Prop
 | mk (d : PyData) (ds : List PyData) (e1 : dataOf σ 5 x = some d) (e2 : optAll (dataOf σ 4) ys = some ds) (e : q = ds.any fun y => PyData.eqv y d) : InI σ x ys q
theorem in_inv {σ σ' : H} {x y : V} {ys : List V} {r : R Bool} (h : ((inList σ x ys).map fun b => ((.ok b : R Bool), σ)) = some (r, σ')) (g : ∀ q, InI σ x ys q → ConR σ x y (.ok q) σ) : ConR σ x y r σ' := by
 unfold inList at h
 cases e1 : dataOf σ 5 x with
 | none => rw [e1] at h; cases h
 | some d =>
  cases e2 : optAll (dataOf σ 4) ys with
  | none => rw [e1, e2] at h; cases h
  | some ds => rw [e1, e2] at h; cases h; exact g _ ⟨d, ds, e1, e2, rfl⟩
theorem contains_inv {P : Prog} {ρ : List Addr} {x y : V} {b : Value} {σ σ' : H} {r : R Bool} (hy : VR ρ y b) (h : contains P x y σ = some (r, σ')) : ConR σ x y r σ' := by
 unfold contains at h
 cases y with
 | ref k =>
  dsimp only at h
  cases hk : σ.get k with
  | none => rw [hk] at h; cases h
  | some o =>
   rw [hk] at h
   cases o with
   | list ys => exact in_inv h fun q i => by cases i with | mk d ds e1 e2 e => cases e; exact ⟨_, rfl, rfl, .list k ys d ds hk e1 e2⟩
   | tup ys => exact in_inv h fun q i => by cases i with | mk d ds e1 e2 e => cases e; exact ⟨_, rfl, rfl, .tup k ys d ds hk e1 e2⟩
   | dict es =>
    dsimp only at h
    by_cases key : (isKey x || decide (x = .none)) = true
    ·rw [if_pos key] at h; cases h; exact ⟨_, rfl, rfl, .dict k es hk key⟩
    ·rw [if_neg key] at h; cases h
   | _ => cases h
 | _ => cases h
theorem sm_contains (hr : Room c) {x y : V} {a b : Value} (hx : VR ρ x a) (hy : VR ρ y b) {neg : Bool} :
  SM S c ρ VR (compareOp (if neg then .NotIn else .In) a b) (X.bind (contains S.P x y) fun r => X.pure (.bool (neg ^^ r))) := by
 intro os σ s r σ' hp hl he Q E hQ
 have hx' := hx.mono hp
 have hy' := hy.mono hp
 cases X.bind_inv he with
 | err k e1 e2 => cases contains_inv hy e1 with | mk q f1 f2 i => cases f1
 | ok b' σ₁ e1 e2 =>
  cases contains_inv hy e1 with
  | mk q f1 f2 i =>
   cases f1; cases f2; cases e2
   have fin : ∀ tk, Q (.bool (neg ^^ b')) { s with toks := tk } := fun tk => hQ os _ tk _ List.prefix_rfl hl rfl
   clear hQ he e1
   cases i with
   | list k ys d ds hk e1 e2 =>
    obtain ⟨A, o1, rfl, _, _, ⟨vs, n, rfl, hvs, _⟩, h1, _⟩ := hl.ref hp hk hy
    obtain ⟨⟨as, r1⟩, c1, p1⟩ := reads_data hl _ _ _ _ e1 hx'
    have ed : dataOf σ 5 (.ref k) = some (.list ds) := by unfold dataOf; simp only [hk, e2]; rfl
    obtain ⟨⟨bs, r2⟩, c2, p2⟩ := reads_data hl _ _ _ _ ed hy'
    have hu : c.A.units + 1 + min (PyData.depthAll ds) d.depth < cLine := by unfold Room at hr; have := Nat.min_le_right (PyData.depthAll ds) d.depth; lia
    cases neg with
    | true => exact SeqAt.notIn_list_reads r2 r1 c2 c1 hu (by simpa using fin s.toks)
    | false => exact SeqAt.in_list_reads r2 r1 c2 c1 hu (by simpa using fin s.toks)
   | tup k ys d ds hk e1 e2 =>
    obtain ⟨A, o1, rfl, _, _, ⟨vs, n, rfl, hvs, _⟩, h1, _⟩ := hl.ref hp hk hy
    obtain ⟨⟨as, r1⟩, c1, p1⟩ := reads_data hl _ _ _ _ e1 hx'
    have ed : dataOf σ 5 (.ref k) = some (.tuple ds) := by unfold dataOf; simp only [hk, e2]; rfl
    obtain ⟨⟨bs, r2⟩, c2, p2⟩ := reads_data hl _ _ _ _ ed hy'
    have hu : c.A.units + 1 + min (PyData.depthAll ds) d.depth < cLine := by unfold Room at hr; have := Nat.min_le_right (PyData.depthAll ds) d.depth; lia
    cases neg with
    | true => exact SeqAt.notIn_tuple_reads r2 r1 c2 c1 hu (by simpa using fin s.toks)
    | false => exact SeqAt.in_tuple_reads r2 r1 c2 c1 hu (by simpa using fin s.toks)
   | dict k es hk hkey =>
    obtain ⟨A, o1, rfl, _, _, ⟨es', n, kvs, rfl, k1, k2, k3, k4, hz⟩, h1, hL, hn, hb⟩ := hl.ref hp hk hy
    have hd : s.heap.DictOf (vKind S.prog S.w) A kvs := dict_of h1 k1 k2 k3
    have hq : (valueAt kvs x).isSome = (dget es x).isSome := by rcases valueAt_dget k4 x with ⟨e1, e2⟩ | ⟨v, x, e1, e2, e3⟩ <;> rw [e1, e2] <;> rfl
    cases neg with
    | true => exact wpAny_notIn_of (knd := vKind S.prog S.w) (key_is hx hkey) hb hd.mapOf (by rw [hq]; simpa using fin (s.toks + 1))
    | false => exact wpAny_in_of (knd := vKind S.prog S.w) (key_is hx hkey) hb hd.mapOf (by rw [hq]; simpa using fin (s.toks + 1))
theorem deq_inv {h₀ h : Heap} {L : Addr} {m : Str → Option Value} {fs : Fs} {kp os : List (Addr × Obj)} {σ : H} (hl : Led S h₀ L m fs kp os σ h) {x y : V} {a b : Value} (hx' : VR (adr os) x a) (hy' : VR (adr os) y b) {q : Bool} (he : deq σ x y = some q) :
  ∃ d d2 as bs, Reads h a d as ∧ Reads h b d2 bs ∧ SeqAt.shaped d = true ∧ SeqAt.shaped d2 = true ∧ q = PyData.eqv d d2 := by
 unfold deq at he
 cases e1 : dataOf σ 5 x with
 | none => rw [e1] at he; cases he
 | some d =>
  cases e2 : dataOf σ 5 y with
  | none => rw [e1, e2] at he; cases he
  | some d2 =>
   rw [e1, e2] at he
   cases he
   obtain ⟨⟨as, r1⟩, c1, p1⟩ := reads_data hl _ _ _ _ e1 hx'
   obtain ⟨⟨bs, r2⟩, c2, p2⟩ := reads_data hl _ _ _ _ e2 hy'
   have s1 : SeqAt.shaped d = true := by simp only [SeqAt.shaped, c1, Bool.true_and, decide_eq_true_eq]; lia
   have s2 : SeqAt.shaped d2 = true := by simp only [SeqAt.shaped, c2, Bool.true_and, decide_eq_true_eq]; lia
   exact ⟨d, d2, as, bs, r1, r2, s1, s2, rfl⟩
theorem sm_cmpop (hr : Room c) {op : CmpOp} {x y : V} {a b : Value} (hx : VR ρ x a) (hy : VR ρ y b) : SM S c ρ VR (compareOp op a b) (cmpop S.P op x y) := by
 have hu : c.A.units + 64 < cLine := by unfold Room at hr; lia
 cases op with
 | In =>
  refine (sm_contains (neg := false) hr hx hy).eqx ?_
  funext σ; show X.bind _ _ σ = X.bind _ _ σ; congr 1
  funext b; simp
 | NotIn =>
  refine (sm_contains (neg := true) hr hx hy).eqx ?_
  funext σ; show X.bind _ _ σ = X.bind _ _ σ; congr 1
  funext b; simp
 | Eq =>
  intro os σ s r σ' hp hl he Q E hQ
  obtain ⟨q, e, he⟩ := Option.map_eq_some_iff.mp (show (deq σ x y).map _ = _ from he)
  cases he
  obtain ⟨d, d2, as, bs, r1, r2, s1, s2, rfl⟩ := deq_inv hl (hx.mono hp) (hy.mono hp) e
  exact eq_dataH r1 r2 s1 s2 hu (hQ os _ _ _ List.prefix_rfl hl rfl)
 | NotEq =>
  intro os σ s r σ' hp hl he Q E hQ
  obtain ⟨q, e, he⟩ := Option.map_eq_some_iff.mp (show (deq σ x y).map _ = _ from he)
  cases he
  obtain ⟨d, d2, as, bs, r1, r2, s1, s2, rfl⟩ := deq_inv hl (hx.mono hp) (hy.mono hp) e
  exact ne_dataH r1 r2 s1 s2 hu (hQ os _ _ _ List.prefix_rfl hl rfl)
 | Lt =>
  intro os σ s r σ' hp hl he Q E hQ
  have hq := twoInts_eq (show twoInts x y _ = some (r, σ') from he)
  clear he
  obtain ⟨x, y, rfl, rfl, he⟩ := hq
  obtain ⟨t, rfl⟩ := hx; obtain ⟨u, rfl⟩ := hy
  cases he
  exact PySem.P.lt_int (hQ os _ _ _ List.prefix_rfl hl rfl)
 | LtE =>
  intro os σ s r σ' hp hl he Q E hQ
  have hq := twoInts_eq (show twoInts x y _ = some (r, σ') from he)
  clear he
  obtain ⟨x, y, rfl, rfl, he⟩ := hq
  obtain ⟨t, rfl⟩ := hx; obtain ⟨u, rfl⟩ := hy
  cases he
  exact PySem.P.le_int (hQ os _ _ _ List.prefix_rfl hl rfl)
 | Gt =>
  intro os σ s r σ' hp hl he Q E hQ
  have hq := twoInts_eq (show twoInts x y _ = some (r, σ') from he)
  clear he
  obtain ⟨x, y, rfl, rfl, he⟩ := hq
  obtain ⟨t, rfl⟩ := hx; obtain ⟨u, rfl⟩ := hy
  cases he
  exact PySem.P.gt_int (hQ os _ _ _ List.prefix_rfl hl rfl)
 | GtE =>
  intro os σ s r σ' hp hl he Q E hQ
  have hq := twoInts_eq (show twoInts x y _ = some (r, σ') from he)
  clear he
  obtain ⟨x, y, rfl, rfl, he⟩ := hq
  obtain ⟨t, rfl⟩ := hx; obtain ⟨u, rfl⟩ := hy
  cases he
  exact PySem.P.ge_int (hQ os _ _ _ List.prefix_rfl hl rfl)
 | Is =>
  intro os σ s r σ' hp hl he Q E hQ
  obtain ⟨rfl, he⟩ := onN_eq (show onN y _ = some (r, σ') from he)
  cases hy
  cases he
  refine is_none_gen (hQ os _ _ _ List.prefix_rfl hl ?_)
  rw [hx.ne_none]; rfl
 | IsNot =>
  intro os σ s r σ' hp hl he Q E hQ
  obtain ⟨rfl, he⟩ := onN_eq (show onN y _ = some (r, σ') from he)
  cases hy
  cases he
  refine isnot_none_gen (hQ os _ _ _ List.prefix_rfl hl ?_)
  rw [hx.ne_none]
  show Value.bool _ = Value.bool _
  simp
end Mine.Internal
set_option autoImplicit false
namespace Mine.Internal
open PySem PySem.W PySem.Calls PyProof.Rows
variable {S : Sig} {c : Cx} {ρ : List Addr}
theorem idx_some {i : Int} {n j : Nat} (h : idx i n = some j) : 0 ≤ i ∧ i < n ∧ j = i.toNat := by
 unfold idx at h
 split at h
 ·rename_i hc; cases h; exact ⟨hc.1, hc.2, rfl⟩
 ·cases h
theorem put_at {prog : Program} {w : World} {A : Around} {E : Value → Shared → Prop} {s : Shared} {a : Addr} {vs : Array Value} {n : Nat} {i : Int} {t : Tok} {v : Value} {Q : Unit → Shared → Prop} (ho : s.heap.get? a = some (listOf vs n)) (h0 : 0 ≤ i) (hb : i < 2 ^ 63) (hi : i < vs.size)
  (hQ : Q () { s with heap := s.heap.update a (Obj.mapSeq (·.setIfInBounds i.toNat v)) }) : wpAny (model prog w) A (PySem.setItem (.ref a) (.int i t) v) Q E s := by
 have ty : s.TypeIs (.ref a) "list" := (PySem.IsL.isList (n := n) ho).typeIs
 have fits := fitsIndex_of h0 hb
 clear hb
 unfold PySem.setItem
 try with_reducible refine wpAny_holding ?_
 first | refine wpAny_bind (wpAny_pure ?_) | skip
 refine wpAny_bind (wpAny_sequenceKey ty (by decide) ?_)
 refine wpAny_bind (wpAny_callSpecial?_slot (name := Str.ofString "__setitem__") ty slot_list_setitem (wpAny_call_entry slot_list_setitem ty entry_list_setitem ?_ (args_list_setitem _ _ _)))
 show wpAny _ _ (Builtin.List.listSubscript? (.int i t) >>= _) _ _ s
 refine wpAny_bind (wpAny_listSubscript_int fits ?_)
 clear fits
 obtain ⟨j, rfl⟩ := Int.eq_ofNat_of_zero_le h0
 have there : vs[j]? = some vs[j] := Array.getElem?_eq_getElem (by lia)
 show wpAny _ _ ((seqItemAt a j >>= fun r => pure (r.map (j, ·))) >>= _) _ _ s
 refine wpAny_bind (wpAny_bind (wpAny_seqItemAt ho rfl (wpAny_pure ?_)))
 rw [there]
 show wpAny _ _ (setSeqItemAt a j v >>= _) _ _ s
 refine wpAny_bind (wpAny_setSeqItemAt ho rfl ?_)
 first
  | exact wpAny_pure ⟨.none, rfl, wpAny_pure hQ⟩
  | exact wpAny_bind (wpAny_pure (wpAny_pure ⟨.none, rfl, wpAny_pure hQ⟩))
theorem lim63 : (lim : Int) < 2 ^ 63 := by decide
theorem sm_getItem {value slice : Expr} {x y : V} {a b : Value} (hx : VR ρ x a) (hy : VR ρ y b)
  (hs : ∀ o i, subscripted slice false o i = operate [o, i] (PySem.getItem o i)) : SM S c ρ VR (subscriptTail value slice a b) (getItem S.P x y) := by
 intro os σ s r σ' hp hl he Q E hQ
 unfold getItem at he
 cases x with
 | ref k =>
  dsimp only at he
  cases hk : σ.get k with
  | none => rw [hk] at he; cases he
  | some o =>
   rw [hk] at he
   cases o with
   | list xs =>
    obtain ⟨A, o1, rfl, _, _, ⟨vs, n, rfl, hvs, hz⟩, h1, _⟩ := hl.ref hp hk hx
    cases y with
    | int i =>
     dsimp only at he
     obtain ⟨v, e, he⟩ := Option.map_eq_some_iff.mp he
     cases he
     obtain ⟨j, e1, e2⟩ := Option.bind_eq_some_iff.mp e
     obtain ⟨i0, i1, rfl⟩ := idx_some e1
     obtain ⟨w, hw, hr⟩ := hvs.get e2
     obtain ⟨t, rfl⟩ := hy
     have hL : s.heap.IsList A vs.toArray := PySem.IsL.isList (n := n) h1
     have := lim63
     exact tail_any hL.typeIs slot_list_getitem.lookup (wpAny_getItem_list hL i0 (by lia) (by simpa using hw) (hQ os _ _ _ List.prefix_rfl hl hr)) (hs _ _)
    | _ => cases he
   | tup xs =>
    obtain ⟨A, o1, rfl, _, _, ⟨vs, n, rfl, hvs, hz⟩, h1, _⟩ := hl.ref hp hk hx
    cases y with
    | int i =>
     dsimp only at he
     obtain ⟨v, e, he⟩ := Option.map_eq_some_iff.mp he
     cases he
     obtain ⟨j, e1, e2⟩ := Option.bind_eq_some_iff.mp e
     obtain ⟨i0, i1, rfl⟩ := idx_some e1
     obtain ⟨w, hw, hr⟩ := hvs.get e2
     obtain ⟨t, rfl⟩ := hy
     have hL : IsTup s.heap A vs.toArray := ⟨_, h1, rfl, n, rfl⟩
     have := lim63
     have hlen := hvs.length
     have hj : seqIndex? i vs.length = some i.toNat := by
      have h0 : ¬ i < 0 := by lia
      unfold seqIndex?
      simp only [h0, if_false]
      rw [if_pos (by simp; lia)]
     exact item_tupleT hL (by lia) (by lia) hj hw (hQ os _ _ _ List.prefix_rfl hl hr) (hs _ _)
    | _ => cases he
   | dict es =>
    obtain ⟨A, o1, rfl, _, _, ⟨es', n, kvs, rfl, k1, k2, k3, k4, hz⟩, h1, hL, hn, hb⟩ := hl.ref hp hk hx
    have he : (if isKey y = true then Option.map (fun v => (R.ok v, σ)) (dget es y) else none) = some (r, σ') := by cases y <;> exact he
    split at he
    ·rename_i hkey
     obtain ⟨v, e, he⟩ := Option.map_eq_some_iff.mp he
     cases he
     have hd : s.heap.DictOf (vKind S.prog S.w) A kvs := dict_of h1 k1 k2 k3
     rcases valueAt_dget k4 y with ⟨_, e2⟩ | ⟨v', w, e1, e2, e3⟩
     ·rw [e2] at e; cases e
     ·rw [e] at e1; cases e1
      have hm := hd.mapOf
      exact tail_any hm.typeIs slot_dict_getitem.lookup (wpAny_getItem_of (knd := vKind S.prog S.w) (key_is hy (by rw [hkey]; rfl)) hm e2 (hQ os _ _ _ List.prefix_rfl hl e3)) (hs _ _)
    ·cases he
   | _ => cases y <;> cases he
 | _ => cases he
theorem dset_stored {ρ : List Addr} {k w : V} {x : Value} (hw : VR ρ w x) {es : List (V × V)} {kvs : List (V × Value)} (ha : All2 (PR ρ) es kvs) : (kvs.map (·.1)).Nodup → All2 (PR ρ) (dset es k w) (stored kvs k x) := by
 induction ha with
 | nil =>
  intro _
  simp only [dset, stored, List.any_nil, Bool.false_eq_true, if_false, List.nil_append]
  exact .one ⟨rfl, hw⟩
 | @cons kv kx es kvs h hr ih =>
  obtain ⟨k1, v1⟩ := kv
  obtain ⟨k2, x2⟩ := kx
  obtain ⟨h1, h2⟩ := h
  intro nd
  dsimp only at h1 h2
  subst h1
  rw [List.map_cons, List.nodup_cons] at nd
  by_cases hk : k1 = k
  ·subst hk
   have e : stored ((k1, x2) :: kvs) k1 x = (k1, x) :: kvs := by
    unfold stored
    rw [if_pos (by simp)]
    simp only [List.map_cons, if_true]
    rw [map_store_of_not_mem _ _ _ nd.1]
   rw [e]; simp only [dset, if_true]
   exact .cons ⟨rfl, hw⟩ hr
  ·have ih := ih nd.2
   have e : stored ((k1, x2) :: kvs) k x = (k1, x2) :: stored kvs k x := by
    unfold stored
    simp only [List.any_cons, hk, decide_false, Bool.false_or, List.map_cons, if_false]
    split <;> simp
   rw [e]; simp only [dset, hk, if_false]
   exact .cons ⟨rfl, h2⟩ ih
theorem mapSeq_set {vs : List Value} {n j : Nat} {v : Value} : Obj.mapSeq (·.setIfInBounds j v) (listOf vs.toArray n) = listOf (vs.set j v).toArray n := by
 simp [Obj.mapSeq]
noncomputable abbrev Any {α β : Type} : List Addr → β → α → Prop := fun _ _ _ => True
theorem sm_setItem {x y w : V} {a b v : Value} (hx : VR ρ x a) (hy : VR ρ y b) (hw : VR ρ w v) : SM S c ρ Any (PySem.setItem a b v) (setItem S.P x y w) := by
 intro os σ s r σ' hp hl he Q E hQ
 unfold setItem at he
 cases x with
 | ref k =>
  dsimp only at he
  cases hk : σ.getM S.P k with
  | none => rw [hk] at he; cases he
  | some o =>
   rw [hk] at he
   obtain ⟨hk', hnf⟩ := getM_inv hk
   cases o with
   | list xs =>
    obtain ⟨A, o1, rfl, eA, _, ⟨vs, n, rfl, hvs, hz⟩, h1, _⟩ := hl.ref hp hk' hx
    cases y with
    | int i =>
     dsimp only at he
     obtain ⟨j, e1, he⟩ := Option.map_eq_some_iff.mp he
     cases he
     obtain ⟨i0, i1, rfl⟩ := idx_some e1
     obtain ⟨t, rfl⟩ := hy
     have := lim63
     have hlen := hvs.length
     refine put_at h1 i0 (by lia) (by simp; lia) (hQ (os.set k (A, listOf (vs.set i.toNat v).toArray n)) _ s.toks () ?_ (hl.upd (by rw [hk']; rfl) hnf eA (Heap.SameBut.update ..) ?_ ?_) trivial)
     ·rw [adr_set eA]; exact List.prefix_rfl
     ·rw [← mapSeq_set]; exact Heap.get?_update_self _ h1 rfl
     ·exact ⟨vs.set i.toNat v, n, rfl, hvs.set (hw.mono hp) _, by simpa using hz⟩
    | _ => cases he
   | dict es =>
    obtain ⟨A, o1, rfl, eA, _, ⟨es', n, kvs, rfl, k1, k2, k3, k4, hz⟩, h1, hL, hn, hb⟩ := hl.ref hp hk' hx
    have he : (if isKey y = true then (if okO (.dict (dset es y w)) = true then some (R.ok (), σ.put k (.dict (dset es y w))) else none) else none) = some (r, σ') := by cases y <;> exact he
    split at he
    ·rename_i hkey
     split at he
     ·rename_i hok
      cases he
      have hok : (dset es y w).length ≤ lim := of_decide_eq_true hok
      have hd : s.heap.DictOf (vKind S.prog S.w) A kvs := dict_of h1 k1 k2 k3
      refine wpAny_setItem_pairs (knd := vKind S.prog S.w) (key_is hy (by rw [hkey]; rfl)) hd (fun h' hd' hs' => ?_) ?_
      ·obtain ⟨es'', n', g1, g2, g3, g4⟩ := of_dict hd'
       refine hQ (os.set k (A, dictOf es'' n')) _ _ () ?_ (hl.upd (by rw [hk']; rfl) hnf eA hs' g1 ?_) trivial
       ·rw [adr_set eA]; exact List.prefix_rfl
       ·exact ⟨es'', n', _, rfl, g2, g3, g4, dset_stored (hw.mono hp) k4 k3, hok⟩
      ·have := k4.length; exact Nat.le_trans (by lia) lim_le
     ·cases he
    ·cases he
   | _ => cases y <;> cases he
 | _ => cases he
theorem sm_newList {xs : List V} {vs : List Value} (h : All2 (VR ρ) xs vs) : SM S c ρ VR (newList vs) (alloc (.list xs)) := by
 intro os σ s r σ' hp hl he Q E hQ
 unfold alloc at he
 split at he
 ·rename_i hk
  cases he
  have hk : xs.length ≤ lim := of_decide_eq_true hk
  refine wpAny_newObj_type (hQ (os ++ [(_, listOf vs.toArray 0)]) _ s.toks _ adr_new (hl.pushed (o := .list xs) ⟨vs, 0, rfl, VRs.mono hp h, hk⟩) (hl.ref_new (p := (_, _)))) ?_
  show vs.toArray.size ≤ sizeLine
  rw [List.size_toArray, ← h.length]; exact Nat.le_trans hk lim_le
 ·cases he
theorem sm_newTuple {xs : List V} {vs : List Value} (h : All2 (VR ρ) xs vs) : SM S c ρ VR (newTuple vs) (alloc (.tup xs)) := by
 intro os σ s r σ' hp hl he Q E hQ
 unfold alloc at he
 split at he
 ·rename_i hk
  cases he
  have hk : xs.length ≤ lim := of_decide_eq_true hk
  refine wpAny_newObj_type (hQ (os ++ [(_, tupOf vs.toArray 0)]) _ s.toks _ adr_new (hl.pushed (o := .tup xs) ⟨vs, 0, rfl, VRs.mono hp h, hk⟩) (hl.ref_new (p := (_, _)))) ?_
  show vs.toArray.size ≤ sizeLine
  rw [List.size_toArray, ← h.length]; exact Nat.le_trans hk lim_le
 ·cases he
theorem keysOf_nil : KeysOf (vKind S.prog S.w) (#[] : Array DictEntry) := fun e he => by simp at he
theorem sm_newDict : SM S c ρ VR newDict (alloc (.dict [])) := by
 intro os σ s r σ' hp hl he Q E hQ
 cases he
 unfold newDict
 exact wpAny_newObj_type (hQ (os ++ [(_, dictOf [] 0)]) _ s.toks _ adr_new (hl.pushed (o := .dict []) ⟨[], 0, [], rfl, keysOf_nil, .nil, by simp, .nil, by decide⟩) (hl.ref_new (p := (_, _))))
end Mine.Internal
set_option autoImplicit false
namespace Mine.Internal
open PySem PySem.W PySem.Calls PyProof.Rows
variable {S : Sig} {c : Cx} {ρ : List Addr}
noncomputable def NsObj (o : Obj) (m : Str → Option Value) : Prop := ∃ es ep, o.data = .dict es ep ∧ StrKeys es ∧ ∀ name, nsFind es name = m name
theorem ns_obj {h : Heap} {a : Addr} {m : Str → Option Value} (x : h.Ns a m) : ∃ o, h.get? a = some o ∧ NsObj o m := let ⟨o, es, ep, h1, h2, h3, h4⟩ := x; ⟨o, h1, es, ep, h2, h3, h4⟩
theorem NsObj.ns {h : Heap} {a : Addr} {m : Str → Option Value} {o : Obj} (x : NsObj o m) (e : h.get? a = some o) : h.Ns a m := let ⟨es, ep, h2, h3, h4⟩ := x; ⟨o, es, ep, e, h2, h3, h4⟩
theorem Led.frames {h₀ h : Heap} {L : Addr} {m : Str → Option Value} {fs : Fs} {kp os : List (Addr × Obj)} {σ : H} (l : Led S h₀ L m fs kp os σ h) :
  ∃ F : List (Addr × Obj), (∀ f ∈ fs, ∃ o, (f.1, o) ∈ F ∧ NsObj o f.2) ∧ ∀ p ∈ F, h.get? p.1 = some p.2 ∧ p.1 ≠ L ∧ h₀.get? p.1 = none ∧ p.1 ∉ adr (kp ++ os) := by
 have hO := l.outs
 clear l
 induction fs with
 | nil => exact ⟨[], (fun f hf => (nomatch hf)), (fun p hp => (nomatch hp))⟩
 | cons f fs ih =>
  obtain ⟨F, h1, h2⟩ := ih fun g hg => hO g (.tail _ hg)
  have hf := hO f (.head _)
  obtain ⟨o, ho, hn⟩ := ns_obj hf.1
  refine ⟨(f.1, o) :: F, fun g hg => ?_, fun p hp => ?_⟩
  ·rcases List.mem_cons.mp hg with rfl | hg
   ·exact ⟨o, .head _, hn⟩
   ·obtain ⟨o', h3, h4⟩ := h1 g hg
    exact ⟨o', .tail _ h3, h4⟩
  ·rcases List.mem_cons.mp hp with rfl | hp
   ·exact ⟨ho, hf.2⟩
   ·exact h2 p hp
theorem Led.wide {h₀ h : Heap} {L : Addr} {m : Str → Option Value} {fs : Fs} {kp os : List (Addr × Obj)} {σ : H} (l : Led S h₀ L m fs kp os σ h) :
  ∃ F : List (Addr × Obj), News h₀ L h (kp ++ os ++ F) ∧ (∀ p ∈ F, p.1 ∉ adr (kp ++ os)) ∧ ∀ {h' : Heap} {os' : List (Addr × Obj)} {σ' : H}, Fr h₀ L h' m → News h₀ L h' (kp ++ os' ++ F) → adr os' = adr os → S.fz <+: os' →
   All2 (fun o p => OR S (adr os) o p.2) σ' os' → (∀ p ∈ S.lk, os'[p.1]? = some p.2 ∧ isLk (σ'.get p.1) = true) → Led S h₀ L m fs kp os' σ' h' := by
 obtain ⟨F, h1, h2⟩ := l.frames
 refine ⟨F, fun p hp => ?_, fun p hp => (h2 p hp).2.2.2, fun {h'} {os'} {σ'} fr nw ad fz ob lk => ?_⟩
 ·rcases List.mem_append.mp hp with hp | hp
  ·exact l.news p hp
  ·exact ⟨(h2 p hp).1, (h2 p hp).2.1, (h2 p hp).2.2.1⟩
 ·have adk : adr (kp ++ os') = adr (kp ++ os) := by
   have : os'.map (·.1) = os.map (·.1) := ad
   simp only [adr, List.map_append, this]
  refine ⟨fr, fun p hp => nw p (List.mem_append_left _ hp), by rw [adk]; exact l.nd, by rw [ad]; exact ob, fun f hf => ?_, l.top, by rw [adk]; exact l.big, ⟨fz, l.frz.2⟩, lk⟩
  obtain ⟨o, h3, h4⟩ := h1 f hf
  have := nw _ (List.mem_append_right _ h3)
  exact ⟨h4.ns this.1, this.2.1, this.2.2, by rw [adk]; exact (l.outs f hf).2.2.2⟩
structure AttrOK (S : Sig) (C : Addr) (nm : Str) : Prop where
 g : plainGet S.K C nm = true
 h : hasDictIn S.K C = true
 f : findIn S.K (.ref C) nm = some none
 s : findIn S.K (.ref C) "__setattr__" = some (some (.builtin "object.__setattr__"))
 p : plainOver S.K C = true
 t : takerIn S.K C nm = some none
structure TabOK (S : Sig) : Prop where
 nodup : S.T.Nodup
 attrs : ∀ n ∈ S.P.attrs, ∃ nm, S.T[n]? = some nm ∧ ∀ k C, S.cls k = some C → AttrOK S C nm
theorem T_inj (TV : TabOK S) {i j : Nat} {nm : Str} (h1 : S.T[i]? = some nm) (h2 : S.T[j]? = some nm) : i = j :=
 (List.getElem?_inj (List.getElem?_eq_some_iff.mp h1).1 TV.nodup).mp (h1.trans h2.symm)
theorem attrs_get (TV : TabOK S) {n : Nat} {nm : Str} (hn : S.T[n]? = some nm) {es : List (Nat × V)} {es' : List DictEntry} (ha : All2 (AR S.P.attrs S.T ρ) es es') :
  (aget es n = none ∧ getL nm es' = some none) ∨ ∃ v x, aget es n = some v ∧ getL nm es' = some (some x) ∧ VR ρ v x := by
 induction ha with
 | nil => exact .inl ⟨rfl, rfl⟩
 | @cons kv e es es' h hr ih =>
  obtain ⟨k, v⟩ := kv
  obtain ⟨h1, nm', t, h2, h3, h4⟩ := h
  dsimp only at h1 h2 h4
  have hk : e.key.isStr nm = decide (k = n) := by
   rw [h3]
   show (nm' == nm) = _
   by_cases hkn : k = n
   ·subst hkn; rw [h2] at hn; cases hn; simp
   ·have : nm' ≠ nm := fun q => hkn (T_inj TV h2 (q ▸ hn))
    simp [hkn, this]
  have hrk : e.refKey = false := by unfold DictEntry.refKey; rw [h3]
  by_cases hkn : k = n
  ·refine .inr ⟨v, e.val, by simp [aget, hkn], ?_, h4⟩
   simp [getL, hk, hkn]
  ·rcases ih with ⟨e1, e2⟩ | ⟨v', x, e1, e2, e3⟩
   ·refine .inl ⟨by simpa [aget, hkn] using e1, ?_⟩
    unfold getL at e2 ⊢
    simp only [List.find?_cons, hk, decide_eq_false hkn, List.any_cons, hrk, Bool.false_or]
    exact e2
   ·refine .inr ⟨v', x, by simpa [aget, hkn] using e1, ?_, e3⟩
    unfold getL at e2 ⊢
    simp only [List.find?_cons, hk, decide_eq_false hkn, List.any_cons, hrk, Bool.false_or]
    exact e2
theorem attrs_set (TV : TabOK S) {n : Nat} {nm : Str} {hsh : Int} {t : Tok} {w : V} {x : Value} (hn : S.T[n]? = some nm) (hm : n ∈ S.P.attrs) (hw : VR ρ w x) : ∀ {es : List (Nat × V)} {es' : List DictEntry}, All2 (AR S.P.attrs S.T ρ) es es' →
  All2 (AR S.P.attrs S.T ρ) (aset es n w) (putL nm hsh (.str nm t) x es')
 | _, _, .nil => .one ⟨hm, nm, t, hn, rfl, hw⟩
 | _, _, .cons (a := (k, v)) (b := e) (as := es) (bs := es') ⟨h1, nm', t', h2, h3, h4⟩ hr => by
  dsimp only at h1 h2 h4
  have ih := attrs_set TV (hsh := hsh) (t := t) hn hm hw hr
  have hk : e.key.isStr nm = decide (k = n) := by
   rw [h3]
   show (nm' == nm) = _
   by_cases hkn : k = n
   ·subst hkn; rw [h2] at hn; cases hn; simp
   ·have : nm' ≠ nm := fun q => hkn (T_inj TV h2 (q ▸ hn))
    simp [hkn, this]
  by_cases hkn : k = n
  ·subst hkn
   simp only [aset, if_true, putL, hk, decide_true]
   exact .cons ⟨h1, nm', t', h2, h3, hw⟩ hr
  ·simp only [aset, if_neg hkn, putL, hk, decide_eq_false hkn, Bool.false_eq_true, if_false]
   exact .cons ⟨h1, nm', t', h2, h3, h4⟩ ih
theorem VR.handed {v : V} {x : Value} (h : VR ρ v x) : handedIn x = true := by
 cases v with
 | none => cases h; rfl
 | bool b => cases h; rfl
 | int i => obtain ⟨t, rfl⟩ := h; rfl
 | str s => obtain ⟨t, rfl, _⟩ := h; rfl
 | ref a => obtain ⟨A, _, rfl⟩ := h; rfl
theorem attrs_mem {n : Nat} {v : V} {es : List (Nat × V)} {es' : List DictEntry} (ha : All2 (AR S.P.attrs S.T ρ) es es') (e : aget es n = some v) : n ∈ S.P.attrs := by
 induction ha with
 | nil => cases e
 | @cons kw _ _ _ h hr ih =>
  by_cases q : kw.1 = n
  ·exact q ▸ h.1
  ·exact ih ((if_neg q : aget (kw :: _) n = _).symm.trans e)
theorem upd_split {d : Addr} {o o' : Obj} : ∀ {pre post : List (Addr × Obj)}, (∀ p ∈ pre, p.1 ≠ d) → (∀ p ∈ post, p.1 ≠ d) → Upd d o o' (pre ++ (d, o) :: post) (pre ++ (d, o') :: post)
 | [], _, _, h2 => .head h2
 | p :: _, _, h1, h2 => .tail (h1 p (.head _)) (upd_split (fun q hq => h1 q (.tail _ hq)) h2)
noncomputable def TopIn (S : Sig) (c : Cx) : Prop := S.K.In c.h₀
theorem sm_getAttr (TV : TabOK S) (KX : TopIn S c) {x : V} {a : Value} {n : Nat} {nm : Str} {ex : Bool} (hn : S.T[n]? = some nm) (hx : VR ρ x a) : SM S c ρ VR (PySem.getAttr a nm ex) (getAttr x n) := by
 intro os σ s r σ' hp hl he Q E hQ
 unfold getAttr at he
 cases x with
 | ref k =>
  dsimp only at he
  cases hk : σ.get k with
  | none => rw [hk] at he; cases he
  | some o =>
   rw [hk] at he
   cases o with
   | inst cl d =>
    dsimp only at he
    obtain ⟨A, o1, rfl, _, _, ⟨C, D, hC, hD, rfl⟩, h1, _⟩ := hl.ref hp hk hx
    cases hd : σ.get d with
    | none => rw [hd] at he; cases he
    | some od =>
     rw [hd] at he
     cases od with
     | attrs es =>
      dsimp only at he
      obtain ⟨v, e, he⟩ := Option.map_eq_some_iff.mp he
      cases he
      obtain ⟨D', o2, _, eD, ⟨es', n', rfl, hes, hz⟩, h2, _⟩ := hl.at hd
      rw [hD] at eD; cases eD
      have hm : n ∈ S.P.attrs := attrs_mem hes e
      obtain ⟨nm', hn', hA⟩ := TV.attrs n hm
      rw [hn] at hn'; cases hn'
      have ok := hA _ _ hC
      rcases attrs_get TV hn hes with ⟨e1, _⟩ | ⟨v', w, e1, e2, e3⟩
      ·rw [e1] at e; cases e
      ·rw [e] at e1; cases e1
       have I : InstAt s.heap A ⟨.ref C, some D, .plain, #[]⟩ C (some (dictOf es' n')) := ⟨h1, rfl, rfl, h2⟩
       exact get_own (attr := none) hl.fr KX I ok.g ok.h ok.f rfl e2 e3.handed (hQ os _ _ _ List.prefix_rfl hl e3)
     | _ => cases he
   | _ => cases he
 | _ => cases he
theorem split_at {os : List (Addr × Obj)} {a : Nat} {p : Addr × Obj} (e : os[a]? = some p) : os = os.take a ++ p :: os.drop (a + 1) := by
 have h := (List.getElem?_eq_some_iff.mp e)
 obtain ⟨h1, h2⟩ := h
 rw [← h2, List.getElem_cons_drop, List.take_append_drop]
theorem nodup_split {pre post : List (Addr × Obj)} {D : Addr} {x : Obj} (h : (adr (pre ++ (D, x) :: post)).Nodup) : (∀ p ∈ pre, p.1 ≠ D) ∧ ∀ p ∈ post, p.1 ≠ D := by
 rw [adr, List.map_append, List.map_cons] at h
 obtain ⟨h1, h2, h3⟩ := List.nodup_append.mp h
 refine ⟨fun p hp q => h3 p.1 (List.mem_map_of_mem hp) D (.head _) q, fun p hp q => ?_⟩
 exact (List.nodup_cons.mp h2).1 (List.mem_map.mpr ⟨p, hp, q⟩)
theorem set_split {os : List (Addr × Obj)} {a : Nat} {p q : Addr × Obj} (e : os[a]? = some p) : os.set a q = os.take a ++ q :: os.drop (a + 1) := by
 rw [List.set_eq_take_append_cons_drop, if_pos (List.getElem?_eq_some_iff.mp e).1]
theorem sm_setAttr (TV : TabOK S) (KX : TopIn S c) {x w : V} {a v : Value} {n : Nat} {nm : Str} (hn : S.T[n]? = some nm) (hx : VR ρ x a) (hw : VR ρ w v) : SM S c ρ Any (PySem.setAttr a nm v) (setAttr S.P x n w) := by
 intro os σ s r σ' hp hl he Q E hQ
 unfold setAttr at he
 cases x with
 | ref k =>
  dsimp only at he
  cases hk : σ.get k with
  | none => rw [hk] at he; cases he
  | some o =>
   rw [hk] at he
   cases o with
   | inst cl d =>
    dsimp only at he
    obtain ⟨A, o1, rfl, _, _, ⟨C, D, hC, hD, rfl⟩, h1, _⟩ := hl.ref hp hk hx
    cases hd : σ.getM S.P d with
    | none => rw [hd] at he; cases he
    | some od =>
     rw [hd] at he
     obtain ⟨hd', hnf⟩ := getM_inv hd
     cases od with
     | attrs es =>
      dsimp only at he
      split at he
      ·rename_i hmem
       cases he
       have hm : n ∈ S.P.attrs := by simpa using (Bool.and_eq_true_iff.mp hmem).1
       obtain ⟨D', o2, eD', eD, ⟨es', n', rfl, hes, hz⟩, h2, hDL, _⟩ := hl.at hd'
       rw [hD] at eD; cases eD
       obtain ⟨nm', hn', hA⟩ := TV.attrs n hm
       rw [hn] at hn'; cases hn'
       have ok := hA _ _ hC
       have I : InstAt s.heap A ⟨.ref C, some D, .plain, #[]⟩ C (some (dictOf es' n')) := ⟨h1, rfl, rfl, h2⟩
       obtain ⟨F, N, NF, back⟩ := hl.wide
       have hlk : (getL nm es').isSome = true := by rcases attrs_get TV hn hes with ⟨_, e2⟩ | ⟨v', w, _, e2, _⟩ <;> rw [e2] <;> rfl
       have hlen := hes.length
       have hmem' := Bool.and_eq_true_iff.mp hmem
       have hz' : (aset es n w).length ≤ 100 := of_decide_eq_true hmem'.2
       have hset := attrs_set TV (hsh := PyData.keyHash S.w.params nm) (t := s.toks + 1) hn hm (hw.mono hp) hes
       have hlen' := hset.length
       have hsp : ∀ q : Obj, c.kp ++ os.set d (D, q) ++ F = (c.kp ++ os.take d) ++ (D, q) :: (os.drop (d + 1) ++ F) := fun q => by
        rw [set_split eD']; simp
       have hsp0 : c.kp ++ os ++ F = (c.kp ++ os.take d) ++ (D, dictOf es' n') :: (os.drop (d + 1) ++ F) := by
        conv => lhs; rw [split_at eD']
        simp
       have nd := hl.nd
       rw [split_at eD', ← List.append_assoc] at nd
       obtain ⟨nd1, nd2⟩ := nodup_split nd
       have hDm : D ∈ adr (c.kp ++ os) := List.mem_map.mpr ⟨_, List.mem_append_right _ (List.mem_of_getElem? eD'), rfl⟩
       have U : Upd D (dictOf es' n') (dictOf (putL nm (PyData.keyHash S.w.params nm) (.str nm (s.toks + 1)) v es') (putN nm es' n')) (c.kp ++ os ++ F) (c.kp ++ os.set d (D, dictOf (putL nm (PyData.keyHash S.w.params nm) (.str nm (s.toks + 1)) v es') (putN nm es' n')) ++ F) := by
        rw [hsp, hsp0]
        refine upd_split nd1 fun p hp => ?_
        rcases List.mem_append.mp hp with hp | hp
        ·exact nd2 p hp
        ·exact fun q => NF p hp (q ▸ hDm)
       refine set_dict hl.fr KX N I rfl ok.s ok.p ok.t ok.h hlk rfl U (by lia) fun h' F' N' => ?_
       refine hQ _ _ _ () ?_ (back F' N' (adr_set eD') (prefix_set hl.frz.1 (Nat.le_trans hl.frz.2 hnf)) (hl.objs.set (a := .attrs (aset es n w)) (b := (D, dictOf (putL nm (PyData.keyHash S.w.params nm) (.str nm (s.toks + 1)) v es') (putN nm es' n'))) ⟨_, _, rfl, hset, hz'⟩ d) (hl.lkset (by rw [hd']; rfl))) trivial
       rw [adr_set eD']; exact List.prefix_rfl
      ·cases he
     | _ => cases he
   | _ => cases he
 | _ => cases he
end Mine.Internal
set_option autoImplicit false
namespace Mine.Internal
open PySem PySem.W PySem.Calls PyProof.Rows
variable {S : Sig} {c : Cx} {ρ : List Addr}
theorem vr_ints {ρ : List Addr} {vs : List Value} {ns : List Int} (h : IntsAre vs ns) : All2 (VR ρ) (ns.map V.int) vs := by
 induction h with
 | nil => exact .nil
 | cons n t h ih => exact .cons ⟨t, rfl⟩ ih
theorem intsOf_length : ∀ {xs : List V} {ns : List Int}, intsOf xs = some ns → ns.length = xs.length
 | [], _, e => by cases e; rfl
 | x :: xs, ns, e => by
  cases x with
  | int i =>
   simp only [intsOf] at e
   obtain ⟨ms, e1, rfl⟩ := Option.map_eq_some_iff.mp e
   simp [intsOf_length e1]
  | _ => cases e
noncomputable def biVal : Bi → Value
 | .len => .builtin "len"
 | .sorted => .builtin "sorted"
 | .list => .type "list"
 | .range => .type "range"
 | .min => .builtin "min"
theorem sort_new {A : Around} {E : Value → Shared → Prop} {s : Shared} {vs : List Value} {ns : List Int} {Q : Value → Shared → Prop} (hI : IntsAre vs ns) (h64 : vs.length < 64)
  (h : ∀ h' (out : List Value) n, (∀ b o, s.heap.get? b = some o → h'.get? b = some o) → h'.get? s.heap.objs.size = some (W.listOf out.toArray n) → IntsAre out (sortI ns) → Q (.ref s.heap.objs.size) { s with heap := h' }) :
  wpAny (model S.prog S.w) A (call (.builtin "list.sort") [.ref s.heap.objs.size]) (fun _ s' => Q (.ref s.heap.objs.size) s') E { s with heap := s.heap.push (W.listOf vs.toArray 0) } := by
 have hoL : (s.heap.push (W.listOf vs.toArray 0)).get? s.heap.objs.size = some (seqObj "list" vs.toArray 0) := Heap.get?_push_size _ rfl
 refine wpAny_call_entry slot_list_sort ⟨_, hoL, rfl⟩ entry_list_sort (list_sort_tree hoL hI h64 fun out ns' a1 a2 a3 => ⟨_, rfl, ?_⟩) (args_list_sort _)
 have e : ns' = sortI ns := sorted_unique (a2.trans (sortI_perm ns).symm) a3 (sortI_sorted ns)
 subst e
 obtain ⟨n, hn⟩ := sortedHeap_at (h := s.heap.push (W.listOf vs.toArray 0)) (out := out) hoL
 refine h _ out.toList n (fun b o hb => ?_) (by simpa using hn) a1
 have hlt := Heap.lt_size hb
 rw [sortedHeap_old (Nat.ne_of_lt hlt) (by rw [Heap.size_push]; exact Nat.lt_succ_of_lt hlt)]
 exact Heap.get?_push_of_some _ hb
theorem dict_hint {prog : Program} {w : World} {A : Around} {E : Value → Shared → Prop} {s : Shared} {d : Addr} {Q : Bool → Shared → Prop} (ty : s.TypeIs (.ref d) "dict") (h : Q false s) : wpAny (model prog w) A (Builtin.List.listLengthHint (.ref d)) Q E s := by
 unfold Builtin.List.listLengthHint
 refine wpAny_bind (wpAny_specialOf ty PySem.F.slot_dict_len.lookup ?_)
 generalize hid : ("dict.__len__" : String) = id0
 wp_delta
 rw [show splitId id0 = some ("dict", "__len__") from by subst hid; decide +kernel]
 subst hid
 refine wpAny_bind (wpAny_isInstance (T := "dict") (b := true) ty (by rw [isSubtype_type]; kernel_rfl) ?_)
 refine wpAny_ite_split (fun q => absurd q (by decide)) fun _ => ?_
 refine wpAny_ite_split (fun _ => wpAny_bind (wpAny_typeOf ty (wpAny_pure h))) fun q => absurd (by decide +kernel) q
theorem gather_dict {prog : Program} {w : World} {K : Type} [DecidableEq K] {knd : KeyKind prog w K} {A : Around} {E : Value → Shared → Prop} {s : Shared} {d : Addr} {kvs : List (K × Value)} {ep : Nat} {R : List Value → Shared → Prop} (lo : (d == sysModules) = false) (hh : A.handled = none) (hat : s.heap.DictAt knd d kvs ep) (hn : kvs.length ≤ sizeLine)
  (h : ∀ (h' : Heap) (tk : Nat) (acc : Array Value), (∀ b o, s.heap.get? b = some o → h'.get? b = some o) → ItemsOf (fun i v => ∃ k x, kvs[i]? = some (k, x) ∧ knd.is k v = true) acc kvs.length → R acc.toList { s with heap := h', toks := tk }) :
  wpAny (model prog w) A (collect (.ref d)) R E s := by
 have old : d < s.heap.objs.size := hat.lt_size
 unfold collect
 refine wpAny_bind (wpAny_runValue (codeAny_builtin entry_proto_collect' ?_))
 rw [Around.under_plainId PySem.F.plain_proto_collect _]
 show wpAny _ A.in1 (newList [] >>= fun l => again (.builtin "list.__iadd__" ⟨[l, .ref d], []⟩)) _ _ s
 refine wpAny_bind (wpAny_newObj_type ?_)
 refine wpAny_pure ⟨plainId_quiet PySem.F.plain_list_iadd _, codeAny_builtin entry_list_iadd' ?_⟩
 rw [Around.under_plainId PySem.F.plain_list_iadd _]
 generalize hN : s.heap.objs.size = N
 have hN1 : (s.heap.push { cls := .type "list", data := .seq ([] : List Value).toArray }).get? N = some { cls := .type "list", data := .seq #[] } := by rw [← hN]; exact Heap.get?_push_size _ rfl
 have keep1 : ∀ b o, s.heap.get? b = some o → (s.heap.push { cls := .type "list", data := .seq ([] : List Value).toArray }).get? b = some o := fun b o e => Heap.get?_push_of_some _ e
 have hat1 := hat.push { cls := .type "list", data := .seq ([] : List Value).toArray }
 generalize s.heap.push { cls := .type "list", data := .seq ([] : List Value).toArray } = g1 at *
 show wpAny _ A.in1 (Builtin.List.listExtendWith (.ref N) (.ref d) (.ref N)) _ _ _
 have hdN : N ≠ d := hN ▸ Nat.ne_of_gt old
 unfold Builtin.List.listExtendWith
 refine wpAny_bind (wpAny_typeOf (T := "dict") (s := { s with heap := g1 }) hat1.dictOf.typeIs ?_)
 have h1 : Builtin.List.listSameRef (.ref N) (.ref d) = false := by simp [Builtin.List.listSameRef, hdN]
 have n1 : (Value.type "dict" == Value.type "list") = false := by decide
 have n2 : (Value.type "dict" == Value.type "tuple") = false := by decide
 simp only [h1, n1, n2, Bool.or_false, Bool.false_eq_true, if_false]
 refine wpAny_bind (wpAny_pyIter_dict (s := { s with heap := g1 }) lo hat1 ?_)
 generalize hI : g1.objs.size = I
 have hIN : N ≠ I := hI ▸ Nat.ne_of_lt (Heap.lt_size hN1)
 have hId : d ≠ I := hI ▸ Nat.ne_of_lt hat1.lt_size
 have W := Walks.dictKeys (prog := prog) (w := w) (A := A.in1) (knd := knd) hh I d hId kvs ep
 have hN2 := Heap.get?_push_of_some { cls := .type "dict_keyiterator", data := .fields #[.ref d, .int 0 0, .int kvs.length 0, .int ep 0] } hN1
 have hat2 := hat1.push { cls := .type "dict_keyiterator", data := .fields #[.ref d, .int 0 0, .int kvs.length 0, .int ep 0] }
 have st2 : (g1.push { cls := .type "dict_keyiterator", data := .fields #[.ref d, .int 0 0, .int kvs.length 0, .int ep 0] }).IsKeyIter I d 0 kvs.length ep := ⟨_, by rw [← hI]; exact Heap.get?_push_size _ rfl, rfl, rfl⟩
 have keep2 : ∀ b o, g1.get? b = some o → (g1.push { cls := .type "dict_keyiterator", data := .fields #[.ref d, .int 0 0, .int kvs.length 0, .int ep 0] }).get? b = some o := fun b o e => Heap.get?_push_of_some _ e
 generalize g1.push { cls := .type "dict_keyiterator", data := .fields #[.ref d, .int 0 0, .int kvs.length 0, .int ep 0] } = g2 at *
 have hNf : N ∉ [I, d] := by simp only [List.mem_cons, List.not_mem_nil, or_false, not_or]; exact ⟨hIN, hdN⟩
 have loop : ∀ (R' : Result → Shared → Prop) (g : Heap) (c₁ tk : Nat), (∀ (h' : Heap) (tk : Nat) (acc : Array Value) (c' : Nat), (∀ b o, s.heap.get? b = some o → h'.get? b = some o) → h'.get? N = some { cls := .type "list", dict := none, data := .seq acc c', slots := #[] } → ItemsOf (fun i v => ∃ k x, kvs[i]? = some (k, x) ∧ knd.is k v = true) acc kvs.length → R' (.ok (.ret (.ref N))) { s with heap := h', toks := tk }) →
   g.IsKeyIter I d 0 kvs.length ep → g.DictAt knd d kvs ep → (∀ b o, b ≠ N → g2.get? b = some o → g.get? b = some o) → g.get? N = some { cls := .type "list", data := .seq #[] c₁ } →
   codeAny (model prog w) A (.builtin "list.extend.loop" ⟨[.ref N, .ref I, .ref N], []⟩) R' { s with heap := g, toks := tk } := by
  intro R' g c₁ tk hR i1 i2 kg gN
  refine codeAny_extend_loopS W.toS hn N hNf (.ref N) kvs.length 0 _ #[] c₁ rfl (Nat.zero_le _) ⟨i1, i2⟩ gN (ItemsOf.nil _) fun s' acc c' hm hS' hacc => ?_
  rw [Moved.eq_with hm]
  refine hR s'.heap s'.toks acc c' (fun b o e => hm.heap b o (fun hmem => ?_) (kg b o (fun q => ?_) (keep2 b o (keep1 b o e)))) hS' hacc
  ·rcases List.mem_cons.mp hmem with q | hmem
   ·exact absurd (Heap.lt_size e) (by rw [hN, q]; exact Nat.lt_irrefl _)
   ·exact absurd (Heap.lt_size (keep1 b o e)) (by rw [hI, List.mem_singleton.mp hmem]; exact Nat.lt_irrefl _)
  ·exact absurd (Heap.lt_size e) (by rw [hN, q]; exact Nat.lt_irrefl _)
 refine wpAny_bind (wpAny_holding (dict_hint (s := { s with heap := g2 }) hat2.dictOf.typeIs ?_))
 refine wpAny_ite_split (fun _ => ?_) fun _ => wpAny_pure ⟨plainId_quiet PySem.F.plain_extend_loop _, loop _ g2 0 s.toks (fun h' tk acc c' hk hS' hacc => ?_) st2 hat2 (fun _ _ _ e => e) hN2⟩
 ·refine wpAny_bind (wpAny_rule (wpAny_bind ?_))
  show wpAny _ _ (updateSeq N (·.push .none) >>= fun _ => updateSeq N (·.pop)) _ _ _
  refine wpAny_bind (wpAny_updateSeq hN2 rfl ?_)
  have hN3 := Heap.get?_update_self (Obj.mapSeq (·.push Value.none)) hN2 rfl
  refine wpAny_updateSeq (hz := by seq_fits) hN3 rfl ?_
  have hN4 := Heap.get?_update_self (Obj.mapSeq (·.pop)) hN3 rfl
  have kp4 : ∀ b o, b ≠ N → g2.get? b = some o → ((g2.update N (Obj.mapSeq (·.push Value.none))).update N (Obj.mapSeq (·.pop))).get? b = some o := fun b o hb e => (Heap.get?_update_other _ _ (Ne.symm hb)).trans ((Heap.get?_update_other _ _ (Ne.symm hb)).trans e)
  refine wpAny_pure ⟨plainId_quiet PySem.F.plain_extend_loop _, loop _ _ _ s.toks (fun h' tk acc c' hk hS' hacc => ?_) ?_ ?_ kp4 hN4⟩
  ·show wpAny _ A (load N >>= _) _ _ _
   exact wpAny_bind (wpAny_load hS' (wpAny_pure (h h' tk acc hk hacc)))
  ·exact st2.at fun o e => kp4 I o (Ne.symm hIN) e
  ·exact hat2.at' fun o e => kp4 d o (Ne.symm hdN) e
 ·show wpAny _ A (load N >>= _) _ _ _
  exact wpAny_bind (wpAny_load hS' (wpAny_pure (h h' tk acc hk hacc)))
theorem sorted_by {A : Around} {E : Value → Shared → Prop} {s : Shared} {r : Addr} {Q : Value → Shared → Prop}
  (hc : ∀ R : List Value → Shared → Prop, (∀ h' tk vs, (∀ b o, s.heap.get? b = some o → h'.get? b = some o) → (∃ ns, IntsAre vs ns ∧ vs.length < 64 ∧ ∀ h'' out n, (∀ b o, h'.get? b = some o → h''.get? b = some o) → h''.get? h'.objs.size = some (W.listOf (List.toArray out) n) → IntsAre out (sortI ns) → Q (.ref h'.objs.size) { s with heap := h'', toks := tk }) → R vs { s with heap := h', toks := tk }) → wpAny (model S.prog S.w) A.in1 (collect (.ref r)) R (fun e s' => E e s') s) :
  wpAny (model S.prog S.w) A (call (.builtin "sorted") [.ref r]) Q E s := by
 refine call_function_entry kind_sorted plain_sorted entry_sorted (args_sorted1 _) ?_
 unfold Builtin.«sorted»
 refine wpAny_bind (m := checkCount "sorted" 1 1 _) (wpAny_pure ?_)
 refine wpAny_bind (hc _ fun h' tk vs hk hv => ?_)
 obtain ⟨ns, hI, h64, hq⟩ := hv
 refine wpAny_bind (wpAny_newList ?_ (by rw [sizeLine_eq]; lia))
 refine wpAny_bind (wpAny_holding (wpAny_mono (sort_new (s := { s with heap := h', toks := tk }) (Q := Q) hI h64 fun h'' out n k1 k2 k3 => hq h'' out n k1 k2 k3) (fun _ s' x => ?_) fun _ _ e => e))
 exact wpAny_pure ⟨_, rfl, x⟩
theorem All2.inv1 {α β : Type} {R : α → β → Prop} {a : α} {bs : List β} (h : All2 R [a] bs) : ∃ b, bs = [b] ∧ R a b := by
 cases h with
 | cons h1 h2 => cases h2; exact ⟨_, rfl, h1⟩
theorem All2.inv2 {α β : Type} {R : α → β → Prop} {a a' : α} {bs : List β} (h : All2 R [a, a'] bs) : ∃ b b', bs = [b, b'] ∧ R a b ∧ R a' b' := by
 cases h with
 | cons h1 h2 => obtain ⟨b', rfl, h3⟩ := h2.inv1; exact ⟨_, _, rfl, h1, h3⟩
theorem All2.inv3 {α β : Type} {R : α → β → Prop} {a a' a'' : α} {bs : List β} (h : All2 R [a, a', a''] bs) : ∃ b b' b'', bs = [b, b', b''] ∧ R a b ∧ R a' b' ∧ R a'' b'' := by
 cases h with
 | cons h1 h2 => obtain ⟨b', b'', rfl, h3, h4⟩ := h2.inv2; exact ⟨_, _, _, rfl, h1, h3, h4⟩
theorem sortI_length (l : List Int) : (sortI l).length = l.length := (sortI_perm l).length_eq
theorem Led.keepNew {h₀ h h' h'' : Heap} {L : Addr} {m : Str → Option Value} {fs : Fs} {kp os : List (Addr × Obj)} {σ : H} (l : Led S h₀ L m fs kp os σ h) {x : Obj} {o : O} (k1 : ∀ b o, h.get? b = some o → h'.get? b = some o)
  (k2 : ∀ b o, h'.get? b = some o → h''.get? b = some o) (hx : h''.get? h'.objs.size = some x) (hr : OR S (adr os) o x) : Led S h₀ L m fs kp (os ++ [(h'.objs.size, x)]) (σ.push o) h'' :=
 (l.keep k1).new k2 (get_size h') (l.keep k1).room hx hr
theorem keys_ints {ρ : List Addr} {es : List (V × V)} {kvs : List (V × Value)} (ha : All2 (PR ρ) es kvs) : ∀ {vs : List Value} {ns : List Int}, vs.length = kvs.length → (∀ (j : Nat) v, vs[j]? = some v → ∃ k x, kvs[j]? = some (k, x) ∧ keyIs k v = true) →
  intsOf (es.map (·.1)) = some ns → IntsAre vs ns := by
 induction ha with
 | nil => intro vs ns hl _ e; cases e; cases vs with | nil => exact .nil | cons _ _ => simp at hl
 | @cons kv kx es kvs h hr ih =>
  obtain ⟨k1, v1⟩ := kv
  obtain ⟨k2, x2⟩ := kx
  intro vs ns hl hk e
  obtain ⟨h1, _⟩ := h
  dsimp only at h1
  subst h1
  cases vs with
  | nil => simp at hl
  | cons v vs =>
   simp only [List.map_cons] at e
   cases k1 with
   | int i =>
    simp only [intsOf] at e
    obtain ⟨ms, e1, rfl⟩ := Option.map_eq_some_iff.mp e
    obtain ⟨k, x, h2, h3⟩ := hk 0 v rfl
    simp only [List.getElem?_cons_zero, Option.some.injEq, Prod.mk.injEq] at h2
    obtain ⟨rfl, rfl⟩ := h2
    obtain ⟨t, rfl⟩ := keyIs_int h3
    exact .cons _ _ (ih (by simpa using hl) (fun j w hw => hk (j + 1) w (by simpa using hw)) e1)
   | _ => cases e
theorem sortedI_eq {o : Option (List Int)} {h : H} {r : R V × H} (e : sortedI o h = some r) : ∃ ns, o = some ns ∧ ns.length < 64 ∧ r = (.ok (.ref h.length), h.push (.list ((sortI ns).map .int))) := by
 cases o with
 | none => cases e
 | some ns =>
  have e : (if ns.length < 64 then some (R.ok (V.ref h.length), h.push (.list ((sortI ns).map .int))) else none) = some r := e
  split at e
  ·rename_i h64; cases e; exact ⟨ns, rfl, h64, rfl⟩
  ·cases e
theorem sm_sorted (hh : c.A.handled = none) {x : V} {v : Value} (hv : VR ρ x v) : SM S c ρ VR (call (.builtin "sorted") [v]) (biSorted x) := by
 intro os σ s r σ' hp hl he Q E hQ
 have hq := onRef_eq he
 clear he
 obtain ⟨a, rfl, he⟩ := hq
 split at he
 ·rename_i es ha
  obtain ⟨A, o1, rfl, _, _, ⟨es', n, kvs, rfl, k1, k2, k3, k4, hz⟩, h1, hL, hn, hb⟩ := hl.ref hp ha hv
  obtain ⟨ns, hns, h64, e⟩ := sortedI_eq he
  cases e
  have hlen := k4.length
  have hlen2 := intsOf_length hns
  rw [List.length_map] at hlen2
  have hat : s.heap.DictAt (vKind S.prog S.w) A kvs n := ⟨_, _, h1, ⟨rfl, rfl, rfl⟩, rfl, k1, by simpa using k2, k3⟩
  refine sorted_by fun R hR => gather_dict (knd := vKind S.prog S.w) (kvs := kvs) (ep := n) hb hh hat (by rw [sizeLine_eq]; lia) fun h' tk acc hk hacc => hR h' tk acc.toList hk ⟨ns, ?_, ?_, fun h'' out n' k1 k2 k3 => ?_⟩
  ·exact keys_ints k4 (by rw [Array.length_toList]; exact hacc.1) (fun j v e => hacc.2 j v (by rw [← Array.getElem?_toList]; exact e)) hns
  ·have := hacc.1; rw [Array.length_toList]; lia
  ·exact hQ (os ++ [(_, _)]) _ _ _ adr_new (hl.keepNew (o := .list ((sortI ns).map .int)) hk k1 k2 ⟨out, n', rfl, vr_ints k3, by rw [List.length_map, sortI_length]; unfold lim; lia⟩) (hl.ref_new (p := (_, _)))
 ·cases he
theorem sm_biLen {x : V} {v : Value} (hv : VR ρ x v) : SM S c ρ VR (call (.builtin "len") [v]) (biLen x) := by
 intro os σ s r σ' hp hl he Q E hQ
 have h63 := lim63
 cases x with
 | ref a =>
  unfold biLen at he
  dsimp only at he
  split at he
  ·rename_i xs' ha
   obtain ⟨A, o1, rfl, _, _, ⟨vs, n, rfl, hvs, hz⟩, h1, _⟩ := hl.ref hp ha hv
   cases he
   have hlen := hvs.length
   exact call_len_list (PySem.IsL.isList (n := n) h1) (by simp; lia) (hQ os _ _ _ List.prefix_rfl hl ⟨s.toks + 1, by rw [List.size_toArray, ← hlen]⟩)
  ·rename_i xs' ha
   obtain ⟨A, o1, rfl, _, _, ⟨vs, n, rfl, hvs, hz⟩, h1, _⟩ := hl.ref hp ha hv
   cases he
   have hlen := hvs.length
   exact PySem.P.len_tuple h1 (by simp; lia) (hQ os _ _ _ List.prefix_rfl hl ⟨s.toks + 1, by rw [List.size_toArray, ← hlen]⟩)
  ·rename_i es ha
   obtain ⟨A, o1, rfl, _, _, ⟨es', n, kvs, rfl, k1, k2, k3, k4, hz⟩, h1, hL, hn, hb⟩ := hl.ref hp ha hv
   cases he
   have hlen := k4.length
   exact call_len_dict (knd := vKind S.prog S.w) hb (dict_of h1 k1 k2 k3) (by lia) (hQ os _ _ _ List.prefix_rfl hl ⟨s.toks + 1, by rw [hlen]⟩)
  ·cases he
 | _ => cases he
theorem sm_biList {x : V} {v : Value} (hv : VR ρ x v) : SM S c ρ VR (call (.type "list") [v]) (biList x) := by
 intro os σ s r σ' hp hl he Q E hQ
 have hq := onRef_eq he
 clear he
 obtain ⟨a, rfl, he⟩ := hq
 split at he
 ·rename_i xs' ha
  obtain ⟨A, o1, rfl, _, _, ⟨vs, n, rfl, hvs, hz⟩, h1, _⟩ := hl.ref hp ha hv
  unfold alloc at he
  split at he
  ·rename_i hk
   cases he
   have hlen := hvs.length
   exact call_list_seq A (.inl rfl) h1 rfl rfl (fun h' c' k1 k2 => hQ (os ++ [(_, _)]) _ _ _ adr_new (hl.keepNew (o := .list xs') (fun _ _ e => e) k1 k2 ⟨vs, c', rfl, hvs, hz⟩) (hl.ref_new (p := (_, _)))) (by rw [List.size_toArray, ← hlen]; exact Nat.le_trans hz lim_le)
  ·cases he
 ·rename_i xs' ha
  obtain ⟨A, o1, rfl, _, _, ⟨vs, n, rfl, hvs, hz⟩, h1, _⟩ := hl.ref hp ha hv
  unfold alloc at he
  split at he
  ·rename_i hk
   cases he
   have hlen := hvs.length
   exact call_list_seq A (.inr rfl) h1 rfl rfl (fun h' c' k1 k2 => hQ (os ++ [(_, _)]) _ _ _ adr_new (hl.keepNew (o := .list xs') (fun _ _ e => e) k1 k2 ⟨vs, c', rfl, hvs, hz⟩) (hl.ref_new (p := (_, _)))) (by rw [List.size_toArray, ← hlen]; exact Nat.le_trans hz lim_le)
  ·cases he
 ·cases he
theorem sm_biRange {xs : List V} {vs : List Value} (h : All2 (VR ρ) xs vs) : SM S c ρ VR (call (.type "range") vs) (biRange xs) := by
 intro os σ s r σ' hp hl he Q E hQ
 match xs, h, he with
 | [x], h, he =>
  have hq := onInt_eq (show onInt x _ = some (r, σ') from he)
  clear he
  obtain ⟨n, rfl, he⟩ := hq
  obtain ⟨v, rfl, t, rfl⟩ := h.inv1
  cases he
  exact call_range_1 (hQ (os ++ [(_, _)]) _ _ _ adr_new (hl.pushed (o := .rng 0 _ 1) ⟨_, _, _, rfl⟩) (hl.ref_new (p := (_, _))))
 | [x, y, z], h, he =>
  have hq := twoInts_eq (show twoInts x y _ = some (r, σ') from he)
  clear he
  obtain ⟨m, n, rfl, rfl, he⟩ := hq
  have hq := onInt_eq he
  clear he
  obtain ⟨k, rfl, he⟩ := hq
  obtain ⟨v, v', v'', rfl, ⟨t, rfl⟩, ⟨t', rfl⟩, ⟨t'', rfl⟩⟩ := h.inv3
  split at he
  ·cases he
  ·rename_i hc0
   split at he
   ·rename_i hsm
    cases he
    exact call_range_3 hc0 (hQ (os ++ [(_, _)]) _ _ _ adr_new (hl.pushed (o := .rng _ _ _) ⟨_, _, _, rfl⟩) (hl.ref_new (p := (_, _)))) (.inl (PyProof.noPylong_of_log2 (log2_small hsm)))
   ·cases he
 | [], _, he => cases he
 | _ :: _ :: _ :: _ :: _, _, he => cases he
theorem sm_one {xs : List V} {vs : List Value} {f : Value} {g : V → X V} (h : All2 (VR ρ) xs vs) (hg : ∀ x v, VR ρ x v → SM S c ρ VR (call f [v]) (g x)) : SM S c ρ VR (call f vs) (fun σ => on1 xs fun x => g x σ) := by
 intro os σ s r σ' hp hl he Q E hQ
 have hq := on1_eq he
 clear he
 obtain ⟨x, rfl, he⟩ := hq
 obtain ⟨v, rfl, hv⟩ := h.inv1
 exact hg x v hv os σ s r σ' hp hl he Q E hQ
theorem sm_builtin (hh : c.A.handled = none) {b : Bi} {xs : List V} {vs : List Value} (h : All2 (VR ρ) xs vs) : SM S c ρ VR (call (biVal b) vs) (builtin b xs) := by
 cases b with
 | len => exact sm_one h fun x v hv => sm_biLen hv
 | sorted => exact sm_one h fun x v hv => sm_sorted hh hv
 | list => exact sm_one h fun x v hv => sm_biList hv
 | range => exact sm_biRange h
 | min =>
  intro os σ s r σ' hp hl he Q E hQ
  have hq := on2_eq he
  clear he
  obtain ⟨x, y, rfl, he⟩ := hq
  have hq := twoInts_eq he
  clear he
  obtain ⟨m, n, rfl, rfl, he⟩ := hq
  obtain ⟨v, v', rfl, ⟨t, rfl⟩, ⟨t', rfl⟩⟩ := h.inv2
  cases he
  refine min_two_ints hh fun h' tk hk => hQ os _ _ _ List.prefix_rfl (hl.keep hk) ?_
  split <;> exact ⟨_, rfl⟩
end Mine.Internal
set_option autoImplicit false
namespace Mine.Internal
open PySem PySem.W PySem.Calls PyProof.Rows
variable {S : Sig} {c : Cx} {ρ : List Addr}
noncomputable def clsName : Nat → String
 | 0 => "int"
 | 1 => "bool"
 | 2 => "list"
 | 3 => "tuple"
 | _ => "str"
inductive I4 : Nat → Prop
 | a : I4 0
 | b : I4 1
 | c : I4 2
 | d : I4 3
 | e : I4 4
theorem le4 {k : Nat} (h : k ≤ isB) : I4 k := match k, h with
 | 0, _ => .a
 | 1, _ => .b
 | 2, _ => .c
 | 3, _ => .d
 | 4, _ => .e
inductive IsV (h : H) : V → (Nat → Bool) → Prop
 | none : IsV h .none fun _ => false
 | bool (b : Bool) : IsV h (.bool b) fun c => c == idBool || c == idInt
 | int (i : Int) : IsV h (.int i) fun c => c == idInt
 | str (s : Str) : IsV h (.str s) fun c => c == idStr
 | list (a : Nat) (xs : List V) (e : h.get a = some (.list xs)) : IsV h (.ref a) fun c => c == idList
 | tup (a : Nat) (xs : List V) (e : h.get a = some (.tup xs)) : IsV h (.ref a) fun c => c == idTuple
inductive IsR (h : H) (x : V) (k : Nat) (r : R Bool) (h' : H) : Prop
 | mk (f : Nat → Bool) (i : IsV h x f) (e1 : r = .ok (f k)) (e2 : h' = h) : IsR h x k r h'
theorem isinst_inv {P : Prog} {x : V} {k : Nat} {σ σ' : H} {r : R Bool} (h : isinst P x k σ = some (r, σ')) : IsR σ x k r σ' := by
 unfold isinst at h
 cases x with
 | none => cases h; exact ⟨_, .none, rfl, rfl⟩
 | bool b => cases h; exact ⟨_, .bool b, rfl, rfl⟩
 | int i => cases h; exact ⟨_, .int i, rfl, rfl⟩
 | str s => cases h; exact ⟨_, .str s, rfl, rfl⟩
 | ref a =>
  dsimp only at h
  cases ha : σ.get a with
  | none => rw [ha] at h; cases h
  | some o =>
   rw [ha] at h
   cases o with
   | list xs => cases h; exact ⟨_, .list a xs ha, rfl, rfl⟩
   | tup xs => cases h; exact ⟨_, .tup a xs ha, rfl, rfl⟩
   | _ => cases h
theorem sm_isi {k : Nat} {x : V} {v : Value} (hv : VR ρ x v) (hk : k ≤ isB) : SM S c ρ VR (call (.builtin "isinstance") [v, .type (clsName k)]) (X.bind (isinsts S.P x [k]) fun b => X.pure (.bool b)) := by
 intro os σ s r σ' hp hl he Q E hQ
 have hi : isinsts S.P x [k] = isinst S.P x k := if_pos hk
 rw [hi] at he
 cases X.bind_inv he with
 | err k' e1 e2 => cases isinst_inv e1 with | mk f i f1 f2 => cases f1
 | ok b' σ₁ e1 e2 =>
  cases isinst_inv e1 with
  | mk f i f1 f2 =>
   cases f1; cases f2; cases e2
   have fin : ∀ tk, Q (.bool (f k)) { s with toks := tk } := fun tk => hQ os _ tk _ List.prefix_rfl hl rfl
   clear hQ he e1 hi
   cases i with
   | none =>
    cases hv
    cases le4 hk with
    | a => exact IsiPair.NoneType_int (fin _)
    | b => exact IsiPair.NoneType_bool (fin _)
    | c => exact IsiPair.NoneType_list (fin _)
    | d => exact IsiPair.NoneType_tuple (fin _)
    | e => exact IsiPair.NoneType_str (fin _)
   | bool b =>
    cases hv
    cases le4 hk with
    | a => exact IsiPair.bool_int (fin _)
    | b => exact IsiPair.bool_bool (fin _)
    | c => exact IsiPair.bool_list (fin _)
    | d => exact IsiPair.bool_tuple (fin _)
    | e => exact IsiPair.bool_str (fin _)
   | int i =>
    obtain ⟨t, rfl⟩ := hv
    cases le4 hk with
    | a => exact IsiPair.int_int (fin _)
    | b => exact IsiPair.int_bool (fin _)
    | c => exact IsiPair.int_list (fin _)
    | d => exact IsiPair.int_tuple (fin _)
    | e => exact IsiPair.int_str (fin _)
   | str st =>
    obtain ⟨t, rfl, _⟩ := hv
    cases le4 hk with
    | a => exact IsiPair.str_int (fin _)
    | b => exact IsiPair.str_bool (fin _)
    | c => exact IsiPair.str_list (fin _)
    | d => exact IsiPair.str_tuple (fin _)
    | e => exact IsiPair.str_str (fin _)
   | list a xs ha =>
    obtain ⟨A, o1, rfl, _, _, ⟨vs, n, rfl, hvs, hz⟩, h1, _⟩ := hl.ref hp ha hv
    cases le4 hk with
    | a => exact IsiPair.list_int h1 rfl (fin _)
    | b => exact IsiPair.list_bool h1 rfl (fin _)
    | c => exact IsiPair.list_list h1 rfl (fin _)
    | d => exact IsiPair.list_tuple h1 rfl (fin _)
    | e => exact IsiPair.list_str h1 rfl (fin _)
   | tup a xs ha =>
    obtain ⟨A, o1, rfl, _, _, ⟨vs, n, rfl, hvs, hz⟩, h1, _⟩ := hl.ref hp ha hv
    cases le4 hk with
    | a => exact IsiPair.tuple_int h1 rfl (fin _)
    | b => exact IsiPair.tuple_bool h1 rfl (fin _)
    | c => exact IsiPair.tuple_list h1 rfl (fin _)
    | d => exact IsiPair.tuple_tuple h1 rfl (fin _)
    | e => exact IsiPair.tuple_str h1 rfl (fin _)
theorem cut_eq {α : Type} (l : List α) (a b : Nat) : cut l a b = (l.drop a).take (b - a) := by
 unfold cut; rw [List.drop_take]
theorem part_of {ρ : List Addr} {v : V} {x : Value} {n d a : Nat} (h : VR ρ v x) (e : clip v n d = some a) : ∃ p, IsPart x p ∧ (p = none ∧ a = d ∨ ∃ i : Int, p = some i ∧ a = if 0 ≤ i then min i.toNat n else (i + n).toNat) := by
 cases v with
 | none => cases h; cases e; exact ⟨_, .none, .inl ⟨rfl, rfl⟩⟩
 | int i => obtain ⟨t, rfl⟩ := h; cases e; exact ⟨_, .int i t, .inr ⟨i, rfl, rfl⟩⟩
 | _ => cases e
theorem pick_cut {vs : List Value} {lo hi : Option Int} {a b : Nat} (ha : lo = none ∧ a = 0 ∨ ∃ i : Int, lo = some i ∧ a = if 0 ≤ i then min i.toNat vs.length else (i + vs.length).toNat)
  (hb : hi = none ∧ b = vs.length ∨ ∃ i : Int, hi = some i ∧ b = if 0 ≤ i then min i.toNat vs.length else (i + vs.length).toNat) : slicePick vs.toArray lo hi none = (cut vs a b).toArray := by
 have e : sliceBounds lo hi none vs.toArray.size = ((a : Int), (b : Int), 1) := by
  simp only [sliceBounds, Option.getD_none, show (1 : Int) > 0 by decide, if_true, List.size_toArray]
  rcases ha with ⟨rfl, rfl⟩ | ⟨i, rfl, rfl⟩ <;> rcases hb with ⟨rfl, rfl⟩ | ⟨j, rfl, rfl⟩ <;> dsimp only
  ·rfl
  ·congr 2
   split <;> split <;> lia
  ·congr 1
   split <;> split <;> lia
  ·congr 1
   ·split <;> split <;> lia
   ·congr 1
    split <;> split <;> lia
 rw [cut_eq]
 unfold slicePick
 rw [e]
 simp only [sliceRange_one, pick_run]
theorem cut_le {α : Type} {xs : List α} {p q : Nat} : (cut xs p q).length ≤ xs.length := by
 unfold cut
 rw [List.length_drop]
 exact Nat.le_trans (Nat.sub_le _ _) (by rw [List.length_take]; exact Nat.min_le_right _ _)
theorem sm_slice {value slice : Expr} {x lo hi : V} {a l u : Value} (hx : VR ρ x a) (hlo : VR ρ lo l) (hhi : VR ρ hi u)
  (hs : ∀ o i, subscripted slice false o i = operate [i, o] (PySem.getItem o i)) {os : List (Addr × Obj)} {σ σ' : H} {s : Shared} {r : R V} (hp : ρ <+: adr os) (hl : c.led S os σ s.heap) (he : getSlice x lo hi σ = some (r, σ')) {Q : Value → Shared → Prop} {E : Value → Shared → Prop}
  (hQ : ∀ b, r = .ok b → ∀ os' h' tk a, adr os <+: adr os' → c.led S os' σ' h' → VR (adr os') b a → Q a { s with heap := h', toks := tk }) :
  wpAny (model S.prog S.w) c.A (newFields "slice" [l, u, .none]) (fun i s' => wpAny (model S.prog S.w) c.A (subscriptTail value slice a i) Q E s') E s := by
 unfold getSlice at he
 cases x with
 | ref k =>
  dsimp only at he
  cases hk : σ.get k with
  | none => rw [hk] at he; cases he
  | some o =>
   rw [hk] at he
   cases o with
   | list xs =>
    dsimp only at he
    obtain ⟨A, o1, rfl, _, _, ⟨vs, n, rfl, hvs, hz⟩, h1, _⟩ := hl.ref hp hk hx
    split at he
    ·rename_i p q e1 e2
     cases he
     obtain ⟨p1, pp, hp1⟩ := part_of hlo e1
     obtain ⟨q1, qq, hq1⟩ := part_of hhi e2
     have hlen := hvs.length
     rw [hlen] at hp1 hq1
     refine wpAny_newObj_type ?_
     have k1 : ∀ b o, s.heap.get? b = some o → (s.heap.push { cls := .type "slice", data := .fields #[l, u, .none] }).get? b = some o := fun b o e => Heap.get?_push_of_some _ e
     have hL : (s.heap.push { cls := .type "slice", data := .fields #[l, u, .none] }).IsList A vs.toArray := PySem.IsL.isList (n := n) (k1 _ _ h1)
     have hL' : Shared.TypeIs { s with heap := s.heap.push { cls := .type "slice", data := .fields #[l, u, .none] } } (.ref A) "list" := ⟨_, k1 _ _ h1, rfl⟩
     refine tail_any hL' slot_list_getitem.lookup (wpAny_getItem_list_slice hL (Heap.IsSliceOf.new ..) pp qq .none (by simp) ?_ (by rw [List.size_toArray, ← hlen]; exact Nat.le_trans hz lim_le)) (hs _ _)
     rw [pick_cut hp1 hq1]
     refine hQ _ rfl (os ++ [(_, _)]) _ _ _ adr_new ((hl.keep k1).pushed (o := .list (cut xs p q)) ⟨cut vs p q, 0, rfl, (hvs.take _).drop _, ?_⟩) (hl.ref_new (p := (_, _)))
     exact Nat.le_trans cut_le hz
    ·cases he
   | _ => cases he
 | _ => cases he
end Mine.Internal
set_option autoImplicit false
namespace Mine.Internal
open PySem PySem.W PySem.Calls PyProof.Rows
variable {S : Sig} {c : Cx} {ρ : List Addr}
noncomputable abbrev VRs : List Addr → List V → List Value → Prop := fun ρ => All2 (VR ρ)
theorem mapSeq_of {vs ws : List Value} {n : Nat} {f : Array Value → Array Value} (e : f vs.toArray = ws.toArray) : ∃ n', Obj.mapSeq f (W.listOf vs.toArray n) = W.listOf ws.toArray n' := by
 refine ⟨if ws.toArray.size == vs.toArray.size then n else n + 1, ?_⟩
 simp only [Obj.mapSeq, W.listOf]
 rw [e]
theorem sm_append {x : V} {a : Value} {xs : List V} {vs : List Value} (hx : VR ρ x a) (hs : All2 (VR ρ) xs vs) : SM S c ρ VR (call (.builtin "list.append") (a :: vs)) (listMeth S.P x idAppend xs) := by
 intro os σ s r σ' hp hl he Q E hQ
 unfold listMeth at he
 split at he
 ·rename_i k
  split at he
  ·rename_i ys hk
   obtain ⟨hk, hnf⟩ := getM_inv hk
   rw [if_pos rfl] at he
   split at he
   ·obtain ⟨v, rfl, hv⟩ := hs.inv1
    obtain ⟨A, o1, rfl, eA, _, ⟨ws, n, rfl, hws, hz⟩, h1, _⟩ := hl.ref hp hk hx
    unfold grow at he
    split at he
    ·rename_i hok
     cases he
     have hok : (ys ++ [_]).length ≤ lim := of_decide_eq_true hok
     have hlen := hws.length
     refine append_at h1 (fun h' hs' ho' => hQ (os.set k (A, _)) _ _ _ ?_ (hl.upd (by rw [hk]; rfl) hnf eA hs' ho' ?_) rfl) (by rw [List.size_toArray, ← hlen]; exact Nat.le_trans hz lim_le)
     ·rw [adr_set eA]; exact List.prefix_rfl
     ·exact ⟨ws ++ [v], n + 1, by simp, hws.append (.one (hv.mono hp)), hok⟩
    ·cases he
   ·cases he
  ·cases he
 ·cases he
theorem sm_pop {x : V} {a : Value} {xs : List V} {vs : List Value} (hx : VR ρ x a) (hs : All2 (VR ρ) xs vs) : SM S c ρ VR (call (.builtin "list.pop") (a :: vs)) (listMeth S.P x idPop xs) := by
 intro os σ s r σ' hp hl he Q E hQ
 unfold listMeth at he
 split at he
 ·rename_i k
  split at he
  ·rename_i ys hk
   obtain ⟨hk, hnf⟩ := getM_inv hk
   rw [if_neg (by decide), if_pos rfl] at he
   split at he
   ·cases hs
    obtain ⟨A, o1, rfl, eA, _, ⟨ws, n, rfl, hws, hz⟩, h1, _⟩ := hl.ref hp hk hx
    split at he
    ·rename_i v hv
     cases he
     have hlen := hws.length
     have hv' : ys[ys.length - 1]? = some v := by rw [← List.getLast?_eq_getElem?]; exact hv
     obtain ⟨w, hw, hr⟩ := hws.get hv'
     rw [hlen] at hw
     have e1 : (fun xs : Array Value => xs.eraseIdxIfInBounds (ws.toArray.size - 1)) ws.toArray = ws.dropLast.toArray := by
      have hne : ws.length - 1 + 1 = ws.length := by have := (List.getElem?_eq_some_iff.mp hw).1; lia
      simp only [List.size_toArray, List.eraseIdxIfInBounds_toArray]
      congr 1
      exact List.eraseIdx_eq_dropLast hne
     obtain ⟨n', hn'⟩ := mapSeq_of (vs := ws) (ws := ws.dropLast) (n := n) (f := fun xs : Array Value => xs.eraseIdxIfInBounds (ws.toArray.size - 1)) e1
     refine call_meets F.slot_list_pop ⟨_, h1, rfl⟩ F.entry_list_pop (F.args_list_pop_1 _) (MeetsSeq.list_pop_last A ws.toArray n w (by simpa using hw) (by rw [List.size_toArray, ← hlen]; exact Nat.le_trans hz lim_le)) ⟨h1, hQ (os.set k (A, W.listOf ws.dropLast.toArray n')) _ _ _ ?_ (hl.upd (by rw [hk]; rfl) hnf eA (Heap.SameBut.update ..) ?_ ?_) ?_⟩
     ·rw [adr_set eA]; exact List.prefix_rfl
     ·rw [← hn']; exact Heap.get?_update_self _ h1 rfl
     ·refine ⟨_, _, rfl, ?_, by rw [List.length_dropLast]; lia⟩
      rw [List.dropLast_eq_take, List.dropLast_eq_take, ← hlen]; exact hws.take _
     ·rw [adr_set eA]; exact hr
    ·cases he
   ·cases he
  ·cases he
 ·cases he
theorem sm_clear {x : V} {a : Value} {xs : List V} {vs : List Value} (hx : VR ρ x a) (hs : All2 (VR ρ) xs vs) : SM S c ρ VR (call (.builtin "list.clear") (a :: vs)) (listMeth S.P x idClear xs) := by
 intro os σ s r σ' hp hl he Q E hQ
 unfold listMeth at he
 split at he
 ·rename_i k
  split at he
  ·rename_i ys hk
   obtain ⟨hk, hnf⟩ := getM_inv hk
   rw [if_neg (by decide), if_neg (by decide), if_pos rfl] at he
   split at he
   ·cases hs
    obtain ⟨A, o1, rfl, eA, _, ⟨ws, n, rfl, hws, hz⟩, h1, _⟩ := hl.ref hp hk hx
    cases he
    have hlen := hws.length
    obtain ⟨n', hn'⟩ := mapSeq_of (vs := ws) (ws := []) (n := n) (f := fun _ => #[]) rfl
    refine call_meets F.slot_list_clear ⟨_, h1, rfl⟩ F.entry_list_clear (F.args_list_clear_1 _) (AutoSeq1.list_clear_list_0 A ws.toArray n (by rw [List.size_toArray, ← hlen]; exact Nat.le_trans hz lim_le)) ⟨h1, hQ (os.set k (A, W.listOf [].toArray n')) _ _ _ ?_ (hl.upd (by rw [hk]; rfl) hnf eA (Heap.SameBut.update ..) ?_ ?_) rfl⟩
    ·rw [adr_set eA]; exact List.prefix_rfl
    ·rw [← hn']; exact Heap.get?_update_self _ h1 rfl
    ·exact ⟨_, _, rfl, .nil, by simp⟩
   ·cases he
  ·cases he
 ·cases he
theorem ddel_without {ρ : List Addr} {k : V} {es : List (V × V)} {kvs : List (V × Value)} (ha : All2 (PR ρ) es kvs) : (kvs.map (·.1)).Nodup → All2 (PR ρ) (ddel es k) (without kvs k) := by
 induction ha with
 | nil => exact fun _ => .nil
 | @cons kv kx es kvs h hr ih =>
  obtain ⟨k1, v1⟩ := kv
  obtain ⟨k2, x2⟩ := kx
  obtain ⟨h1, h2⟩ := h
  intro nd
  dsimp only at h1 h2
  subst h1
  rw [List.map_cons, List.nodup_cons] at nd
  by_cases hk : k1 = k
  ·subst hk
   have : without ((k1, x2) :: kvs) k1 = kvs := by
    simp only [without, List.filter_cons, ne_eq, not_true_eq_false, decide_false, Bool.false_eq_true, if_false]
    exact without_of_not_mem kvs _ nd.1
   rw [this]; simp only [ddel, if_true]; exact hr
  ·have : without ((k1, x2) :: kvs) k = (k1, x2) :: without kvs k := by simp only [without, List.filter_cons, ne_eq, hk, not_false_eq_true, decide_true, if_true]
   rw [this]; simp only [ddel, hk, if_false]
   exact .cons ⟨rfl, h2⟩ (ih nd.2)
theorem ddel_length (es : List (V × V)) (k : V) : (ddel es k).length ≤ es.length := by
 induction es with
 | nil => simp [ddel]
 | cons p r ih => obtain ⟨a, b⟩ := p; simp only [ddel]; split <;> simp; exact ih
theorem keyPart_key {k : V} {v : Value} (h : keyIs k v = true) : (keyPart v).isSome = true := by
 cases keyIs_shape h <;> rfl
theorem sm_dpop {x : V} {a : Value} {xs : List V} {vs : List Value} (hx : VR ρ x a) (hs : All2 (VR ρ) xs vs) : SM S c ρ VR (call (.builtin "dict.pop") (a :: vs)) (dictMeth S.P x idPop xs) := by
 intro os σ s r σ' hp hl he Q E hQ
 unfold dictMeth at he
 split at he
 ·rename_i k
  split at he
  ·rename_i es hk
   obtain ⟨hk, hnf⟩ := getM_inv hk
   rw [if_pos rfl] at he
   obtain ⟨A, o1, rfl, eA, _, ⟨es', n, kvs, rfl, k1, k2, k3, k4, hz⟩, h1, hL, hn, hb⟩ := hl.ref hp hk hx
   have hd : s.heap.DictOf (vKind S.prog S.w) A kvs := dict_of h1 k1 k2 k3
   have hlen := k4.length
   have hsz : kvs.length ≤ sizeLine := by rw [← hlen]; exact Nat.le_trans hz lim_le
   have there : ∀ {y : V} {key : Value} {w : V} {rest : List Value}, VR ρ y key → isKey y = true → dget es y = some w → (rest = [] ∨ ∃ d, rest = [d]) → argsOk "dict.pop" ⟨.ref A :: key :: rest, []⟩ →
     (∀ os' h' tk a, adr os <+: adr os' → c.led S os' (σ.put k (.dict (ddel es y))) h' → VR (adr os') w a → Q a { s with heap := h', toks := tk }) → wpAny (model S.prog S.w) c.A (call (.builtin "dict.pop") (.ref A :: key :: rest)) Q E s := by
    intro y key w rest hy hkey hw hrest hargs hq
    have hki := key_is hy (by rw [hkey]; rfl)
    rcases valueAt_dget k4 y with ⟨_, e2⟩ | ⟨v', x', e1, e2, e3⟩
    ·rw [e2] at hw; cases hw
    ·rw [hw] at e1; cases e1
     refine call_meetsIn F.slot_dict_pop hd.typeIs F.entry_dict_pop hargs (meets_dict_pop_there (vKind S.prog S.w) A hki rest hrest (keyPart_key hki)) ⟨kvs, x', hd, hsz, e2, fun h' hd' hs' => ?_⟩
     obtain ⟨es'', n', g1, g2, g3, g4⟩ := of_dict hd'
     refine hq (os.set k (A, dictOf es'' n')) _ _ _ ?_ (hl.upd (by rw [hk]; rfl) hnf eA hs' g1 ?_) ?_
     ·rw [adr_set eA]; exact List.prefix_rfl
     ·exact ⟨es'', n', _, rfl, g2, g3, g4, ddel_without k4 k3, Nat.le_trans (ddel_length ..) hz⟩
     ·rw [adr_set eA]; exact e3
   split at he
   ·obtain ⟨key, rfl, hkey⟩ := hs.inv1
    split at he
    ·rename_i hik
     split at he
     ·rename_i w hw
      cases he
      exact there hkey hik hw (.inl rfl) (F.args_dict_pop_2 _ _) hQ
     ·cases he
    ·cases he
   ·obtain ⟨key, dv, rfl, hkey, hdv⟩ := hs.inv2
    split at he
    ·rename_i hik
     split at he
     ·rename_i w hw
      cases he
      exact there hkey hik hw (.inr ⟨_, rfl⟩) (F.args_dict_pop_3 _ _ _) hQ
     ·rename_i hw
      cases he
      have hki := key_is hkey (by rw [hik]; rfl)
      rcases valueAt_dget k4 _ with ⟨e1, _⟩ | ⟨v', x', e1, _, _⟩
      ·exact call_meetsIn F.slot_dict_pop hd.typeIs F.entry_dict_pop (F.args_dict_pop_3 _ _ _) (meets_dict_pop_default (vKind S.prog S.w) A hki hb (keyPart_key hki) dv) ⟨kvs, hd, e1, hQ os _ _ _ List.prefix_rfl hl (hdv.mono hp)⟩
      ·rw [hw] at e1; cases e1
    ·cases he
   ·cases he
  ·cases he
 ·cases he
end Mine.Internal
set_option autoImplicit false
namespace Mine.Internal
open PySem PySem.W PySem.Calls PyProof.Rows
variable {S : Sig} {c : Cx} {ρ : List Addr}
set_option genInjectivity false in
structure Nam where
 T : List Str
 fn : Nat → Option Addr
 me : Nat → Option Addr
 cls : Nat → Option Addr
 ex : Nat → Option Addr
noncomputable def Sig.nam (S : Sig) : Nam := ⟨S.T, S.fn, S.me, S.cls, S.ex⟩
noncomputable def biName : Bi → Str
 | .len => "len" | .sorted => "sorted" | .list => "list" | .range => "range" | .min => "min"
noncomputable def isGlob (sc : Scope) (nm : Str) : Bool := decide (sc.names.lookup nm = some .globalImplicit) && !(nm == ("__debug__" : Str))
noncomputable def nameIs (N : Nam) (i : Nat) (nm : Str) : Bool := decide (N.T[i]? = some nm)
noncomputable def isNone : Ex → Bool
 | .cnone => true
 | _ => false
noncomputable def inScope (sc : Scope) (nm : Str) : Bool := match sc.names.lookup nm with
 | some .local => true
 | some .cell => true
 | some .free => true
 | _ => false
noncomputable def isCell (sc : Scope) (nm : Str) : Bool := match sc.names.lookup nm with
 | some .cell => true
 | some .free => true
 | _ => false
noncomputable def compScope (N : Nam) (sc sc' : Scope) (nms : List Str) : Bool :=
 decide (sc'.kind = .function) && sc'.names.all (fun x => decide (x.2 ≠ .cell) && (!decide (x.2 = .local) || (decide (sc'.names.lookup x.1 = some .local) && (decide (x.1 ∈ nms) || !N.T.contains x.1))) && (!decide (x.2 = .free) || isCell sc x.1)) && nms.all (fun nm => decide (sc'.names.lookup nm = some .local))
/- parts of expressions -/
noncomputable def tagE : Expr → Nat
 | .BoolOp .. => 0 | .NamedExpr .. => 1 | .BinOp .. => 2 | .UnaryOp .. => 3 | .Lambda .. => 4 | .IfExp .. => 5 | .Dict .. => 6 | .Set .. => 7 | .ListComp .. => 8 | .SetComp .. => 9 | .DictComp .. => 10 | .GeneratorExp .. => 11 | .Await .. => 12 | .Yield .. => 13
 | .YieldFrom .. => 14 | .Compare .. => 15 | .Call .. => 16 | .FormattedValue .. => 17 | .JoinedStr .. => 18 | .Constant .. => 19 | .Attribute .. => 20 | .Subscript .. => 21 | .Starred .. => 22 | .Name .. => 23 | .List .. => 24 | .Tuple .. => 25 | .Slice .. => 26
noncomputable def plainBase (e : Expr) : Bool := !Nat.beq (tagE e) 16
noncomputable def isSet (e : Expr) : Bool := Nat.beq (tagE e) 7
noncomputable def isSlice (e : Expr) : Bool := Nat.beq (tagE e) 26
set_option genInjectivity false in
structure Pt where
 x : Expr
 y : Expr
 xs : List Expr
 pos : Pos
 nm : Str
 k : Nat
 bop : PySem.Operator := .Add
 uop : UnaryOp := .Not
 lop : BoolOp := .And
 cops : List CmpOp := []
 cst : Const := .none
 ds : List (Option Expr) := []
 kws : List Keyword := []
 gs : List Comprehension := []
 sc : Scope := ⟨.function, [], false, false, []⟩
 lo : Option Expr := none
 hi : Option Expr := none
 st : Option Expr := none
noncomputable def noPos : Pos := ⟨0, 0, 0, 0⟩
noncomputable def ptE (e : Expr) : Pt := match e with
 | .BoolOp o xs p => { x := e, y := e, xs := xs, pos := p, nm := "", k := 0, lop := o }
 | .BinOp l o r p => { x := l, y := r, xs := [], pos := p, nm := "", k := 0, bop := o }
 | .UnaryOp o x p => { x := x, y := x, xs := [], pos := p, nm := "", k := 0, uop := o }
 | .Dict ks vs p => { x := e, y := e, xs := vs, pos := p, nm := "", k := 0, ds := ks }
 | .ListComp x gs sc p => { x := x, y := x, xs := [], pos := p, nm := "", k := 0, gs := gs, sc := sc }
 | .Compare l os rs p => { x := l, y := l, xs := rs, pos := p, nm := "", k := 0, cops := os }
 | .Call f xs ks p => { x := f, y := f, xs := xs, pos := p, nm := "", k := 0, kws := ks }
 | .Constant v k p => { x := e, y := e, xs := [], pos := p, nm := "", k := k, cst := v }
 | .Attribute x nm p => { x := x, y := x, xs := [], pos := p, nm := nm, k := 0 }
 | .Subscript x y p => { x := x, y := y, xs := [], pos := p, nm := "", k := 0 }
 | .Name nm p => { x := e, y := e, xs := [], pos := p, nm := nm, k := 0 }
 | .List xs p => { x := e, y := e, xs := xs, pos := p, nm := "", k := 0 }
 | .Tuple xs k p => { x := e, y := e, xs := xs, pos := p, nm := "", k := k }
 | .Slice l u s p => { x := e, y := e, xs := [], pos := p, nm := "", k := 0, lo := l, hi := u, st := s }
 | _ => { x := e, y := e, xs := [], pos := noPos, nm := "", k := 0 }
noncomputable def isC (v w : Const) : Bool := match v, w with
 | .none, .none => true
 | .bool b, .bool b' => b == b'
 | .int i, .int j => decide (i = j)
 | .str s, .str s' => decide (s = s') && okS s
 | _, _ => false
noncomputable def onO {α : Type} (o : Option α) (f : α → Bool) : Bool := match o with
 | some a => f a
 | none => false
theorem onO_eq {α : Type} {o : Option α} {f : α → Bool} (h : onO o f = true) : ∃ a, o = some a ∧ f a = true := by
 cases o with
 | none => exact nomatch (show false = true from h)
 | some a => exact ⟨a, rfl, h⟩
noncomputable def one {α : Type} : List α → Option α
 | [a] => some a
 | _ => none
noncomputable def two {α : Type} : List α → Option (α × α)
 | [a, b] => some (a, b)
 | _ => none
noncomputable def nil? {α : Type} : List α → Bool
 | [] => true
 | _ => false
noncomputable def exsNil : Exs → Bool
 | .nil => true
 | _ => false
noncomputable def isT (e : Expr) (n : Nat) : Bool := decide (tagE e = n)
noncomputable def isCallN (e : Expr) : Bool := isT e 16 && (nil? (ptE e).kws && isT (ptE e).x 23)
noncomputable def cN (e : Expr) : Str := (ptE (ptE e).x).nm
noncomputable def cA (e : Expr) : List Expr := (ptE e).xs
noncomputable def ckTg (N : Nam) (tg : List Nat) (tup : Bool) (e : Expr) : Bool := match tup with
 | false => onO (one tg) fun i => isT e 23 && nameIs N i (ptE e).nm
 | true => false
noncomputable def tgNms (tup : Bool) (e : Expr) : List Str := bif tup then (ptE e).xs.map fun x => (ptE x).nm else [(ptE e).nm]
mutual
noncomputable def ckE (N : Nam) : Scope → Ex → Expr → Bool
 | _, .cnone, e => isT e 19 && isC .none (ptE e).cst
 | _, .cbool b, e => isT e 19 && isC (.bool b) (ptE e).cst
 | _, .cint i, e => isT e 19 && isC (.int i) (ptE e).cst
 | _, .cstr s, e => isT e 19 && isC (.str s) (ptE e).cst
 | sc, .loc i, e => isT e 23 && (nameIs N i (ptE e).nm && (inScope sc (ptE e).nm && (!((ptE e).nm == ("__debug__" : Str)) && !((ptE e).nm == ("__classdict__" : Str)))))
 | sc, .glo i, e => isT e 23 && (nameIs N i (ptE e).nm && isGlob sc (ptE e).nm)
 | sc, .bin op a b, e => isT e 2 && (decide (op = (ptE e).bop) && (ckE N sc a (ptE e).x && ckE N sc b (ptE e).y))
 | sc, .not a, e => isT e 3 && (decide ((ptE e).uop = .Not) && ckE N sc a (ptE e).x)
 | sc, .band es, e => isT e 0 && (decide ((ptE e).lop = .And) && ckEs N sc es (ptE e).xs)
 | sc, .bor es, e => isT e 0 && (decide ((ptE e).lop = .Or) && ckEs N sc es (ptE e).xs)
 | sc, .cmp op a b, e => isT e 15 && onO (one (ptE e).cops) fun o => onO (one (ptE e).xs) fun r => decide (op = o) && (!behindInMarks o r && (ckE N sc a (ptE e).x && ckE N sc b r))
 | sc, .cmp2 o1 o2 a b d, e => isT e 15 && onO (two (ptE e).cops) fun o => onO (two (ptE e).xs) fun r => decide (o1 = o.1) && (decide (o2 = o.2) && (!behindInMarks o.2 r.2 && (ckE N sc a (ptE e).x && (ckE N sc b r.1 && ckE N sc d r.2))))
 | sc, .list es, e => isT e 24 && ckEs N sc es (ptE e).xs
 | sc, .tup es, e => isT e 25 && ckEs N sc es (ptE e).xs
 | _, .dict ks vs, e => isT e 6 && (exsNil ks && (exsNil vs && (nil? (ptE e).ds && nil? (ptE e).xs)))
 | sc, .attr a n, e => isT e 20 && (nameIs N n (ptE e).nm && (plainBase (ptE e).x && ckE N sc a (ptE e).x))
 | sc, .sub a i, e => isT e 21 && (!isSlice (ptE e).y && (ckE N sc a (ptE e).x && ckE N sc i (ptE e).y))
 | sc, .slice a lo hi, e => isT e 21 && (isT (ptE e).y 26 && ((ptE (ptE e).y).st.isNone && (ckE N sc a (ptE e).x && ((match (ptE (ptE e).y).lo with | none => isNone lo | some y => ckE N sc lo y) && (match (ptE (ptE e).y).hi with | none => isNone hi | some y => ckE N sc hi y)))))
 | sc, .call f args, e => isCallN e && (nameIs N f (cN e) && (isGlob sc (cN e) && ((N.fn f).isSome && ckEs N sc args (cA e))))
 | sc, .new k, e => isCallN e && (nil? (cA e) && (nameIs N k (cN e) && (isGlob sc (cN e) && (N.cls k).isSome)))
 | sc, .meth o n args, e => isT e 16 && (nil? (ptE e).kws && (isT (ptE e).x 20 && (nameIs N n (ptE (ptE e).x).nm && (plainBase (ptE (ptE e).x).x && (((ptE (ptE e).x).pos.endLine == (ptE e).pos.line) && (decide ((cA e).length < 30) && ((decide (n ≤ 12) || (N.me n).isSome) && (ckE N sc o (ptE (ptE e).x).x && ckEs N sc args (cA e)))))))))
 | sc, .bi b args, e => isCallN e && (decide (cN e = biName b) && (isGlob sc (cN e) && ckEs N sc args (cA e)))
 | sc, .isi a ks, e => isCallN e && onO (one ks) fun k => onO (two (cA e)) fun xs => isT xs.2 23 && (decide (cN e = "isinstance") && (isGlob sc (cN e) && (isGlob sc (ptE xs.2).nm && (decide (k ≤ isB) && (decide ((ptE xs.2).nm = (clsName k : Str)) && ckE N sc a xs.1)))))
 | sc, .comp elt tg tup it conds, e => isT e 8 && onO (one (ptE e).gs) fun g => decide (g.is_async = 0) && (ckTg N tg tup g.target && (compScope N sc (ptE e).sc (tgNms tup g.target) && (!isSet g.iter && (ckE N sc it g.iter && (ckE N (ptE e).sc elt (ptE e).x && ckEs N (ptE e).sc conds g.ifs)))))
termination_by structural _ x => x
noncomputable def ckEs (N : Nam) : Scope → Exs → List Expr → Bool
 | _, .nil, xs => nil? xs
 | sc, .cons e es, xs => match xs with
  | x :: xs => ckE N sc e x && ckEs N sc es xs
  | [] => false
termination_by structural _ x => x
end
theorem and_t {a b : Bool} (h : (a && b) = true) : a = true ∧ b = true := (Bool.and_eq_true a b).mp h
theorem not_t {a : Bool} (h : (!a) = true) : a = false := (Bool.not_eq_true' a).mp h
theorem dec_t {p : Prop} [Decidable p] (h : decide p = true) : p := of_decide_eq_true h
theorem one_eq {α : Type} {l : List α} {a : α} (h : one l = some a) : l = [a] := by
 match l, h with
 | [b], h => cases h; rfl
theorem two_eq {α : Type} {l : List α} {a b : α} (h : two l = some (a, b)) : l = [a, b] := by
 match l, h with
 | [c, d], h => cases h; rfl
theorem nil_eq {α : Type} {l : List α} (h : nil? l = true) : l = [] := by
 cases l with
 | nil => rfl
 | cons _ _ => cases h
theorem exsNil_eq {l : Exs} (h : exsNil l = true) : l = .nil := by
 cases l with
 | nil => rfl
 | cons _ _ => cases h
noncomputable def rebE (n : Nat) (e : Expr) : Expr := match n with
 | 19 => .Constant (ptE e).cst (ptE e).k (ptE e).pos
 | 23 => .Name (ptE e).nm (ptE e).pos
 | 2 => .BinOp (ptE e).x (ptE e).bop (ptE e).y (ptE e).pos
 | 3 => .UnaryOp (ptE e).uop (ptE e).x (ptE e).pos
 | 0 => .BoolOp (ptE e).lop (ptE e).xs (ptE e).pos
 | 15 => .Compare (ptE e).x (ptE e).cops (ptE e).xs (ptE e).pos
 | 24 => .List (ptE e).xs (ptE e).pos
 | 25 => .Tuple (ptE e).xs (ptE e).k (ptE e).pos
 | 6 => .Dict (ptE e).ds (ptE e).xs (ptE e).pos
 | 20 => .Attribute (ptE e).x (ptE e).nm (ptE e).pos
 | 21 => .Subscript (ptE e).x (ptE e).y (ptE e).pos
 | 26 => .Slice (ptE e).lo (ptE e).hi (ptE e).st (ptE e).pos
 | 16 => .Call (ptE e).x (ptE e).xs (ptE e).kws (ptE e).pos
 | 8 => .ListComp (ptE e).x (ptE e).gs (ptE e).sc (ptE e).pos
 | _ => e
theorem exp_all (e : Expr) : e = rebE (tagE e) e := by cases e <;> rfl
theorem exp_of {e : Expr} {n : Nat} (h : isT e n = true) : e = rebE n e := by
 have h2 := exp_all e
 rw [dec_t h] at h2
 exact h2
theorem t_const {e : Expr} (h : isT e 19 = true) : e = .Constant (ptE e).cst (ptE e).k (ptE e).pos := exp_of h
theorem t_name {e : Expr} (h : isT e 23 = true) : e = .Name (ptE e).nm (ptE e).pos := exp_of h
theorem t_bin {e : Expr} (h : isT e 2 = true) : e = .BinOp (ptE e).x (ptE e).bop (ptE e).y (ptE e).pos := exp_of h
theorem t_un {e : Expr} (h : isT e 3 = true) : e = .UnaryOp (ptE e).uop (ptE e).x (ptE e).pos := exp_of h
theorem t_bool {e : Expr} (h : isT e 0 = true) : e = .BoolOp (ptE e).lop (ptE e).xs (ptE e).pos := exp_of h
theorem t_cmp {e : Expr} (h : isT e 15 = true) : e = .Compare (ptE e).x (ptE e).cops (ptE e).xs (ptE e).pos := exp_of h
theorem t_list {e : Expr} (h : isT e 24 = true) : e = .List (ptE e).xs (ptE e).pos := exp_of h
theorem t_tup {e : Expr} (h : isT e 25 = true) : e = .Tuple (ptE e).xs (ptE e).k (ptE e).pos := exp_of h
theorem t_dict {e : Expr} (h : isT e 6 = true) : e = .Dict (ptE e).ds (ptE e).xs (ptE e).pos := exp_of h
theorem t_attr {e : Expr} (h : isT e 20 = true) : e = .Attribute (ptE e).x (ptE e).nm (ptE e).pos := exp_of h
theorem t_sub {e : Expr} (h : isT e 21 = true) : e = .Subscript (ptE e).x (ptE e).y (ptE e).pos := exp_of h
theorem t_slice {e : Expr} (h : isT e 26 = true) : e = .Slice (ptE e).lo (ptE e).hi (ptE e).st (ptE e).pos := exp_of h
theorem t_call {e : Expr} (h : isT e 16 = true) : e = .Call (ptE e).x (ptE e).xs (ptE e).kws (ptE e).pos := exp_of h
theorem t_comp {e : Expr} (h : isT e 8 = true) : e = .ListComp (ptE e).x (ptE e).gs (ptE e).sc (ptE e).pos := exp_of h
end Mine.Internal
set_option autoImplicit false
namespace Mine.Internal
open PySem PySem.W PySem.Calls PyProof.Rows
variable {S : Sig} {c : Cx} {ρ : List Addr}
structure Ctx0 (S : Sig) (n : Nat) (c : Cx) : Prop where
 units : c.A.units + 2 * n + 200 < cLine
 depth : c.A.depth + n < recursionLimit
 kin : S.K.In c.h₀
 top : ∃ mg mb, c.h₀.Ns mainGlobals mg ∧ c.h₀.Ns builtinsNs mb ∧ ∀ x : Str, x ≠ "__name__" → mb x = bootBuiltins x
 lim : c.h₀.NoLimit
 kind : c.env.scope.kind = .function
 glob : c.env.globals = mainGlobals
 blt : c.env.builtins = builtinsNs
 locs : c.env.locals = c.L
 frs : ∃ l, c.A.frames = some l ∧ ∀ e ∈ l, e.scope.kind ≠ .module ∧ ∃ b, e.frame = some b ∧ b ∈ c.L :: c.fs.map (·.1)
structure CtxOK (S : Sig) (n : Nat) (c : Cx) : Prop extends Ctx0 S n c where
 hand : c.A.handled = none
noncomputable abbrev Sig.at (S : Sig) (lk : List (Nat × Addr × Obj)) : Sig := { S with lk := lk }
theorem CtxOK.at {n : Nat} (h : CtxOK S n c) (lk : List (Nat × Addr × Obj)) : CtxOK (S.at lk) n c :=
 ⟨⟨h.units, h.depth, h.kin, h.top, h.lim, h.kind, h.glob, h.blt, h.locs, h.frs⟩, h.hand⟩
theorem CtxOK.le {n k : Nat} (h : CtxOK S n c) (e : k ≤ n) : CtxOK S k c :=
 ⟨⟨by have := h.units; lia, by have := h.depth; lia, h.kin, h.top, h.lim, h.kind, h.glob, h.blt, h.locs, h.frs⟩, h.hand⟩
theorem Ctx0.room {n : Nat} (h : Ctx0 S n c) : Room c := by unfold Room; have := h.units; lia
noncomputable def VarAt (c : Cx) (nm : Str) (x : Value) : Prop :=
 (c.env.kindOf nm = some .local ∧ c.m nm = some x) ∨
 ((c.env.kindOf nm = some .cell ∨ c.env.kindOf nm = some .free) ∧ ∃ a o, c.env.cells.lookup nm = some a ∧ (a, o) ∈ c.kp ∧ o.data = .cell (some x))
noncomputable def VarsOK (S : Sig) (c : Cx) (sc : Scope) (ρ : List Addr) (loc : Loc) : Prop := ∀ i v nm, loc i = some v → S.T[i]? = some nm → inScope sc nm = true → ∃ x, VarAt c nm x ∧ VR ρ v x
theorem VarsOK.mono {sc : Scope} {loc : Loc} {ρ' : List Addr} (h : VarsOK S c sc ρ loc) (k : ρ <+: ρ') : VarsOK S c sc ρ' loc := fun i v nm e h1 h2 =>
 let ⟨x, h3, h4⟩ := h i v nm e h1 h2; ⟨x, h3, h4.mono k⟩
structure ScOK (sc : Scope) (env : Env) : Prop where
 glob : ∀ nm, sc.names.lookup nm = some .globalImplicit → env.kindOf nm = some .globalImplicit
 loc : ∀ nm, sc.names.lookup nm = some .local → env.kindOf nm = some .local
 cell : ∀ nm, isCell sc nm = true → (env.kindOf nm = some .cell ∨ env.kindOf nm = some .free) ∧ ∃ a, env.cells.lookup nm = some a
section
variable {α β : Type} {RV : List Addr → β → α → Prop}
theorem SM.operate {t : Sem Value} {x : X V} {vs : List Value} {RV : List Addr → V → Value → Prop} (h : SM S c ρ RV t x) : SM S c ρ RV (operate vs t) x :=
 fun os σ s r σ' hp hl hx Q E hQ => wpAny_operate' (h os σ s r σ' hp hl hx Q E hQ)
theorem SM.release {t : Sem α} {x : X β} {vs ws : List Value} (h : SM S c ρ RV t x) : SM S c ρ RV (do release vs ws; t) x :=
 fun os σ s r σ' hp hl hx Q E hQ => wpAny_bind (wpAny_release' (h os σ s r σ' hp hl hx Q E hQ))
theorem SM.via {t t' : Sem α} {x : X β} (h : SM S c ρ RV t x) (k : ∀ Q E s, wpAny (model S.prog S.w) c.A t Q E s → wpAny (model S.prog S.w) c.A t' Q E s) : SM S c ρ RV t' x :=
 fun os σ s r σ' hp hl hx Q E hQ => k _ _ _ (h os σ s r σ' hp hl hx Q E hQ)
end
theorem T_eq {i : Nat} {nm : Str} (h : nameIs S.nam i nm = true) : S.T[i]? = some nm := of_decide_eq_true h
theorem sm_local {n : Nat} (K : Ctx0 S n c) {loc : Loc} {sc : Scope} (V : VarsOK S c sc ρ loc) {i : Nat} {nm : Str} {pos : Pos} (hn : S.T[i]? = some nm) (hsc : inScope sc nm = true) (hd : (nm == ("__debug__" : Str)) = false) (hc : (nm == ("__classdict__" : Str)) = false) :
  SM S c ρ VR (eval (.Name nm pos) c.env) (X.lift (loc i)) := by
 intro os σ s r σ' hp hl he Q E hQ
 unfold X.lift at he
 split at he
 ·rename_i v hv
  cases he
  obtain ⟨x, h2, h3⟩ := V i v nm hv hn hsc
  have fin := hQ os s.heap s.toks x List.prefix_rfl hl (h3.mono hp)
  refine wpAny_Name ?_ hd
  rcases h2 with ⟨k1, k2⟩ | ⟨k1 | k1, a, o, k2, k3, k4⟩
  ·exact wpAny_loadName_local K.kind k1 (K.locs ▸ hl.fr.ns) k2 fin
  ·exact wpAny_loadName_cell K.kind k1 k2 ⟨o, (hl.news _ (List.mem_append_left _ k3)).1, k4⟩ fin
  ·exact wpAny_loadName_free K.kind k1 k2 ⟨o, (hl.news _ (List.mem_append_left _ k3)).1, k4⟩ fin hc
 ·cases he
theorem sm_top {n : Nat} (K : Ctx0 S n c) {nm : Str} {pos : Pos} {v : Value} {x : V} {RV : List Addr → V → Value → Prop} (hk : c.env.kindOf nm = some .globalImplicit) (hd : (nm == ("__debug__" : Str)) = false) (e : nsIn S.K mainGlobals nm = some (some v)) (h : ∀ ρ, RV ρ x v) :
  SM S c ρ RV (eval (.Name nm pos) c.env) (X.pure x) := by
 intro os σ s r σ' hp hl he Q E hQ
 cases he
 obtain ⟨mg, mb, h1, h2, h3⟩ := K.top
 exact Name_function_global K.kind hk (loadGlobal_global (K.glob ▸ h1.keeps hl.fr.keep) (mg_of K.kin h1 e) (hQ os s.heap s.toks v List.prefix_rfl hl (h _))) hd
theorem sm_boot {n : Nat} (K : Ctx0 S n c) {nm : Str} {pos : Pos} {v : Value} {x : V} {RV : List Addr → V → Value → Prop} (hk : c.env.kindOf nm = some .globalImplicit) (hd : (nm == ("__debug__" : Str)) = false) (e : nsIn S.K mainGlobals nm = some none)
  (hv : bootBuiltins nm = some v) (hn : nm ≠ "__name__") (h : ∀ ρ, RV ρ x v) : SM S c ρ RV (eval (.Name nm pos) c.env) (X.pure x) := by
 intro os σ s r σ' hp hl he Q E hQ
 cases he
 obtain ⟨mg, mb, h1, h2, h3⟩ := K.top
 exact Name_function_global K.kind hk (loadGlobal_builtin (K.glob ▸ h1.keeps hl.fr.keep) (mg_none_of K.kin h1 e) (K.blt ▸ h2.keeps hl.fr.keep) ((h3 nm hn).trans hv) (hQ os s.heap s.toks v List.prefix_rfl hl (h _))) hd
theorem X.pure_bind {α β : Type} (a : α) (f : α → X β) : X.bind (X.pure a) f = f a := by funext σ; rfl
theorem X.bind_assoc {α β γ : Type} (m : X α) (f : α → X β) (g : β → X γ) : X.bind (X.bind m f) g = X.bind m fun a => X.bind (f a) g := by
 funext σ
 unfold X.bind
 cases m σ with
 | none => rfl
 | some p => obtain ⟨r, σ'⟩ := p; cases r <;> rfl
theorem sm_bin {op : Operator} {l r : Expr} {pos : Pos} {x y : X V} (hx : SM S c ρ VR (eval l c.env) x) (hy : SM S c ρ VR (eval r c.env) y) :
  SM S c ρ VR (eval (.BinOp l op r pos) c.env) (X.bind x fun a => X.bind y fun b => binop op a b) := by
 rw [arm_eval_BinOp]
 exact hx.bind fun ρ' a v k ha => (SM.hold (hy.mono k)).bind fun ρ'' b w k' hb => (SM.operate (sm_binop (ha.mono k') hb)).stand
theorem sm_not {e : Expr} {pos : Pos} {x : X V} (hx : SM S c ρ VR (eval e c.env) x) : SM S c ρ VR (eval (.UnaryOp .Not e pos) c.env) (X.bind x fun a => X.bind (truth a) fun t => X.pure (.bool (!t))) := by
 rw [arm_eval_UnaryOp]
 refine hx.bind fun ρ' a v k ha => SM.stand (SM.hold ?_)
 refine SM.via (t := truthy v >>= fun b => Pure.pure (.bool (!b))) ((sm_truth ha).bind fun ρ'' b b' k' hb => ?_) fun Q E s h => ?_
 ·subst hb; exact SM.pure fun _ _ => rfl
 ·unfold unaryOp
  exact wpAny_holding h
theorem sm_cmp (hr : Room c) {op : CmpOp} {l r : Expr} {pos : Pos} {x y : X V} (hm : behindInMarks op r = false) (hx : SM S c ρ VR (eval l c.env) x) (hy : SM S c ρ VR (eval r c.env) y) :
  SM S c ρ VR (eval (.Compare l [op] [r] pos) c.env) (X.bind x fun a => X.bind y fun b => cmpop S.P op a b) := by
 rw [arm_eval_Compare]
 refine hx.bind fun ρ' a v k ha => ?_
 have e : markedEach [op] [r] (evalEach [r] c.env) = [eval r c.env] := by simp only [arm_evalEach_cons, arm_evalEach_nil, markedEach, markedBehindIn_of_false hm]
 rw [e]
 exact (SM.hold (hy.mono k)).bind fun ρ'' b w k' hb => (SM.operate (sm_cmpop hr (ha.mono k') hb)).stand
theorem sm_cmp_test (hr : Room c) {op : CmpOp} {l r : Expr} {pos : Pos} {x y : X V} {whole : Sem Value} (hm : behindInMarks op r = false) (hx : SM S c ρ VR (eval l c.env) x) (hy : SM S c ρ VR (eval r c.env) y) :
  SM S c ρ EqR (isTrue (.Compare l [op] [r] pos) c.env whole) (X.bind (X.bind x fun a => X.bind y fun b => cmpop S.P op a b) truth) := by
 rw [arm_isTrue_Compare, X.bind_assoc]
 refine hx.bind fun ρ' a v k ha => ?_
 have e : markedEach [op] [r] (evalEach [r] c.env) = [eval r c.env] := by simp only [arm_evalEach_cons, arm_evalEach_nil, markedEach, markedBehindIn_of_false hm]
 rw [e, X.bind_assoc]
 exact (SM.hold (hy.mono k)).bind fun ρ'' b w k' hb => SM.stand ((SM.operate (sm_cmpop hr (ha.mono k') hb)).bind fun _ _ _ _ h => SM.hold (sm_truth h))
theorem marked2 {o1 o2 : CmpOp} {r1 r2 : Expr} {env : Env} (hm : behindInMarks o2 r2 = false) : markedEach [o1, o2] [r1, r2] (evalEach [r1, r2] env) = [eval r1 env, eval r2 env] := by
 simp only [arm_evalEach_cons, arm_evalEach_nil, markedEach, markedBehindIn_of_false hm]
theorem sm_cmp2 (hr : Room c) {o1 o2 : CmpOp} {l r1 r2 : Expr} {pos : Pos} {x y z : X V} (hm : behindInMarks o2 r2 = false) (hx : SM S c ρ VR (eval l c.env) x) (hy : SM S c ρ VR (eval r1 c.env) y) (hz : SM S c ρ VR (eval r2 c.env) z) :
  SM S c ρ VR (eval (.Compare l [o1, o2] [r1, r2] pos) c.env) (X.bind x fun a => X.bind y fun b => X.bind (cmpop S.P o1 a b) fun r => X.bind (truth r) fun t => if t then X.bind z fun d => cmpop S.P o2 b d else X.pure r) := by
 rw [arm_eval_Compare]
 refine hx.bind fun ρ' a v k ha => ?_
 rw [marked2 hm]
 show SM S c ρ' VR (do
  let rv ← holding [v] (eval r1 c.env)
  standAt pos
  let cv ← holding [v, rv] (compareOp o1 v rv)
  release [v, rv] [cv]
  if ← holding [cv, rv] (truthy cv) then compareChain pos rv [o2] [eval r2 c.env] else pure cv) _
 refine (SM.hold (hy.mono k)).bind fun ρ'' b w k' hb => SM.stand ((SM.hold (sm_cmpop hr (ha.mono k') hb)).bind fun ρ₃ q qv k₃ hq => SM.release ((SM.hold (sm_truth hq)).bind fun ρ₄ t t' k₄ ht => ?_))
 subst ht
 cases t
 ·exact SM.pure fun ρ₅ k₅ => (hq.mono k₄).mono k₅
 ·exact (SM.hold (hz.mono (k.trans (k'.trans (k₃.trans k₄))))).bind fun ρ₅ d dv k₅ hd => (SM.operate (sm_cmpop hr (hb.mono (k₃.trans (k₄.trans k₅))) hd)).stand
theorem cmpop_bool {P : Prog} {op : CmpOp} {a b v : V} {σ σ' : H} (h : cmpop P op a b σ = some (.ok v, σ')) : ∃ q, v = .bool q := by
 have two : ∀ {f : Int → Int → Bool}, (twoInts a b fun x y => some (.ok (.bool (f x y)), σ)) = some (.ok v, σ') → ∃ q, v = .bool q := fun e => by
  obtain ⟨x, y, _, _, e⟩ := twoInts_eq e; cases e; exact ⟨_, rfl⟩
 have eq : ∀ {f : Bool → Bool}, (deq σ a b).map (fun r => ((.ok (.bool (f r)) : R V), σ)) = some (.ok v, σ') → ∃ q, v = .bool q := fun e => by
  obtain ⟨q, _, e⟩ := Option.map_eq_some_iff.mp e; cases e; exact ⟨_, rfl⟩
 have is : ∀ {q : Bool}, onN b (some ((.ok (.bool q) : R V), σ)) = some (.ok v, σ') → ∃ q, v = .bool q := fun e => by
  obtain ⟨_, e⟩ := onN_eq e; cases e; exact ⟨_, rfl⟩
 have con : ∀ {f : Bool → Bool}, X.bind (contains P a b) (fun r => X.pure (.bool (f r))) σ = some (.ok v, σ') → ∃ q, v = .bool q := fun e => by
  rcases X.bind_inv e with ⟨q, σ₁, _, e⟩ | ⟨k, _, e⟩
  ·cases e; exact ⟨_, rfl⟩
  ·cases e
 cases op with
 | Eq => exact eq (f := id) h
 | NotEq => exact eq (f := not) h
 | Lt => exact two (f := fun x y => decide (x < y)) h
 | LtE => exact two (f := fun x y => decide (x ≤ y)) h
 | Gt => exact two (f := fun x y => decide (x > y)) h
 | GtE => exact two (f := fun x y => decide (x ≥ y)) h
 | Is => exact is h
 | IsNot => exact is h
 | In => exact con (f := id) h
 | NotIn => exact con (f := not) h
theorem sm_cmp2_test (hr : Room c) {o1 o2 : CmpOp} {l r1 r2 : Expr} {pos : Pos} {x y z : X V} {whole : Sem Value} (hm : behindInMarks o2 r2 = false) (hx : SM S c ρ VR (eval l c.env) x) (hy : SM S c ρ VR (eval r1 c.env) y) (hz : SM S c ρ VR (eval r2 c.env) z) :
  SM S c ρ EqR (isTrue (.Compare l [o1, o2] [r1, r2] pos) c.env whole) (X.bind (X.bind x fun a => X.bind y fun b => X.bind (cmpop S.P o1 a b) fun r => X.bind (truth r) fun t => if t then X.bind z fun d => cmpop S.P o2 b d else X.pure r) truth) := by
 rw [arm_isTrue_Compare, X.bind_assoc]
 refine hx.bind fun ρ' a v k ha => ?_
 rw [marked2 hm, X.bind_assoc]
 show SM S c ρ' EqR (do
  let rv ← holding [v] (eval r1 c.env)
  standAt pos
  let cv ← holding [v, rv] (compareOp o1 v rv)
  release [v, rv] [cv]
  if ← holding [cv, rv] (truthy cv) then testChain pos rv [o2] [eval r2 c.env] else pure false) _
 refine (SM.hold (hy.mono k)).bind fun ρ'' b w k' hb => SM.stand ?_
 have e : (X.bind (X.bind (cmpop S.P o1 a b) fun r => X.bind (truth r) fun t => if t then X.bind z fun d => cmpop S.P o2 b d else X.pure r) truth) =
   (X.bind (cmpop S.P o1 a b) fun r => X.bind (truth r) fun t => if t then X.bind (X.bind z fun d => cmpop S.P o2 b d) truth else X.pure false) := by
  funext σ
  rw [X.bind_assoc]
  unfold X.bind
  cases hq : cmpop S.P o1 a b σ with
  | none => rfl
  | some p =>
   obtain ⟨q, σ₁⟩ := p
   cases q with
   | err k => rfl
   | ok q =>
    obtain ⟨t, rfl⟩ := cmpop_bool hq
    cases t <;> rfl
 rw [e]
 refine (SM.hold (sm_cmpop hr (ha.mono k') hb)).bind fun ρ₃ q qv k₃ hq => SM.release ((SM.hold (sm_truth hq)).bind fun ρ₄ t t' k₄ ht => ?_)
 subst ht
 cases t
 ·exact SM.pure fun ρ₅ k₅ => rfl
 ·show SM S c ρ₄ EqR (testChain pos w [o2] [eval r2 c.env]) (X.bind (X.bind z fun d => cmpop S.P o2 b d) truth)
  rw [X.bind_assoc]
  exact (SM.hold (hz.mono (k.trans (k'.trans (k₃.trans k₄))))).bind fun ρ₅ d dv k₅ hd => SM.stand ((SM.operate (sm_cmpop hr (hb.mono (k₃.trans (k₄.trans k₅))) hd)).bind fun _ _ _ _ h => SM.hold (sm_truth h))
theorem sm_list {xs : List Expr} {pos : Pos} {x : X (List V)} (h : SM S c ρ VRs (spliced (backTo pos (starEach xs c.env))) x) : SM S c ρ VR (eval (.List xs pos) c.env) (X.bind x fun vs => alloc (.list vs)) := by
 rw [arm_eval_List]
 exact SM.stand (h.bind fun ρ' vs ws k hw => sm_newList hw)
theorem sm_tup {xs : List Expr} {pos : Pos} {k : Nat} {x : X (List V)} (h : SM S c ρ VRs (spliced (backTo pos (starEach xs c.env))) x) : SM S c ρ VR (eval (.Tuple xs k pos) c.env) (X.bind x fun vs => alloc (.tup vs)) := by
 rw [arm_eval_Tuple]
 exact SM.stand (h.bind fun ρ' vs ws k hw => sm_newTuple hw)
theorem sm_dict0 {pos : Pos} : SM S c ρ VR (eval (.Dict [] [] pos) c.env) (alloc (.dict [])) := by
 refine (sm_newDict (S := S) (c := c) (ρ := ρ)).via fun Q E s h => ?_
 rw [arm_eval_Dict]
 exact wpAny_bind (wpAny_standAt h)
theorem base_of {o : Expr} (h : plainBase o = true) (attr : Str) (env : Env) (whole : Sem Value) : attributeBase o attr env whole = whole := by
 cases o <;> first | rfl | cases h
theorem sm_attr (TV : TabOK S) {n : Nat} (K : CtxOK S n c) {e : Expr} {nm : Str} {i : Nat} {pos : Pos} {x : X V} (hn : S.T[i]? = some nm) (hb : plainBase e = true) (hx : SM S c ρ VR (eval e c.env) x) :
  SM S c ρ VR (eval (.Attribute e nm pos) c.env) (X.bind x fun o => getAttr o i) := by
 rw [arm_eval_Attribute, base_of hb]
 refine hx.bind fun ρ' a v k ha => SM.stand ?_
 refine (SM.hold (vs := [v]) (sm_getAttr (ex := true) TV K.kin hn ha)).via fun Q E s h => ?_
 exact wpAny_bind (wpAny_mono h (fun r s' hr => wpAny_bind (wpAny_letTemporaryGo (wpAny_pure hr))) fun _ _ h => h)
theorem sm_sub {e i : Expr} {pos : Pos} {x y : X V} (hi : isSlice i = false) (hx : SM S c ρ VR (eval e c.env) x) (hy : SM S c ρ VR (eval i c.env) y) : SM S c ρ VR (eval (.Subscript e i pos) c.env) (X.bind x fun o => X.bind y fun k => getItem S.P o k) := by
 rw [arm_eval_Subscript]
 refine hx.bind fun ρ' a v k ha => (SM.hold (hy.mono k)).bind fun ρ'' b w k' hb => SM.stand ?_
 refine sm_getItem (value := e) (slice := i) (ha.mono k') hb fun o j => ?_
 cases i <;> first | rfl | cases hi
end Mine.Internal
set_option autoImplicit false
namespace Mine.Internal
open PySem PySem.W PySem.Calls PyProof.Rows
variable {S : Sig} {c : Cx} {ρ : List Addr}
noncomputable def SC (S : Sig) (c : Cx) (ρ₀ : List Addr) (f : Value) (vs : List Value) (x : X V) : Prop :=
 ∀ (os : List (Addr × Obj)) (σ : H) (s : Shared) (r : R V) (σ' : H), ρ₀ <+: adr os → c.led S os σ s.heap → x σ = some (r, σ') →
  ∀ (R : Result → Shared → Prop),
   (match r with
    | .ok b => ∀ os' h' tk a, adr os <+: adr os' → c.led S os' σ' h' → VR (adr os') b a → R (.ok (.ret a)) { s with heap := h', toks := tk }
    | .err k => ∀ os' h' tk e, adr os <+: adr os' → c.led S os' σ' h' → Fly S c os' e k h' → R (.error e) { s with heap := h', toks := tk }) →
   codeAny (model S.prog S.w) c.A (.call f ⟨vs, []⟩) R s
theorem SC.sm {f : Value} {vs : List Value} {x : X V} (h : SC S c ρ f vs x) : SM S c ρ VR (call f vs) x := by
 intro os σ s r σ' hp hl hx Q E hQ
 refine wpAny_call (h os σ s r σ' hp hl hx _ ?_)
 cases r with
 | ok b => exact hQ
 | err k => exact hQ
structure CallsOK (S : Sig) (C : Calls) (n : Nat) : Prop where
 fn : ∀ (lk : List (Nat × Addr × Obj)) {c : Cx} {ρ : List Addr} {f : Nat} {A : Addr} {xs : List V} {vs : List Value}, CtxOK (S.at lk) n c → S.fn f = some A → All2 (VR ρ) xs vs → SC (S.at lk) c ρ (.ref A) vs (C false f xs)
 me : ∀ (lk : List (Nat × Addr × Obj)) {c : Cx} {ρ : List Addr} {f : Nat} {A : Addr} {xs : List V} {vs : List Value}, CtxOK (S.at lk) n c → S.me f = some A → All2 (VR ρ) xs vs → SC (S.at lk) c ρ (.ref A) vs (C true f xs)
theorem CallsOK.at {C : Calls} {n : Nat} (h : CallsOK S C n) (lk : List (Nat × Addr × Obj)) : CallsOK (S.at lk) C n := ⟨fun lk' => h.fn lk', fun lk' => h.me lk'⟩
noncomputable def Kept (S : Sig) (f : Value) : Prop := ∀ h, S.K.In h → ∃ k, (k = Keeper.frame ∨ k = Keeper.machine ∨ k = Keeper.boundFrame) ∧ Looks (model S.prog S.w) h (keeperOf f) k
theorem kept_builtin (id : String) : Kept S (.builtin id) := fun _ _ => ⟨.machine, .inr (.inl rfl), Looks.of_pure rfl⟩
theorem kept_type (id : String) : Kept S (.type id) := fun _ _ => ⟨.machine, .inr (.inl rfl), Looks.of_pure rfl⟩
theorem kept_K {f : Value} (h : keepIn S.K f = true) : Kept S f := fun h' X => keeps_K h h' X
noncomputable def NoStar (xs : List Expr) (env : Env) : Prop := (starEach xs env).all (fun x => !x.1) = true
theorem back_noStar {xs : List Expr} {env : Env} {pos : Pos} (h : NoStar xs env) : (backTo pos (starEach xs env)).any (·.1) = false ∧ (backTo pos (starEach xs env)).all (fun x => !x.1) = true := by
 unfold NoStar at h
 have : ∀ l : List (Bool × Sem Value), l.all (fun x => !x.1) = true → (backTo pos l).any (·.1) = false ∧ (backTo pos l).all (fun x => !x.1) = true := by
  intro l
  induction l with
  | nil => intro _; exact ⟨rfl, rfl⟩
  | cons p r ih =>
   intro h
   obtain ⟨b, t⟩ := p
   simp only [List.all_cons, Bool.and_eq_true] at h
   obtain ⟨i1, i2⟩ := ih h.2
   have hb : b = false := by simpa using h.1
   subst hb
   exact ⟨by show (false || _) = false; rw [Bool.false_or]; exact i1, by show (true && _) = true; rw [Bool.true_and]; exact i2⟩
 exact this _ h
theorem callWith_k {n : Nat} (K : Ctx0 S n c) {xs : List Expr} {pos : Pos} {f : Value} {first : List Value} (hf : Kept S f) (hs : NoStar xs c.env) {Q : Value → Shared → Prop} {E : Value → Shared → Prop} {s : Shared}
  (inner : wpAny (model S.prog S.w) c.A (spliced (backTo pos (starEach xs c.env))) (fun ws s' => S.K.In s'.heap ∧ wpAny (model S.prog S.w) c.A (call f (first ++ ws)) Q E s') E s) :
  wpAny (model S.prog S.w) c.A (callWith pos f first (backTo pos (starEach xs c.env)) []) Q E s := by
 have hb := back_noStar (pos := pos) hs
 refine callWith_of (P := S.K.In) (by rw [hb.1]; rfl) hf ?_
 cases hq : backTo pos (starEach xs c.env) with
 | nil =>
  rw [hq] at inner
  unfold evalArgs
  show wpAny _ _ (spliced [] >>= _) _ _ _
  refine wpAny_bind (wpAny_mono inner (fun vs s' h' => ?_) fun _ _ h => h)
  refine wpAny_bind (wpAny_pure (wpAny_holding ?_))
  exact wpAny_bind (wpAny_pure (wpAny_bind (wpAny_pure (wpAny_pure h'))))
 | cons p rest =>
  obtain ⟨b, t⟩ := p
  have hb' : b = false := by
   have := hb.1; rw [hq, List.any_cons] at this
   exact (Bool.or_eq_false_iff.mp this).1
  subst hb'
  rw [hq] at inner
  exact evalArgs_plain inner
theorem sm_callWith {n : Nat} (K : Ctx0 S n c) {xs : List Expr} {pos : Pos} {f : Value} {first : List Value} {β : Type} {RA : List Addr → β → List Value → Prop} {ax : X β} {g : β → X V} (hf : Kept S f) (hs : NoStar xs c.env)
  (ha : SM S c ρ RA (spliced (backTo pos (starEach xs c.env))) ax) (hg : ∀ ρ' vs ws, ρ <+: ρ' → RA ρ' vs ws → SM S c ρ' VR (call f (first ++ ws)) (g vs)) :
  SM S c ρ VR (callWith pos f first (backTo pos (starEach xs c.env)) []) (X.bind ax g) := by
 intro os σ s r σ' hp hl hx Q E hQ
 refine callWith_k K hf hs ?_
 rcases X.bind_inv hx with ⟨vs, σ₁, e1, e2⟩ | ⟨k, e1, rfl⟩
 ·refine ha os σ s _ _ hp hl e1 _ _ fun os' h' tk ws k l' hr => ⟨K.kin.keeps l'.fr.keep, ?_⟩
  refine hg _ vs ws (hp.trans k) hr os' σ₁ { s with heap := h', toks := tk } r σ' List.prefix_rfl l' e2 Q E ?_
  cases r with
  | ok d => exact fun os'' h'' tk' a' k' l'' hr' => hQ os'' h'' tk' a' (k.trans k') l'' hr'
  | err e => exact fun os'' h'' tk' a' k' l'' hr' => hQ os'' h'' tk' a' (k.trans k') l'' hr'
 ·exact ha os σ s _ _ hp hl e1 _ _ hQ
theorem sm_splice {β γ : Type} {x : Sem Value} {rest : List (Bool × Sem Value)} {R1 : List Addr → β → Value → Prop} {R2 : List Addr → γ → List Value → Prop} {ax : X β} {bx : β → X γ} (h1 : SM S c ρ R1 x ax)
  (h2 : ∀ ρ' b v, ρ <+: ρ' → R1 ρ' b v → SM S c ρ' (fun ρ'' g ws => R2 ρ'' g (v :: ws)) (spliced rest) (bx b)) : SM S c ρ R2 (spliced ((false, x) :: rest)) (X.bind ax bx) := by
 intro os σ s r σ' hp hl hx Q E hQ
 refine spliced_cons ?_
 rcases X.bind_inv hx with ⟨b, σ₁, e1, e2⟩ | ⟨k, e1, rfl⟩
 ·refine h1 os σ s _ _ hp hl e1 _ _ fun os' h' tk v k l' hr => ?_
  refine h2 _ b v (hp.trans k) hr os' σ₁ { s with heap := h', toks := tk } r σ' List.prefix_rfl l' e2 _ E ?_
  cases r with
  | ok d => exact fun os'' h'' tk' a' k' l'' hr' => hQ os'' h'' tk' (v :: a') (k.trans k') l'' hr'
  | err e => exact fun os'' h'' tk' a' k' l'' hr' => hQ os'' h'' tk' a' (k.trans k') l'' hr'
 ·exact h1 os σ s _ _ hp hl e1 _ _ hQ
noncomputable abbrev veL : List Value := [.type "ValueError", .type "Exception", .type "BaseException", .type "object"]
noncomputable def bmOf (S : Sig) (C : Addr) : List Value := if C = S.xp then veL else .ref S.xp :: veL
noncomputable def ExOb (h : Heap) (C : Addr) (bm : List Value) : Prop := ∃ N nm q bs hdct sn sub ab col dd k0 k1 k2 k3 k5 mN, h.get? C = some (excClassObj nm q C N bs bm hdct sn sub ab col dd k0 k1 k2 k3 k5 "ValueError.__new__") ∧ h.Ns N mN ∧ mN "__init__" = none ∧ OwnTail h veL bm
structure SigOK (S : Sig) : Prop where
 tab : TabOK S
 globs : ∀ i v, S.P.globs.lookup i = some v → ∃ nm x, S.T[i]? = some nm ∧ nsIn S.K mainGlobals nm = some (some x) ∧ ∀ ρ, VR ρ v x
 tabs : ([] : List Nat) = []
 fns : ∀ i A, S.fn i = some A → ∃ nm, S.T[i]? = some nm ∧ nsIn S.K mainGlobals nm = some (some (.ref A)) ∧ keepIn S.K (.ref A) = true
 bis : ∀ b, nsIn S.K mainGlobals (biName b) = some none
 isi : nsIn S.K mainGlobals "isinstance" = some none
 kls : ∀ k ≤ isB, nsIn S.K mainGlobals (clsName k) = some none
 mes : ∀ i A, S.me i = some A → ∃ nm, S.T[i]? = some nm ∧ i ∉ S.P.attrs ∧ keepIn S.K (.ref A) = true ∧ isFn S.K (.ref A) = true ∧ ∀ k C, S.cls k = some C → plainGet S.K C nm = true ∧ findIn S.K (.ref C) nm = some (some (.ref A))
 cls : ∀ i C, S.cls i = some C → ∃ nm, S.T[i]? = some nm ∧ nsIn S.K mainGlobals nm = some (some (.ref C)) ∧ keepIn S.K (.ref C) = true ∧ makesIn S.K C = true
 init : ∃ fI, S.me S.P.init = some fI ∧ ∀ i C, S.cls i = some C → findIn S.K (.ref C) "__init__" = some (some (.ref fI)) ∧ typeIn S.K (.ref fI) = some (.type "function")
 nApp : S.T[idAppend]? = some ("append" : Str)
 nPop : S.T[idPop]? = some ("pop" : Str)
 nClr : S.T[idClear]? = some ("clear" : Str)
 exs : ∀ i C, S.ex i = some C → ∃ nm, S.T[i]? = some nm ∧ nsIn S.K mainGlobals nm = some (some (.ref C)) ∧ ∀ h, S.K.In h → ExOb h C (bmOf S C)
 exi : ∀ i j C, S.ex i = some C → S.ex j = some C → i = j
 exb : ∀ i C, S.ex i = some C → (i = S.P.xb ↔ C = S.xp)
theorem SigOK.at (h : SigOK S) (lk : List (Nat × Addr × Obj)) : SigOK (S.at lk) :=
 ⟨⟨h.tab.nodup, fun n hn => let ⟨nm, h1, h2⟩ := h.tab.attrs n hn; ⟨nm, h1, fun k C hC => let o := h2 k C hC; ⟨o.g, o.h, o.f, o.s, o.p, o.t⟩⟩⟩, h.globs, h.tabs, h.fns, h.bis, h.isi, h.kls, h.mes, h.cls, h.init, h.nApp, h.nPop, h.nClr
 , h.exs, h.exi, h.exb
 ⟩
theorem bi_boot (b : Bi) : bootBuiltins (biName b) = some (biVal b) := by cases b <;> decide +kernel
theorem cls_boot {k : Nat} (h : k ≤ isB) : bootBuiltins (clsName k) = some (.type (clsName k)) := by
 match k, h with
 | 0, _ => decide +kernel
 | 1, _ => decide +kernel
 | 2, _ => decide +kernel
 | 3, _ => decide +kernel
 | 4, _ => decide +kernel
theorem isi_boot : bootBuiltins "isinstance" = some (.builtin "isinstance") := by decide +kernel
theorem bi_ne (b : Bi) : biName b ≠ "__name__" := by cases b <;> decide +kernel
theorem cls_ne {k : Nat} (h : k ≤ isB) : (clsName k : Str) ≠ "__name__" := by
 match k, h with
 | 0, _ => decide +kernel
 | 1, _ => decide +kernel
 | 2, _ => decide +kernel
 | 3, _ => decide +kernel
 | 4, _ => decide +kernel
theorem kept_bi (b : Bi) : Kept S (biVal b) := by cases b <;> first | exact kept_builtin _ | exact kept_type _
theorem sm_Call {xs : List Expr} {nm : Str} {p pos : Pos} {f : Value} {x : X V} (hn : SM S c ρ (fun _ _ v => v = f) (eval (.Name nm p) c.env) (X.pure V.none))
  (hc : SM S c ρ VR (callWith pos f [] (backTo pos (starEach xs c.env)) []) x) : SM S c ρ VR (eval (.Call (.Name nm p) xs [] pos) c.env) x := by
 have key : SM S c ρ VR (eval (.Name nm p) c.env >>= fun f => callWith pos f [] (backTo pos (starEach xs c.env)) []) (X.bind (X.pure V.none) fun _ => x) :=
  hn.bind fun ρ' _ v k h => by subst h; exact hc.mono k
 rw [X.pure_bind] at key
 exact key.eq (by rw [arm_eval_Call_Name']; rfl)
theorem sm_call {n : Nat} (K : CtxOK S (n + 2) c) (OK : SigOK S) {sc : Scope} (SO : ScOK sc c.env) {C : Calls} (HC : CallsOK S C n) {xs : List Expr} {nm : Str} {p pos : Pos} {f : Nat} {ax : X (List V)} (hn : S.T[f]? = some nm) (hg : isGlob sc nm = true) (hf : (S.fn f).isSome = true)
  (hs : NoStar xs c.env) (ha : SM S c ρ VRs (spliced (backTo pos (starEach xs c.env))) ax) : SM S c ρ VR (eval (.Call (.Name nm p) xs [] pos) c.env) (X.bind ax fun vs => C false f vs) := by
 obtain ⟨A, hA⟩ := Option.isSome_iff_exists.mp hf
 obtain ⟨nm', h1, h2, h3⟩ := OK.fns f A hA
 rw [hn] at h1; cases h1
 have hg' := Bool.and_eq_true_iff.mp hg
 refine sm_Call (f := .ref A) (sm_top K.toCtx0 (SO.glob _ (of_decide_eq_true hg'.1)) (by simpa using hg'.2) h2 fun _ => rfl) ?_
 exact sm_callWith K.toCtx0 (kept_K h3) hs ha fun ρ' vs ws k h => (HC.fn S.lk (K.le (Nat.le_add_right _ _)) hA h).sm
theorem sm_bi {n : Nat} (K : CtxOK S n c) (OK : SigOK S) {sc : Scope} (SO : ScOK sc c.env) {xs : List Expr} {nm : Str} {p pos : Pos} {b : Bi} {ax : X (List V)} (hn : nm = biName b) (hg : isGlob sc nm = true)
  (hs : NoStar xs c.env) (ha : SM S c ρ VRs (spliced (backTo pos (starEach xs c.env))) ax) : SM S c ρ VR (eval (.Call (.Name nm p) xs [] pos) c.env) (X.bind ax fun vs => builtin b vs) := by
 subst hn
 have hg' := Bool.and_eq_true_iff.mp hg
 refine sm_Call (f := biVal b) (sm_boot K.toCtx0 (SO.glob _ (of_decide_eq_true hg'.1)) (by simpa using hg'.2) (OK.bis b) (bi_boot b) (bi_ne b) fun _ => rfl) ?_
 exact sm_callWith K.toCtx0 (kept_bi b) hs ha fun ρ' vs ws k h => sm_builtin K.hand h
theorem sm_isinst {n : Nat} (K : CtxOK S n c) (OK : SigOK S) {sc : Scope} (SO : ScOK sc c.env) {e : Expr} {cn : Str} {p q pos : Pos} {k : Nat} {x : X V} (hg : isGlob sc "isinstance" = true) (hcg : isGlob sc cn = true) (hk : k ≤ isB) (hcn : cn = (clsName k : Str))
  (hs : NoStar [e, .Name cn q] c.env) (he : starEach [e, .Name cn q] c.env = [(false, eval e c.env), (false, eval (.Name cn q) c.env)]) (hx : SM S c ρ VR (eval e c.env) x) :
  SM S c ρ VR (eval (.Call (.Name "isinstance" p) [e, .Name cn q] [] pos) c.env) (X.bind x fun v => X.bind (isinsts S.P v [k]) fun b => X.pure (.bool b)) := by
 subst hcn
 have hg' := Bool.and_eq_true_iff.mp hg
 have hcg' := Bool.and_eq_true_iff.mp hcg
 refine sm_Call (f := .builtin "isinstance") (sm_boot K.toCtx0 (SO.glob _ (of_decide_eq_true hg'.1)) (by simpa using hg'.2) OK.isi isi_boot (by decide +kernel) fun _ => rfl) ?_
 have key : SM S c ρ (fun ρ' v ws => ∃ w, ws = [w, .type (clsName k)] ∧ VR ρ' v w) (spliced (backTo pos (starEach [e, .Name (clsName k) q] c.env))) (X.bind x fun v => X.bind (X.pure V.none) fun _ => X.pure v) := by
  rw [he]
  refine sm_splice hx fun ρ' v w k' hv => ?_
  refine sm_splice (sm_boot (x := V.none) (RV := fun _ _ u => u = .type (clsName k)) K.toCtx0 (SO.glob _ (of_decide_eq_true hcg'.1)) (by simpa using hcg'.2) (OK.kls k hk) (cls_boot hk) (cls_ne hk) fun _ => rfl) fun ρ'' _ u k'' hu => ?_
  subst hu
  exact SM.pure fun ρ₃ k₃ => ⟨w, rfl, (hv.mono k'').mono k₃⟩
 refine (sm_callWith (RA := fun ρ' v ws => ∃ w, ws = [w, .type (clsName k)] ∧ VR ρ' v w) (g := fun v => X.bind (isinsts S.P v [k]) fun b => X.pure (.bool b)) K.toCtx0 (kept_builtin "isinstance") hs key fun ρ' v ws k' h => ?_).eqx ?_
 ·obtain ⟨w, rfl, hw⟩ := h
  exact sm_isi hw hk
 ·rw [X.bind_assoc]; rfl
end Mine.Internal
set_option autoImplicit false
namespace Mine.Internal
open PySem PySem.W PySem.Calls PyProof.Rows
variable {S : Sig} {c : Cx} {ρ : List Addr}
theorem methodCall_of {α : Type} {o : Expr} {name : Str} {apos pos : Pos} {env : Env} {ov : Value} {n : Nat} {args : List (Bool × Sem Value)} {M : Model} {A : Around} {E : Value → Shared → Prop} {s : Shared} {Q : Value → Shared → Prop} {f : Value} {first : List Value}
  (_ : α) (hform : methodCallForm n args [] = true) (hline : (apos.endLine == pos.line) = true)
  (hm : ∀ Q' : Value × List Value → Shared → Prop, Q' (f, first) s → wpAny M A (getMethod ov name (do return (← importBound o env).getD true)) Q' E s)
  (h : wpAny M A (callWith pos f first args []) Q E s) : wpAny M A (methodCall o name apos pos env ov n args []) Q E s := by
 unfold methodCall
 have hpos : methodCallPos true o env apos pos = pure pos := by unfold methodCallPos; simp [hline]
 rw [hform]
 refine wpAny_bind (wpAny_holding ?_)
 show wpAny M A (getMethod ov name _) _ E s
 exact hm _ (wpAny_bind (wpAny_of_eq hpos h))
theorem kdOf_list {v : V} {σ : H} (h : kdOf v σ = .list) : ∃ k xs, v = .ref k ∧ σ.get k = some (.list xs) := by
 unfold kdOf at h
 split at h
 ·split at h
  ·split at h <;> cases h
  ·rename_i e; exact ⟨_, _, rfl, e⟩
  ·cases h
  ·cases h
 ·cases h
 ·cases h
theorem kdOf_dict {v : V} {σ : H} (h : kdOf v σ = .dict) : ∃ k xs, v = .ref k ∧ σ.get k = some (.dict xs) := by
 unfold kdOf at h
 split at h
 ·split at h
  ·split at h <;> cases h
  ·cases h
  ·rename_i e; exact ⟨_, _, rfl, e⟩
  ·cases h
 ·cases h
 ·cases h
theorem kdOf_inst {v : V} {σ : H} (h : kdOf v σ = .inst) : ∃ k q d es, v = .ref k ∧ σ.get k = some (.inst q d) ∧ σ.get d = some (.attrs es) := by
 unfold kdOf at h
 split at h
 ·split at h
  ·rename_i e
   split at h
   ·rename_i e2; exact ⟨_, _, _, _, rfl, e, e2⟩
   ·cases h
  ·cases h
  ·cases h
  ·cases h
 ·cases h
 ·cases h
theorem sm_meth {n : Nat} (K : CtxOK S (n + 2) c) (OK : SigOK S) {C : Calls} (HC : CallsOK S C n) {o : Expr} {xs : List Expr} {nm : Str} {i : Nat} {apos pos : Pos} {x : X V} {ax : X (List V)} (hn : S.T[i]? = some nm) (hb : plainBase o = true) (hline : (apos.endLine == pos.line) = true)
  (hlen : xs.length < 30) (hi : i ≤ 12 ∨ (S.me i).isSome = true) (hs : NoStar xs c.env) (hx : SM S c ρ VR (eval o c.env) x) (ha : SM S c ρ VRs (spliced (backTo pos (starEach xs c.env))) ax) :
  SM S c ρ VR (eval (.Call (.Attribute o nm apos) xs [] pos) c.env) (X.bind x fun ov => fun h => match kdOf ov h with
   | .inst => if i ≤ 12 then none else X.bind ax (fun vs => C true i (ov :: vs)) h
   | .list => if i = idAppend ∨ i = idPop ∨ i = idClear then X.bind ax (fun vs => listMeth S.P ov i vs) h else none
   | .dict => if i = idPop then X.bind ax (fun vs => dictMeth S.P ov i vs) h else none
   | _ => none) := by
 rw [arm_eval_Call, base_of hb]
 refine hx.bind fun ρ' a v k hv => SM.stand ?_
 show SM S c ρ' VR (methodCall o nm apos pos c.env v (xs.length + 0) (backTo pos (starEach xs c.env)) []) _
 have hform : methodCallForm (xs.length + 0) (backTo pos (starEach xs c.env)) [] = true := by
  unfold methodCallForm
  rw [(back_noStar hs).2]
  simp [hlen]
 have ha' := ha.mono k
 intro os σ s r σ' hp hl he Q E hQ
 cases hk : kdOf a σ with
 | inst =>
  dsimp only at he
  rw [hk] at he
  dsimp only at he
  split at he
  ·cases he
  ·rename_i hi'
   obtain ⟨A, hA⟩ := Option.isSome_iff_exists.mp (hi.resolve_left hi')
   obtain ⟨nm', h1, h2, h3, h4, h5⟩ := OK.mes i A hA
   rw [hn] at h1; cases h1
   obtain ⟨q, cl, d, es, rfl, e1, e2⟩ := kdOf_inst hk
   obtain ⟨B, o1, rfl, _, _, ⟨Cl, D, hC, hD, rfl⟩, g1, _⟩ := hl.ref hp e1 hv
   obtain ⟨D', o2, _, eD, ⟨es', n', rfl, hes, hz⟩, g2, _⟩ := hl.at e2
   rw [hD] at eD; cases eD
   have I : InstAt s.heap B ⟨.ref Cl, some D, .plain, #[]⟩ Cl (some (dictOf es' n')) := ⟨g1, rfl, rfl, g2⟩
   have hg : getL nm es' = some none := by
    rcases attrs_get OK.tab hn hes with ⟨_, e⟩ | ⟨v', w, e, _, _⟩
    ·exact e
    ·exact absurd (attrs_mem hes e) h2
   refine methodCall_of () hform hline (fun Q' q' => method_inst hl.fr K.kin I (h5 _ _ hC).1 (h5 _ _ hC).2 h4 hg q') ?_
   exact sm_callWith K.toCtx0 (kept_K h3) hs ha' (fun ρ'' vs ws k' h => (HC.me S.lk (K.le (Nat.le_add_right _ _)) hA (.cons (hv.mono k') h)).sm) os σ s r σ' hp hl he Q E hQ
 | list =>
  dsimp only at he
  rw [hk] at he
  dsimp only at he
  split at he
  ·rename_i hi'
   obtain ⟨q, ys, rfl, e1⟩ := kdOf_list hk
   obtain ⟨B, o1, rfl, _, _, ⟨vs, m, rfl, hvs, _⟩, g1, _⟩ := hl.ref hp e1 hv
   have hT : s.TypeIs (.ref B) "list" := ⟨_, g1, rfl⟩
   have hd : ∀ a, Value.ref B = .ref a → ∃ ob, s.heap.get? a = some ob ∧ ob.dict = none := fun a e => by cases e; exact ⟨_, g1, rfl⟩
   rcases hi' with rfl | rfl | rfl
   ·rw [OK.nApp] at hn; cases hn
    refine methodCall_of () hform hline (fun Q' q' => getMethod_builtin hT PySem.F.plainAttrs_list PySem.F.slot_list_append PySem.F.type_list_append hd q') ?_
    exact sm_callWith K.toCtx0 (kept_builtin _) hs ha' (fun ρ'' vs ws k' h => sm_append (hv.mono k') h) os σ s r σ' hp hl he Q E hQ
   ·rw [OK.nPop] at hn; cases hn
    refine methodCall_of () hform hline (fun Q' q' => getMethod_builtin hT PySem.F.plainAttrs_list PySem.F.slot_list_pop PySem.F.type_list_pop hd q') ?_
    exact sm_callWith K.toCtx0 (kept_builtin _) hs ha' (fun ρ'' vs ws k' h => sm_pop (hv.mono k') h) os σ s r σ' hp hl he Q E hQ
   ·rw [OK.nClr] at hn; cases hn
    refine methodCall_of () hform hline (fun Q' q' => getMethod_builtin hT PySem.F.plainAttrs_list PySem.F.slot_list_clear PySem.F.type_list_clear hd q') ?_
    exact sm_callWith K.toCtx0 (kept_builtin _) hs ha' (fun ρ'' vs ws k' h => sm_clear (hv.mono k') h) os σ s r σ' hp hl he Q E hQ
  ·cases he
 | dict =>
  dsimp only at he
  rw [hk] at he
  dsimp only at he
  split at he
  ·rename_i hi'
   subst hi'
   obtain ⟨q, ys, rfl, e1⟩ := kdOf_dict hk
   obtain ⟨B, o1, rfl, _, _, ⟨es', m, kvs, rfl, k1, k2, k3, k4, hz⟩, g1, _⟩ := hl.ref hp e1 hv
   have hT : s.TypeIs (.ref B) "dict" := ⟨_, g1, rfl⟩
   have hd : ∀ a, Value.ref B = .ref a → ∃ ob, s.heap.get? a = some ob ∧ ob.dict = none := fun a e => by cases e; exact ⟨_, g1, rfl⟩
   rw [OK.nPop] at hn; cases hn
   refine methodCall_of () hform hline (fun Q' q' => getMethod_builtin hT PySem.F.plainAttrs_dict PySem.F.slot_dict_pop PySem.F.type_dict_pop hd q') ?_
   exact sm_callWith K.toCtx0 (kept_builtin _) hs ha' (fun ρ'' vs ws k' h => sm_dpop (hv.mono k') h) os σ s r σ' hp hl he Q E hQ
  ·cases he
 | str => dsimp only at he; rw [hk] at he; cases he
 | other => dsimp only at he; rw [hk] at he; cases he
theorem emptyDict_attrs : OR S ρ (.attrs []) emptyDict := ⟨[], 0, rfl, .nil, by decide⟩
theorem CtxOK.under {n : Nat} (K : CtxOK S (n + 2) c) {cd : Code} (hw : cd.weight ≤ 2) (hu : cd.cUnits ≤ 4) (hv : cd.envs = []) : CtxOK S n { c with A := c.A.under cd } := by
 refine ⟨⟨?_, ?_, K.kin, K.top, K.lim, K.kind, K.glob, K.blt, K.locs, by show ∃ l, pushEnvs cd.envs c.A.frames = some l ∧ _; rw [hv]; exact K.frs⟩, K.hand⟩
 ·have := K.units; show c.A.units + cd.cUnits + _ + _ < _; lia
 ·have := K.depth; show c.A.depth + cd.weight + _ < _; lia
theorem sm_new {n : Nat} (K : CtxOK S (n + 2) c) (OK : SigOK S) {sc : Scope} (SO : ScOK sc c.env) {C : Calls} (HC : CallsOK S C n) {nm : Str} {p pos : Pos} {f : Nat} (hn : S.T[f]? = some nm) (hg : isGlob sc nm = true) (hf : (S.cls f).isSome = true) :
  SM S c ρ VR (eval (.Call (.Name nm p) [] [] pos) c.env) (X.bind (alloc (.attrs [])) fun d => match d with
  | .ref k => X.bind (alloc (.inst f k)) fun o => X.bind (C true S.P.init [o]) fun r => match r with | .none => X.pure o | _ => X.none
  | _ => X.none) := by
 obtain ⟨Cl, hCl⟩ := Option.isSome_iff_exists.mp hf
 obtain ⟨nm', h1, h2, h3, h4⟩ := OK.cls f Cl hCl
 rw [hn] at h1; cases h1
 obtain ⟨fI, hI, hI'⟩ := OK.init
 have hg' := Bool.and_eq_true_iff.mp hg
 refine sm_Call (f := .ref Cl) (sm_top K.toCtx0 (SO.glob _ (of_decide_eq_true hg'.1)) (by simpa using hg'.2) h2 fun _ => rfl) ?_
 generalize hy : (X.bind (alloc (.attrs [])) fun d => match d with
  | .ref k => X.bind (alloc (.inst f k)) fun o => X.bind (C true S.P.init [o]) fun r => match r with | .none => X.pure o | _ => X.none
  | _ => X.none) = y
 refine (sm_callWith (xs := []) (ax := X.pure ()) (RA := fun _ _ ws => ws = []) (g := fun _ => y) K.toCtx0 (kept_K h3) (by unfold NoStar; rfl) (SM.pure fun _ _ => rfl) fun ρ' _ ws k hw => ?_).eqx (X.pure_bind () (fun _ => y)).symm
 subst hw hy
 show SM S c ρ' VR (call (.ref Cl) []) _
 intro os σ s r σ' hp hl he Q E hQ
 refine wpAny_call ?_
 obtain ⟨hh, g, d, t, oss⟩ := s
 have KX := K.kin.keeps hl.fr.keep
 refine make_core (makes_of KX h4) (looks_findIn KX (hI' f Cl hCl).1) (fun self => bind_fn KX self (hI' f Cl hCl).2) (.inl rfl) ?_
 have l1 := hl.pushed (o := .attrs []) emptyDict_attrs
 have eD : (adr (os ++ [(hh.objs.size, emptyDict)]))[σ.length]? = some hh.objs.size := by rw [hl.len]; simp [adr]
 have l2 := l1.pushed (x := instObj Cl hh.objs.size) (o := .inst f σ.length) ⟨Cl, hh.objs.size, hCl, eD, rfl⟩
 have hx : (hh.push emptyDict).objs.size = hh.objs.size + 1 := Heap.size_push ..
 have v2 := l1.ref_new (p := ((hh.push emptyDict).objs.size, instObj Cl hh.objs.size))
 have len1 : (σ.push (.attrs [])).length = σ.length + 1 := by simp [H.push]
 have he : X.bind (C true S.P.init [.ref (σ.length + 1)]) (fun r => match r with | .none => X.pure (.ref (σ.length + 1)) | _ => X.none) ((σ.push (.attrs [])).push (.inst f σ.length)) = some (r, σ') := by
  rw [← len1]; exact he
 rw [len1, hx] at v2
 rw [hx] at l2
 have K' : CtxOK S n { c with A := c.A.under (.builtin "type.__call__" ⟨[.ref Cl], []⟩) } := K.under (Nat.le_of_ble_eq_true rfl) (Nat.le_of_ble_eq_true rfl) rfl
 have call := HC.me S.lk (c := { c with A := c.A.under (.builtin "type.__call__" ⟨[.ref Cl], []⟩) }) K' hI (All2.one (R := VR (adr (os ++ [(hh.objs.size, emptyDict)] ++ [(hh.objs.size + 1, instObj Cl hh.objs.size)]))) v2)
 rcases X.bind_inv he with ⟨rv, σ₁, e1, e2⟩ | ⟨q, e1, rfl⟩
 ·refine call _ _ ⟨(hh.push emptyDict).push (instObj Cl hh.objs.size), g, d, t, oss⟩ _ _ List.prefix_rfl l2 e1 _ fun os' h' tk a k' l' hr => ?_
  cases rv with
  | none =>
   cases e2
   refine ⟨hr, hQ os' h' tk _ ((adr_new.trans adr_new).trans k') l' (v2.mono k')⟩
  | _ => cases e2
 ·exact call _ _ ⟨(hh.push emptyDict).push (instObj Cl hh.objs.size), g, d, t, oss⟩ _ _ List.prefix_rfl l2 e1 _ fun os' h' tk e k' l' hr => hQ os' h' tk e ((adr_new.trans adr_new).trans k') l' hr
end Mine.Internal
set_option autoImplicit false
namespace Mine.Internal
open PySem PySem.W PySem.Calls PyProof.Rows
variable {S : Sig} {c : Cx} {ρ : List Addr}
section
variable {h₀ h h' : Heap} {L : Addr} {m : Str → Option Value} {fs : Fs} {k1 k2 kp os : List (Addr × Obj)} {σ : H} {a I : Addr} {x x' : Obj}
theorem mid_mem {p : Addr × Obj} (hp : p ∈ (k1 ++ (a, x) :: k2) ++ os) : p = (a, x) ∨ p ∈ k1 ++ k2 ++ os := by
 simp only [List.mem_append, List.mem_cons] at hp ⊢
 rcases hp with (q | q | q) | q
 ·exact .inr (.inl (.inl q))
 ·exact .inl q
 ·exact .inr (.inl (.inr q))
 ·exact .inr (.inr q)
theorem adr_mid : adr (k1 ++ (a, x) :: k2 ++ os) = adr k1 ++ a :: (adr k2 ++ adr os) := by simp [adr]
theorem Led.kmid (l : Led S h₀ L m fs (k1 ++ (a, x) :: k2) os σ h) : h.get? a = some x ∧ a ≠ L ∧ h₀.get? a = none ∧ (∀ f ∈ fs, f.1 ≠ a) ∧ (∀ p ∈ k1 ++ k2 ++ os, p.1 ≠ a) := by
 have hm : (a, x) ∈ (k1 ++ (a, x) :: k2) ++ os := by simp
 refine ⟨(l.news _ hm).1, (l.news _ hm).2.1, (l.news _ hm).2.2, fun f hf e => (l.outs f hf).2.2.2 (by rw [e]; exact List.mem_map.mpr ⟨_, hm, rfl⟩), fun p hp e => ?_⟩
 have nd := l.nd
 rw [adr_mid] at nd
 obtain ⟨_, n2, n3⟩ := List.nodup_append.mp nd
 rcases List.mem_append.mp hp with hp | hp
 ·rcases List.mem_append.mp hp with hp | hp
  ·exact n3 p.1 (List.mem_map_of_mem hp) a (.head _) e
  ·exact (List.nodup_cons.mp n2).1 (e ▸ List.mem_append_left _ (List.mem_map_of_mem hp))
 ·exact (List.nodup_cons.mp n2).1 (e ▸ List.mem_append_right _ (List.mem_map_of_mem hp))
theorem Led.core {W W' : List (Addr × Obj)} (l : Led S h₀ L m fs (k1 ++ (W ++ k2)) os σ h) (hk : ∀ c o, c ∉ adr W → h.get? c = some o → h'.get? c = some o) (sub : (adr W').Sublist (adr W)) (hW : ∀ p ∈ W', h'.get? p.1 = some p.2) : Led S h₀ L m fs (k1 ++ (W' ++ k2)) os σ h' := by
 have ea : adr (k1 ++ (W ++ k2) ++ os) = adr k1 ++ (adr W ++ (adr k2 ++ adr os)) := by simp [adr]
 have eb : adr (k1 ++ (W' ++ k2) ++ os) = adr k1 ++ (adr W' ++ (adr k2 ++ adr os)) := by simp [adr]
 have sl : (adr (k1 ++ (W' ++ k2) ++ os)).Sublist (adr (k1 ++ (W ++ k2) ++ os)) := by rw [ea, eb]; exact List.Sublist.append_left (List.Sublist.append_right sub _) _
 have inW : ∀ {a}, a ∈ adr W → a ≠ L ∧ h₀.get? a = none := fun {a} ha => by
  obtain ⟨p, hp, rfl⟩ := List.mem_map.mp ha
  exact (l.news p (List.mem_append_left _ (List.mem_append_right _ (List.mem_append_left _ hp)))).2
 have nd := l.nd
 rw [ea] at nd
 obtain ⟨_, n2, n3⟩ := List.nodup_append.mp nd
 obtain ⟨_, _, n6⟩ := List.nodup_append.mp n2
 have kept : ∀ p, p ∈ k1 ++ (W ++ k2) ++ os → p.1 ∉ adr W → h'.get? p.1 = some p.2 ∧ p.1 ≠ L ∧ h₀.get? p.1 = none := fun p hp hn => ⟨hk _ _ hn (l.news p hp).1, (l.news p hp).2⟩
 refine ⟨⟨l.fr.ns.at' fun o e => hk _ o (fun q => (inW q).1 rfl) e, fun b o e => hk b o (fun q => by rw [(inW q).2] at e; cases e) (l.fr.keep b o e), l.fr.above⟩, fun p hp => ?_, l.nd.sublist sl, l.objs,
  fun f hf => ⟨(l.outs f hf).1.at' fun o e => hk _ o (fun q => (l.outs f hf).2.2.2 (by rw [ea]; exact List.mem_append_right _ (List.mem_append_left _ q))) e, (l.outs f hf).2.1, (l.outs f hf).2.2.1, fun q => (l.outs f hf).2.2.2 (sl.subset q)⟩, l.top, fun b hb => l.big b (sl.subset hb), l.frz, l.lkd⟩
 rcases List.mem_append.mp hp with hp | hp
 ·rcases List.mem_append.mp hp with hp | hp
  ·exact kept p (List.mem_append_left _ (List.mem_append_left _ hp)) fun q => n3 _ (List.mem_map_of_mem hp) _ (List.mem_append_left _ q) rfl
  ·rcases List.mem_append.mp hp with hp | hp
   ·exact ⟨hW p hp, inW (sub.subset (List.mem_map_of_mem hp))⟩
   ·exact kept p (List.mem_append_left _ (List.mem_append_right _ (List.mem_append_right _ hp))) fun q => n6 _ q _ (List.mem_append_left _ (List.mem_map_of_mem hp)) rfl
 ·exact kept p (List.mem_append_right _ hp) fun q => n6 _ q _ (List.mem_append_right _ (List.mem_map_of_mem hp)) rfl
theorem not_one {c : Addr} (h : c ∉ adr [(a, x)]) : c ≠ a := fun e => h (List.mem_singleton.mpr e)
theorem Led.kset (l : Led S h₀ L m fs (k1 ++ (a, x) :: k2) os σ h) (hs : Heap.SameBut a h h') (hx : h'.get? a = some x') : Led S h₀ L m fs (k1 ++ (a, x') :: k2) os σ h' :=
 Led.core (W := [(a, x)]) (W' := [(a, x')]) l (fun c o hc e => (hs.2 c (not_one hc)).trans e) (List.Sublist.refl _) fun p hp => by rw [List.mem_singleton.mp hp]; exact hx
theorem Led.extBut (l : Led S h₀ L m fs (k1 ++ (a, x) :: k2) os σ h) (hs : Heap.ExtBut a h h') : Led S h₀ L m fs (k1 ++ k2) os σ h' :=
 Led.core (W := [(a, x)]) (W' := []) l (fun c o hc e => hs c o (not_one hc) e) (List.nil_sublist _) fun p hp => nomatch hp
theorem Led.kdrop (l : Led S h₀ L m fs (k1 ++ (a, x) :: k2) os σ h) : Led S h₀ L m fs (k1 ++ k2) os σ h := l.extBut fun _ _ _ e => e
theorem Led.kdrops {cs : List (Addr × Obj)} (l : Led S h₀ L m fs (kp ++ cs) os σ h) : Led S h₀ L m fs kp os σ h := by
 have l' := Led.core (W := cs) (W' := []) (k1 := kp) (k2 := []) (h' := h) (by rw [List.append_nil]; exact l) (fun _ _ _ e => e) (List.nil_sublist _) fun p hp => nomatch hp
 rwa [List.append_nil, List.append_nil] at l'
theorem Led.kadd (l : Led S h₀ L m fs kp os σ h) {q : Addr} (hx : h.get? q = some x) (q1 : q ≠ L) (q2 : h₀.get? q = none) (q3 : q ∉ adr (kp ++ os)) (q4 : ∀ f ∈ fs, f.1 ≠ q) (hq : mainGlobals < q) :
  Led S h₀ L m fs (kp ++ (q, x) :: []) os σ h := by
 have mem : ∀ p, p ∈ (kp ++ (q, x) :: []) ++ os → p = (q, x) ∨ p ∈ kp ++ os := fun p hp => by
  have := mid_mem hp
  rwa [List.append_nil] at this
 refine ⟨l.fr, fun p hp => ?_, ?_, l.objs, fun f hf => ⟨(l.outs f hf).1, (l.outs f hf).2.1, (l.outs f hf).2.2.1, fun hm => ?_⟩, l.top, fun b hb => ?_, l.frz, l.lkd⟩
 ·rcases mem p hp with rfl | hp
  ·exact ⟨hx, q1, q2⟩
  ·exact l.news p hp
 ·have nd := l.nd
  unfold adr at nd q3 ⊢
  rw [List.map_append] at nd q3
  obtain ⟨n1, n2, n3⟩ := List.nodup_append.mp nd
  rw [List.append_assoc, List.map_append, List.cons_append, List.nil_append, List.map_cons]
  refine List.nodup_append.mpr ⟨n1, List.nodup_cons.mpr ⟨fun e => q3 (List.mem_append_right _ e), n2⟩, fun b hb d hd e => ?_⟩
  rcases List.mem_cons.mp hd with rfl | hd
  ·exact q3 (List.mem_append_left _ (e ▸ hb))
  ·exact n3 b hb d hd e
 ·obtain ⟨p, hp, e⟩ := List.mem_map.mp hm
  rcases mem p hp with rfl | hp
  ·exact q4 f hf e.symm
  ·exact (l.outs f hf).2.2.2 (e ▸ List.mem_map_of_mem hp)
 ·obtain ⟨p, hp, rfl⟩ := List.mem_map.mp hb
  rcases mem p hp with rfl | hp
  ·exact notMods hq
  ·exact l.big _ (List.mem_map_of_mem hp)
theorem Led.knew (l : Led S h₀ L m fs kp os σ h) {q : Addr} (k : ∀ b o, h.get? b = some o → h'.get? b = some o) (hf : h.get? q = none) (hq : mainGlobals < q) (hx : h'.get? q = some x) : Led S h₀ L m fs (kp ++ (q, x) :: []) os σ h' :=
 let ⟨q1, q2, q3, q4⟩ := l.free hf
 (l.keep k).kadd hx q1 q2 q3 q4 hq
theorem Led.kpush (l : Led S h₀ L m fs kp os σ h) (hx : x.isFreed = false) : Led S h₀ L m fs (kp ++ (h.objs.size, x) :: []) os σ (h.push x) :=
 l.knew (fun _ _ e => Heap.get?_push_of_some _ e) (get_size h) l.room (Heap.get?_push_size _ hx)
end
theorem Led.kadds {h₀ h : Heap} {L : Addr} {m : Str → Option Value} {fs : Fs} {os : List (Addr × Obj)} {σ : H} : ∀ {cs kp : List (Addr × Obj)}, Led S h₀ L m fs kp os σ h → (adr cs).Nodup → (∀ q ∈ cs, h.get? q.1 = some q.2 ∧ q.1 ≠ L ∧ h₀.get? q.1 = none ∧ q.1 ∉ adr (kp ++ os) ∧ (∀ f ∈ fs, f.1 ≠ q.1) ∧ mainGlobals < q.1) →
  Led S h₀ L m fs (kp ++ cs) os σ h
 | [], kp, l, _, _ => by simpa using l
 | q :: cs, kp, l, nd, hq => by
  obtain ⟨a, x⟩ := q
  obtain ⟨g1, g2, g3, g4, g5, g6⟩ := hq _ (.head _)
  have l' := l.kadd g1 g2 g3 g4 g5 g6
  simp only [adr, List.map_cons, List.nodup_cons] at nd
  have := Led.kadds (cs := cs) l' nd.2 fun q' hq' => by
   obtain ⟨e1, e2, e3, e4, e5, e6⟩ := hq q' (.tail _ hq')
   refine ⟨e1, e2, e3, fun hm => ?_, e5, e6⟩
   obtain ⟨p, hp, e⟩ := List.mem_map.mp hm
   rcases mid_mem hp with rfl | hp
   ·exact nd.1 (List.mem_map.mpr ⟨q', hq', e.symm⟩)
   ·rw [List.append_nil] at hp
    exact e4 (e ▸ List.mem_map_of_mem hp)
  simpa using this
noncomputable def ItAt (h : Heap) (I : Addr) (ρ : List Addr) (v : V) (σ : H) (i : Nat) : Prop := match v with
 | .ref a => ∃ A, ρ[a]? = some A ∧ (match σ.get a with
  | some (.list _) => h.IsListIter I A i
  | some (.tup _) => h.IsTupleIter I A i
  | some (.rng x y z) => IsRangeIter h I (x + (i : Int) * z) (((rangeList x y z).length : Int) - (i : Int)) z
  | _ => False)
 | _ => False
theorem ItAt.at {h h' : Heap} {I : Addr} {ρ ρ' : List Addr} {v : V} {σ σ' : H} {i : Nat} (t : ItAt h I ρ v σ i) (k : ∀ o, h.get? I = some o → h'.get? I = some o) (kρ : ρ <+: ρ') (st : still v σ σ' = true) : ItAt h' I ρ' v σ' i := by
 unfold ItAt at t ⊢
 cases v with
 | ref a =>
  obtain ⟨A, hA, t⟩ := t
  have e : σ'.get a = σ.get a := of_decide_eq_true st
  refine ⟨A, pre_get kρ hA, ?_⟩
  rw [e]
  cases hq : σ.get a with
  | none => rw [hq] at t; exact t
  | some o =>
   rw [hq] at t
   cases o with
   | list xs => obtain ⟨o, q, r⟩ := t; exact ⟨o, k o q, r⟩
   | tup xs => obtain ⟨o, q, r⟩ := t; exact ⟨o, k o q, r⟩
   | rng x y z => exact k _ t
   | _ => exact t
 | _ => exact t
theorem range_len {a b z : Int} (hz : 0 < z) : Builtin.Range.rangeSize a b z = ((rangeList a b z).length : Int) := by
 unfold Builtin.Range.rangeSize rangeList
 rw [if_pos hz, if_pos (show z > 0 from hz), List.length_map, List.length_range]
 split
 ·have : 0 ≤ (b - a - 1) / z := Int.ediv_nonneg (by lia) (Int.le_of_lt hz)
  rw [Int.toNat_of_nonneg (by lia)]
 ·rfl
theorem range_at {a b z : Int} {i : Nat} {v : V} (hz : 0 < z) (h : ((rangeList a b z).map V.int)[i]? = some v) : v = .int (a + (i : Int) * z) ∧ i < (rangeList a b z).length := by
 unfold rangeList at h ⊢
 rw [if_pos hz] at h ⊢
 simp only [List.map_map, List.getElem?_map] at h
 obtain ⟨k, hk, rfl⟩ := Option.map_eq_some_iff.mp h
 obtain ⟨h1, h2⟩ := List.getElem?_eq_some_iff.mp hk
 simp only [List.getElem_range] at h2
 subst h2
 exact ⟨rfl, by simpa using h1⟩
theorem fitsL {i : Int} (h : i.natAbs < 2 ^ 62) : Builtin.Range.rangeFitsLong i = true :=
 have h1 : -(2 ^ 63) ≤ i ∧ i < 2 ^ 63 := by omega
 Bool.and_eq_true_iff.mpr ⟨decide_eq_true h1.1, decide_eq_true h1.2⟩
theorem small_fits {i : Int} (h : small' i = true) : Builtin.Range.rangeFitsLong i = true := fitsL (Nat.lt_trans (of_decide_eq_true h) (by decide))
theorem size_fits {a b z : Int} (ha : small' a = true) (hb : small' b = true) (hz : 0 < z) : Builtin.Range.rangeFitsLong (Builtin.Range.rangeSize a b z) = true := by
 unfold Builtin.Range.rangeSize
 rw [if_pos hz]
 by_cases hab : a < b
 ·rw [if_pos hab]
  have h1 := Nat.le_trans (Int.natAbs_ediv_le_natAbs (b - a - 1) z) (Int.natAbs_sub_le (b - a) 1)
  have h2 := Nat.le_trans h1 (Nat.add_le_add_right (Int.natAbs_sub_le b a) _)
  have h3 := Nat.le_trans (Int.natAbs_add_le _ 1) (Nat.add_le_add_right h2 _)
  exact fitsL (Nat.lt_of_le_of_lt h3 (Nat.lt_of_le_of_lt (Nat.add_le_add_right (Nat.add_le_add_right (Nat.add_le_add (Nat.le_of_lt (of_decide_eq_true hb)) (Nat.le_of_lt (of_decide_eq_true ha))) _) _) (by decide)))
 ·rw [if_neg hab]; rfl
theorem range_fits {a b z : Int} (ha : small' a = true) (hb : small' b = true) (hc : small' z = true) (hz : 0 < z) : Builtin.Range.small a b z = true := by
 unfold Builtin.Range.small
 have h3 := Nat.le_trans (Int.natAbs_add_le b (z - 1)) (Nat.add_le_add_left (Int.natAbs_sub_le z 1) _)
 rw [small_fits ha, small_fits hb, small_fits hc, size_fits ha hb hz, if_pos hz, fitsL (i := b + (z - 1)) (Nat.lt_of_le_of_lt h3 (Nat.lt_of_le_of_lt (Nat.add_le_add (Nat.le_of_lt (of_decide_eq_true hb)) (Nat.add_le_add_right (Nat.le_of_lt (of_decide_eq_true hc)) _)) (by decide))), Bool.or_true]; rfl
section
variable {A : Around} {E : Value → Shared → Prop} {s : Shared} {h₀ : Heap} {L : Addr} {m : Str → Option Value} {fs : Fs} {kp k1 k2 os : List (Addr × Obj)} {σ : H}
theorem iter_len (l : Led S h₀ L m fs kp os σ s.heap) {v : V} {vs : List V} (e : iterOf v σ = some vs) : vs.length ≤ lim := by
 unfold iterOf at e
 cases v with
 | ref a =>
  dsimp only at e
  cases hk : σ.get a with
  | none => rw [hk] at e; cases e
  | some o =>
   rw [hk] at e
   obtain ⟨B, o1, _, _, hor, _⟩ := l.at hk
   cases o with
   | list xs => cases e; obtain ⟨_, _, _, _, hz⟩ := hor; exact hz
   | tup xs => cases e; obtain ⟨_, _, _, _, hz⟩ := hor; exact hz
   | rng p q z =>
    dsimp only at e
    split at e
    ·rename_i hc
     simp only [Bool.and_eq_true, decide_eq_true_eq] at hc
     cases e
     rw [List.length_map]
     have h1 := range_len (a := p) (b := q) hc.2
     unfold Builtin.Range.rangeSize at h1
     rw [if_pos (show z > 0 from hc.2)] at h1
     split at h1
     ·have h2 : (q - p - 1) / z ≤ q - p - 1 := Int.ediv_le_self _ (by lia)
      have := hc.1.2
      lia
     ·lia
    ·cases e
   | _ => cases e
 | _ => cases e
theorem it_new (l : Led S h₀ L m fs kp os σ s.heap) (hp : ρ <+: adr os) {v : V} {x : Value} {vs : List V} (hx : VR ρ v x) (e : iterOf v σ = some vs) {Q : Value → Shared → Prop}
  (hQ : ∀ I o h', Led S h₀ L m fs (kp ++ (I, o) :: []) os σ h' → ItAt h' I (adr os) v σ 0 → Q (.ref I) { s with heap := h' }) : wpAny (model S.prog S.w) A (pyIter x) Q E s := by
 unfold iterOf at e
 cases v with
 | ref a =>
  dsimp only at e
  cases hk : σ.get a with
  | none => rw [hk] at e; cases e
  | some o =>
   rw [hk] at e
   cases o with
   | list xs =>
    obtain ⟨B, o1, rfl, _, eB, ⟨ws, n, rfl, hws, hz⟩, h1, _⟩ := l.ref hp hk hx
    refine wpAny_pyIter_list (PySem.IsL.isList (n := n) h1) (hQ _ _ _ (l.kpush rfl) ⟨B, eB, ?_⟩)
    rw [hk]
    exact ⟨_, Heap.get?_push_size _ rfl, rfl, rfl⟩
   | tup xs =>
    obtain ⟨B, o1, rfl, _, eB, ⟨ws, n, rfl, hws, hz⟩, h1, _⟩ := l.ref hp hk hx
    refine wpAny_pyIter_tuple ⟨_, h1, rfl, n, rfl⟩ (hQ _ _ _ (l.kpush rfl) ⟨B, eB, ?_⟩)
    rw [hk]
    exact ⟨_, Heap.get?_push_size _ rfl, rfl, rfl⟩
   | rng p q z =>
    obtain ⟨B, o1, rfl, _, eB, ⟨t1, t2, t3, rfl⟩, h1, _⟩ := l.ref hp hk hx
    dsimp only at e
    split at e
    ·rename_i hc
     simp only [Bool.and_eq_true, decide_eq_true_eq] at hc
     refine wpAny_pyIter_range h1 (range_fits hc.1.1.1.1 hc.1.1.1.2 hc.1.1.2 hc.2) (hQ _ _ _ (l.kpush rfl) ⟨B, eB, ?_⟩)
     rw [hk]
     dsimp only
     rw [← range_len hc.2]
     have : IsRangeIter (s.heap.push { cls := .type "range_iterator", data := .fields #[rawInt p, rawInt (Builtin.Range.rangeSize p q z), rawInt z] }) s.heap.objs.size p (Builtin.Range.rangeSize p q z) z := Heap.get?_push_size _ rfl
     simpa using this
    ·cases e
   | _ => cases e
 | _ => cases e
variable {I : Addr} {o : Obj}
theorem it_next (l : Led S h₀ L m fs (k1 ++ (I, o) :: k2) os σ s.heap) {v : V} {vs : List V} {i : Nat} {y : V} (t : ItAt s.heap I (adr os) v σ i) (e : iterOf v σ = some vs) (hy : vs[i]? = some y) {Q : Option Value → Shared → Prop}
  (hQ : ∀ o' h' tk x, Led S h₀ L m fs (k1 ++ (I, o') :: k2) os σ h' → ItAt h' I (adr os) v σ (i + 1) → VR (adr os) y x → Q (some x) { s with heap := h', toks := tk }) : wpAny (model S.prog S.w) A (pyNext (.ref I)) Q E s := by
 unfold ItAt at t
 unfold iterOf at e
 cases v with
 | ref a =>
  obtain ⟨B, hB, t⟩ := t
  dsimp only at e
  cases hk : σ.get a with
  | none => rw [hk] at e; cases e
  | some ob =>
   rw [hk] at e t
   obtain ⟨B', o1, _, eB, hor, h1, _⟩ := l.at hk
   rw [hB] at eB; cases eB
   cases ob with
   | list xs =>
    cases e
    obtain ⟨ws, n, rfl, hws, hz⟩ := hor
    obtain ⟨x, hx, hr⟩ := hws.get hy
    refine wpAny_pyNext_list_item t (PySem.IsL.isList (n := n) h1) (x := x) (by simpa using hx) fun h' t' hs => ?_
    obtain ⟨o', g1, g2⟩ := id t'
    exact hQ o' h' s.toks x (l.kset hs g1) ⟨B, hB, by rw [hk]; exact t'⟩ hr
   | tup xs =>
    cases e
    obtain ⟨ws, n, rfl, hws, hz⟩ := hor
    obtain ⟨x, hx, hr⟩ := hws.get hy
    refine wpAny_pyNext_tuple_item t ⟨_, h1, rfl, n, rfl⟩ (x := x) (by simpa using hx) fun h' t' hs => ?_
    obtain ⟨o', g1, g2⟩ := id t'
    exact hQ o' h' s.toks x (l.kset hs g1) ⟨B, hB, by rw [hk]; exact t'⟩ hr
   | rng p q z =>
    dsimp only at e
    split at e
    ·rename_i hc
     simp only [Bool.and_eq_true, decide_eq_true_eq] at hc
     cases e
     obtain ⟨rfl, hi⟩ := range_at hc.2 hy
     refine wpAny_pyNext_range_item t (by lia) fun h' t' hs => ?_
     refine hQ _ h' _ _ (l.kset hs t') ⟨B, hB, ?_⟩ ⟨_, rfl⟩
     rw [hk]
     dsimp only
     have e1 : p + ((i + 1 : Nat) : Int) * z = p + (i : Int) * z + z := by rw [Int.natCast_add, Int.add_mul]; simp [Int.add_assoc]
     have e2 : ((rangeList p q z).length : Int) - ((i + 1 : Nat) : Int) = ((rangeList p q z).length : Int) - (i : Int) - 1 := by lia
     rw [e1, e2]; exact t'
    ·cases e
   | _ => cases e
 | _ => cases e
theorem it_done (hh : A.handled = none) (l : Led S h₀ L m fs (k1 ++ (I, o) :: k2) os σ s.heap) {v : V} {vs : List V} {i : Nat} (t : ItAt s.heap I (adr os) v σ i) (e : iterOf v σ = some vs) (hy : vs[i]? = none) {Q : Option Value → Shared → Prop}
  (hQ : ∀ h', Led S h₀ L m fs (k1 ++ k2) os σ h' → Q none { s with heap := h' }) : wpAny (model S.prog S.w) A (pyNext (.ref I)) Q E s := by
 unfold ItAt at t
 unfold iterOf at e
 cases v with
 | ref a =>
  obtain ⟨B, hB, t⟩ := t
  dsimp only at e
  cases hk : σ.get a with
  | none => rw [hk] at e; cases e
  | some ob =>
   rw [hk] at e t
   obtain ⟨B', o1, _, eB, hor, h1, _⟩ := l.at hk
   rw [hB] at eB; cases eB
   cases ob with
   | list xs =>
    cases e
    obtain ⟨ws, n, rfl, hws, hz⟩ := hor
    refine wpAny_pyNext_list_end hh t (PySem.IsL.isList (n := n) h1) ?_ fun h' hs => hQ h' (l.extBut hs)
    have := hws.length
    rw [List.getElem?_eq_none_iff] at hy
    simp; lia
   | tup xs =>
    cases e
    obtain ⟨ws, n, rfl, hws, hz⟩ := hor
    refine wpAny_pyNext_tuple_end hh t ⟨_, h1, rfl, n, rfl⟩ ?_ fun h' hs => hQ h' (l.extBut hs)
    have := hws.length
    rw [List.getElem?_eq_none_iff] at hy
    simp; lia
   | rng p q z =>
    dsimp only at e
    split at e
    ·rename_i hc
     cases e
     rw [List.getElem?_eq_none_iff, List.length_map] at hy
     exact wpAny_pyNext_range_end hh t (by lia) fun h' hs => hQ h' (l.extBut hs)
    ·cases e
   | _ => cases e
 | _ => cases e
end
end Mine.Internal
set_option autoImplicit false
namespace Mine.Internal
open PySem PySem.W PySem.Calls PyProof.Rows
variable {S : Sig} {c : Cx} {ρ : List Addr}
section
variable {h₀ h h' : Heap} {L C : Addr} {m mC : Str → Option Value} {fs : Fs} {kp os : List (Addr × Obj)} {σ : H}
theorem none_above (l : Fr h₀ L h m) : h₀.get? L = none := by
 cases e : h₀.get? L with
 | none => rfl
 | some o => exact absurd (Heap.lt_size e) (Nat.not_lt.mpr l.above)
theorem Led.enter (l : Led S h₀ L m fs kp os σ h) (ns : h'.Ns C mC) (k : ∀ b o, h.get? b = some o → h'.get? b = some o) (hC : h.get? C = none) (hle : h.objs.size ≤ C) : Led S h₀ C mC ((L, m) :: fs) kp os σ h' := by
 have l' := l.keep k
 have ne : ∀ {b : Addr} {o : Obj}, h.get? b = some o → b ≠ C := fun e q => by rw [q, hC] at e; cases e
 obtain ⟨oL, es, ep, hL, _⟩ := id l.fr.ns
 have above : h₀.objs.size ≤ C := Nat.le_trans l.fr.above (Nat.le_trans (Nat.le_of_lt (Heap.lt_size hL)) hle)
 refine ⟨⟨ns, l'.fr.keep, above⟩, fun p hp => ⟨(l'.news p hp).1, ne (l.news p hp).1, (l'.news p hp).2.2⟩, l'.nd, l'.objs, fun f hf => ?_, l'.top, l'.big, l'.frz, l'.lkd⟩
 rcases List.mem_cons.mp hf with rfl | hf
 ·refine ⟨l'.fr.ns, ne hL, none_above l.fr, fun q => ?_⟩
  obtain ⟨p, hp, e⟩ := List.mem_map.mp q
  exact (l.news p hp).2.1 e
 ·obtain ⟨of, _, _, hf', _⟩ := (l.outs f hf).1
  exact ⟨(l'.outs f hf).1, ne hf', (l'.outs f hf).2.2⟩
theorem Led.leave (l : Led S h₀ C mC ((L, m) :: fs) kp os σ h) (ab : h₀.objs.size ≤ L) (ne : ∀ f ∈ fs, f.1 ≠ L) (hs : ∀ b o, b ≠ C → h.get? b = some o → h'.get? b = some o) : Led S h₀ L m fs kp os σ h' := by
 have hL := l.outs _ (.head _)
 have nC := none_above l.fr
 refine ⟨⟨hL.1.at' fun o e => hs _ o hL.2.1 e, fun b o e => hs b o (fun q => by rw [q, nC] at e; cases e) (l.fr.keep b o e), ab⟩,
  fun p hp => ⟨hs _ _ (l.news p hp).2.1 (l.news p hp).1, fun q => hL.2.2.2 (List.mem_map.mpr ⟨p, hp, q⟩), (l.news p hp).2.2⟩, l.nd, l.objs, fun f hf => ?_, l.top, l.big, l.frz, l.lkd⟩
 have hF := l.outs f (.tail _ hf)
 exact ⟨hF.1.at' fun o e => hs _ o hF.2.1 e, ne f hf, hF.2.2⟩
theorem Led.lset (l : Led S h₀ L m fs kp os σ h) (hn : h'.Ns L mC) (hs : Heap.SameBut L h h') : Led S h₀ L mC fs kp os σ h' :=
 ⟨l.fr.set hn hs, fun p hp => ⟨(hs.2 _ (l.news p hp).2.1).trans (l.news p hp).1, (l.news p hp).2⟩, l.nd, l.objs, fun f hf => ⟨(l.outs f hf).1.sameBut hs (l.outs f hf).2.1, (l.outs f hf).2⟩, l.top, l.big, l.frz, l.lkd⟩
theorem Led.kmove {D : Addr} {x : Obj} {o : O} (l : Led S h₀ L m fs (kp ++ (D, x) :: []) os σ h) (hr : OR S (adr os) o x) : Led S h₀ L m fs kp (os ++ [(D, x)]) (σ.push o) h := by
 have hk := l.kmid
 rw [List.append_nil] at hk
 have l' := l.kdrop
 rw [List.append_nil] at l'
 have pf : adr os <+: adr (os ++ [(D, x)]) := adr_new
 have adk : adr (kp ++ (os ++ [(D, x)])) = adr (kp ++ os) ++ [D] := by simp [adr]
 refine ⟨l.fr, fun p hp => ?_, ?_, (l.objs.mono fun _ _ e => e.mono S pf).append (.one (hr.mono S pf)), fun f hf => ⟨(l'.outs f hf).1, (l'.outs f hf).2.1, (l'.outs f hf).2.2.1, ?_⟩, l.top, ?_, ⟨l.frz.1.trans (List.prefix_append _ _), l.frz.2⟩, l.lknew⟩
 ·rw [← List.append_assoc] at hp
  rcases List.mem_append.mp hp with hp | hp
  ·exact l'.news p hp
  ·rw [List.mem_singleton.mp hp]; exact ⟨hk.1, hk.2.1, hk.2.2.1⟩
 ·rw [adk]
  refine List.nodup_append.mpr ⟨l'.nd, by simp, fun b hb d hd e => ?_⟩
  rw [List.mem_singleton.mp hd] at e
  obtain ⟨p, hp, rfl⟩ := List.mem_map.mp hb
  exact hk.2.2.2.2 p hp e
 ·rw [adk]
  intro hm
  rcases List.mem_append.mp hm with hm | hm
  ·exact (l'.outs f hf).2.2.2 hm
  ·exact hk.2.2.2.1 f hf (List.mem_singleton.mp hm)
 ·rw [adk]
  intro b hb
  rcases List.mem_append.mp hb with hb | hb
  ·exact l'.big b hb
  ·rw [List.mem_singleton.mp hb]
   exact l.big D (List.mem_map.mpr ⟨(D, x), by simp, rfl⟩)
end
theorem lookup_relabel {env : Env} : ∀ {names : List (Str × NameKind)} {x : Str},
  (names.map fun (n, k) => if (k == NameKind.free && env.scope.kind == .function && env.kindOf n == some .cell) then (n, NameKind.cell) else (n, k)).lookup x = (names.lookup x).map fun k => if (k == NameKind.free && env.scope.kind == .function && env.kindOf x == some .cell) then NameKind.cell else k
 | [], _ => rfl
 | (n, k) :: r, x => by
  have ih := @lookup_relabel env r x
  show List.lookup x ((if (k == NameKind.free && env.scope.kind == .function && env.kindOf n == some .cell) = true then (n, NameKind.cell) else (n, k)) :: _) = _
  cases hx : x == n with
  | true =>
   have hxn : x = n := beq_iff_eq.mp hx
   subst hxn
   split <;> simp_all []
  | false =>
   split <;> simp only [List.lookup_cons, hx] <;> exact ih
theorem closure_of {env : Env} {sc' : Scope} (h : ∀ x ∈ sc'.names, x.2 = .free → ∃ a, env.cells.lookup x.1 = some a) :
  ∃ cl, closureFor sc' env = pure cl ∧ ∀ nm, sc'.names.lookup nm = some .free → cl.lookup nm = env.cells.lookup nm := by
 have key : ∀ (l : List (Str × NameKind)) (cs : List (Str × Addr)), (∀ x ∈ l, x.2 = .free → ∃ a, env.cells.lookup x.1 = some a) → (∀ p ∈ cs, env.cells.lookup p.1 = some p.2) →
   ∃ cl, (forIn l cs fun x r => (do
    let (name, kind) := x
    if kind == .free then do
     let y ← cellOf env name
     pure (ForInStep.yield ((name, y) :: r))
    else pure (ForInStep.yield r) : Sem (ForInStep (List (Str × Addr))))) = pure cl ∧ (∀ p ∈ cl, env.cells.lookup p.1 = some p.2) ∧ (∀ p ∈ cs, p ∈ cl) ∧ ∀ x ∈ l, x.2 = .free → ∃ a, (x.1, a) ∈ cl := by
  intro l
  induction l with
  | nil => intro cs _ h2; exact ⟨cs, rfl, h2, fun p hp => hp, fun x hx => nomatch hx⟩
  | cons y r ih =>
   intro cs h1 h2
   obtain ⟨n, k⟩ := y
   rw [List.forIn_cons]
   by_cases hk : k = .free
   ·subst hk
    obtain ⟨a, ha⟩ := h1 _ (.head _) rfl
    dsimp only at ha
    obtain ⟨cl, e1, e2, e3, e4⟩ := ih ((n, a) :: cs) (fun x hx => h1 x (.tail _ hx)) (fun p hp => by
     rcases List.mem_cons.mp hp with rfl | hp
     ·exact ha
     ·exact h2 p hp)
    refine ⟨cl, ?_, e2, fun p hp => e3 p (.tail _ hp), fun x hx hf => ?_⟩
    ·have : cellOf env n = pure a := by unfold cellOf; rw [ha]
     simp only [beq_self_eq_true, if_true, this]
     exact e1
    ·rcases List.mem_cons.mp hx with rfl | hx
     ·exact ⟨a, e3 _ (.head _)⟩
     ·exact e4 x hx hf
   ·obtain ⟨cl, e1, e2, e3, e4⟩ := ih cs (fun x hx => h1 x (.tail _ hx)) h2
    refine ⟨cl, ?_, e2, e3, fun x hx hf => ?_⟩
    ·have : (k == NameKind.free) = false := by simpa using hk
     simp only [this, Bool.false_eq_true, if_false]
     exact e1
    ·rcases List.mem_cons.mp hx with rfl | hx
     ·exact absurd hf hk
     ·exact e4 x hx hf
 obtain ⟨cl, e1, e2, _, e4⟩ := key sc'.names [] h (fun p hp => nomatch hp)
 refine ⟨cl, ?_, fun nm hn => ?_⟩
 ·unfold closureFor
  refine Eq.trans (congrArg (fun t => t >>= fun r => pure r) (?_ : _ = forIn sc'.names ([] : List (Str × Addr)) _)) (by rw [e1]; rfl)
  congr 1
 ·obtain ⟨a, ha⟩ := e4 (nm, .free) (PySem.mem_of_lookup hn) rfl
  cases hq : cl.lookup nm with
  | none =>
   rw [List.lookup_eq_none_iff] at hq
   have := hq _ ha
   simp at this
  | some b => rw [e2 (nm, b) (PySem.mem_of_lookup hq)]
end Mine.Internal
set_option autoImplicit false
namespace Mine.Internal
open PySem PySem.W PySem.Calls PyProof.Rows
variable {S : Sig} {c : Cx} {ρ : List Addr}
noncomputable abbrev condTree (ifs : List Expr) (env : Env) : Sem Bool := forIn ifs true fun c r => if r = true then do let ok ← isTrue c env (eval c env); pure (ForInStep.yield ok) else pure (ForInStep.yield r)
theorem it_self {A : Around} {E : Value → Shared → Prop} {s : Shared} {I : Addr} {v : V} {σ : H} {i : Nat} {Q : Value → Shared → Prop} (t : ItAt s.heap I ρ v σ i) (h : Q (.ref I) s) : wpAny (model S.prog S.w) A (pyIter (.ref I)) Q E s := by
 unfold ItAt at t
 cases v with
 | ref a =>
  obtain ⟨B, _, t⟩ := t
  cases hk : σ.get a with
  | none => rw [hk] at t; exact t.elim
  | some o =>
   rw [hk] at t
   cases o with
   | list xs => exact wpAny_pyIter_listiter t h
   | tup xs => exact wpAny_pyIter_tupleiter t h
   | rng a b z => exact wpAny_pyIter_rangeiter t h
   | _ => exact t.elim
 | _ => exact t.elim
theorem still_iter {v : V} {σ σ' : H} (h : still v σ σ' = true) : iterOf v σ' = iterOf v σ := by
 unfold iterOf
 cases v with
 | ref a => have e : σ'.get a = σ.get a := of_decide_eq_true h; dsimp only; rw [e]
 | _ => rfl
theorem still_refl (v : V) (σ : H) : still v σ σ = true := by cases v <;> simp [still]
theorem still_sym {v : V} {σ σ' : H} (h : still v σ σ' = true) : still v σ' σ = true := by cases v <;> simp_all [still]
theorem still_trans {v : V} {σ σ' σ'' : H} (h : still v σ σ' = true) (h' : still v σ' σ'' = true) : still v σ σ'' = true := by cases v <;> simp_all [still]
noncomputable def rpre (l : List V) : R (List V) → R (List V)
 | .ok ws => .ok (l ++ ws)
 | .err k => .err k
structure CompOK (S : Sig) (sc sc' : Scope) (env : Env) (nms : List Str) : Prop where
 kind : sc'.kind = .function
 cells : ∀ x ∈ sc'.names, x.2 ≠ .cell
 locs : ∀ x ∈ sc'.names, x.2 = .local → sc'.names.lookup x.1 = some .local
 only : ∀ x ∈ sc'.names, x.2 = .local → x.1 ∈ nms ∨ x.1 ∉ S.T
 free : ∀ x ∈ sc'.names, x.2 = .free → isCell sc x.1 = true
 own : ∀ nm ∈ nms, sc'.names.lookup nm = some .local
theorem compOK {sc sc' : Scope} {env : Env} {nms : List Str} (h : compScope S.nam sc sc' nms = true) : CompOK S sc sc' env nms := by
 unfold compScope at h
 simp only [Bool.and_eq_true, decide_eq_true_eq, List.all_eq_true, Bool.or_eq_true, Bool.not_eq_true', decide_eq_false_iff_not] at h
 obtain ⟨⟨h1, h2⟩, h3⟩ := h
 refine ⟨h1, fun x hx => (h2 x hx).1.1, fun x hx e => ?_, fun x hx e => ?_, fun x hx e => ?_, h3⟩
 ·rcases (h2 x hx).1.2 with q | q
  ·exact absurd e q
  ·exact q.1
 ·rcases (h2 x hx).1.2 with q | q
  ·exact absurd e q
  ·rcases q.2 with q | q
   ·exact .inl q
   ·refine .inr fun hm => ?_
    have : S.nam.T.contains x.1 = true := List.contains_iff_mem.mpr hm
    rw [this] at q; cases q
 ·rcases (h2 x hx).2 with q | q
  ·exact absurd e q
  ·exact q
theorem isCell_in {sc : Scope} {nm : Str} (h : isCell sc nm = true) : inScope sc nm = true := by
 unfold isCell at h
 unfold inScope
 split at h <;> first | rename_i e; rw [e] | cases h
section
variable {n : Nat} {sc sc' : Scope} {nms : List Str} {cl : List (Str × Addr)} {C : Addr} {m' : Str → Option Value} {kp' : List (Addr × Obj)}
noncomputable abbrev compCx (c : Cx) (sc' : Scope) (cl : List (Str × Addr)) (C : Addr) (m' : Str → Option Value) (kp' : List (Addr × Obj)) : Cx := ⟨c.A, compEnvC sc' cl C c.env, c.h₀, C, m', (c.L, c.m) :: c.fs, kp'⟩
theorem comp_ctx (K : CtxOK S n c) (O : CompOK S sc sc' c.env nms) : CtxOK S n (compCx c sc' cl C m' kp') :=
 ⟨⟨K.units, K.depth, K.kin, K.top, K.lim, O.kind, K.glob, K.blt, rfl, let ⟨l, h1, h2⟩ := K.frs; ⟨l, h1, fun e he => let ⟨g1, b, g2, g3⟩ := h2 e he; ⟨g1, b, g2, .tail _ g3⟩⟩⟩, K.hand⟩
theorem comp_sc (SO : ScOK sc c.env) (O : CompOK S sc sc' c.env nms) (hcl : ∀ nm, sc'.names.lookup nm = some .free → cl.lookup nm = c.env.cells.lookup nm) : ScOK sc' (compEnvC sc' cl C c.env) := by
 have look : ∀ x, (compEnvC sc' cl C c.env).kindOf x = (sc'.names.lookup x).map fun k => if (k == NameKind.free && c.env.scope.kind == .function && c.env.kindOf x == some .cell) then NameKind.cell else k := fun x => lookup_relabel
 refine ⟨fun x h => ?_, fun x h => ?_, fun x h => ?_⟩
 ·rw [look, h]; rfl
 ·rw [look, h]; rfl
 ·unfold isCell at h
  split at h
  ·rename_i e; exact absurd rfl (O.cells _ (PySem.mem_of_lookup e))
  ·rename_i e
   refine ⟨?_, ?_⟩
   ·rw [look, e]
    simp only [Option.map_some]
    split
    ·exact .inl rfl
    ·exact .inr rfl
   ·show ∃ a, cl.lookup x = some a
    rw [hcl x e]
    exact (SO.cell x (O.free _ (PySem.mem_of_lookup e) rfl)).2
  ·cases h
theorem comp_vars (SO : ScOK sc c.env) (O : CompOK S sc sc' c.env nms) (hcl : ∀ nm, sc'.names.lookup nm = some .free → cl.lookup nm = c.env.cells.lookup nm) {loc l' : Loc} (Vs : VarsOK S c sc ρ loc)
  {ρ' : List Addr} (k : ρ <+: ρ') (hv : ∀ j w nmj, l' j = some w → S.T[j]? = some nmj → nmj ∈ nms → ∃ x, m' nmj = some x ∧ VR ρ' w x) (hm : ∀ j nmj, S.T[j]? = some nmj → nmj ∉ nms → l' j = loc j) (hk : ∀ p ∈ c.kp, p ∈ kp') : VarsOK S (compCx c sc' cl C m' kp') sc' ρ' l' := by
 intro j w nmj hj hT hin
 have SO' := comp_sc (C := C) SO O hcl
 unfold inScope at hin
 split at hin
 ·rename_i e
  have hmem := PySem.mem_of_lookup e
  rcases O.only _ hmem rfl with q | q
  ·obtain ⟨x, hx, hv⟩ := hv j w nmj hj hT q
   exact ⟨x, .inl ⟨SO'.loc _ e, hx⟩, hv⟩
  ·exact absurd (List.mem_of_getElem? hT) q
 ·rename_i e; exact absurd rfl (O.cells _ (PySem.mem_of_lookup e))
 ·rename_i e
  rw [hm j nmj hT fun q => by rw [O.own _ q] at e; cases e] at hj
  have hc := O.free _ (PySem.mem_of_lookup e) rfl
  obtain ⟨y, h1, h2⟩ := Vs j w nmj hj hT (isCell_in hc)
  have hk' := (SO.cell nmj hc).1
  rcases h1 with ⟨q, _⟩ | ⟨_, a, o, q1, q2, q3⟩
  ·rw [q] at hk'; rcases hk' with q | q <;> cases q
  ·exact ⟨y, .inr ⟨(SO'.cell nmj (by unfold isCell; rw [e])).1, a, o, by show cl.lookup nmj = some a; rw [hcl nmj e]; exact q1, hk _ q2, q3⟩, h2.mono k⟩
 ·cases hin
end
theorem compLoop_go {prog : Program} {w : World} {A : Around} {s : Shared} {R : Result → Shared → Prop} {elt target iter : Expr} {ifs : List Expr} {scope : Scope} {pos : Pos} {it acc : Value} {env : Env} (I : Nat → Shared → Prop)
  (turn : ∀ n s, I n s → wpAny (model prog w) A (pyNext it) (fun r s₁ => match r with
   | none => R (.ok .next) s₁
   | some v => wpAny (model prog w) A (letOwnedTupleGo target it v) (fun _ s₀ => wpAny (model prog w) A (assign target env v) (fun _ s₂ =>
     wpAny (model prog w) A (condTree ifs env) (fun ok s₃ =>
      if ok = true then wpAny (model prog w) A (eval elt env) (fun x s₄ =>
       wpAny (model prog w) A (call (.builtin "list.append") [acc, x]) (fun _ s₅ => ∃ m, m < n ∧ I m s₅) (notedBy (model prog w) A env fun e s' => R (.error e) s') s₄) (notedBy (model prog w) A env fun e s' => R (.error e) s') s₃
      else ∃ m, m < n ∧ I m s₃) (notedBy (model prog w) A env fun e s' => R (.error e) s') s₂) (notedBy (model prog w) A env fun e s' => R (.error e) s') s₀) (notedBy (model prog w) A env fun e s' => R (.error e) s') s₁) (notedBy (model prog w) A env fun e s' => R (.error e) s') s)
  (n : Nat) (h : I n s) :
  codeAny (model prog w) A (.compLoop (.ListComp elt [⟨target, iter, ifs, 0⟩] scope pos) 0 it acc env) R s := by
 refine codeAny_loop rfl I (fun n s hI => ?_) n h
 show wpAny _ A ((compTurn (.ListComp elt [⟨target, iter, ifs, 0⟩] scope pos) 0 it acc env).onRaise (fun x => do noteFrame x env; theTreesLotGoes x)) _ _ s
 refine wpAny_noted ?_
 rw [compTurn_list]
 refine wpAny_bind (wpAny_standAt (wpAny_bind (wpAny_mono (turn n s hI) (fun r s₁ h₁ => ?_) fun _ _ h' => h')))
 cases r with
 | none => exact wpAny_pure h₁
 | some v =>
  refine wpAny_bind (wpAny_mono h₁ (fun _ s₀ h₀ => ?_) fun _ _ h' => h')
  refine wpAny_bind (wpAny_mono h₀ (fun _ s₂ h₂ => wpAny_bind (wpAny_mono h₂ (fun ok s₃ h₃ => ?_) fun _ _ h' => h')) fun _ _ h' => h')
  cases ok with
  | false => exact wpAny_pure ⟨rfl, h₃⟩
  | true => exact wpAny_bind (wpAny_bind (wpAny_mono h₃ (fun x s₄ h₄ => wpAny_bind (wpAny_mono h₄ (fun _ s₅ h₅ => wpAny_pure (wpAny_pure ⟨rfl, h₅⟩)) fun _ _ h' => h')) fun _ _ h' => h'))
theorem go_tg {N : Nam} {tg : List Nat} {tup : Bool} {tgt : Expr} (h : ckTg N tg tup tgt = true) (it v : Value) : letOwnedTupleGo tgt it v = pure () := by
 cases tup with
 | true => exact nomatch (show false = true from h)
 | false =>
  obtain ⟨i, _, h⟩ := onO_eq (show onO (one tg) _ = true from h)
  rw [t_name (and_t h).1]; rfl
theorem upd_self {l : Loc} {i : Nat} {v : V} : l.upd i v i = some v := by simp [Loc.upd]
theorem upd_other {l : Loc} {i j : Nat} {v : V} (h : j ≠ i) : l.upd i v j = l j := by unfold Loc.upd; rw [beq_eq_false_iff_ne.mpr h]; rfl
theorem tg_assign {A : Around} {E : Value → Shared → Prop} {s : Shared} {sc sc' : Scope} (nd : S.T.Nodup) (hh : A.handled = none) {tg : List Nat} {tup : Bool} {tgt : Expr} (hck : ckTg S.nam tg tup tgt = true) {env : Env} (O : CompOK S sc sc' env (tgNms tup tgt))
  {cl : List (Str × Addr)} {C : Addr} {h₀ : Heap} {mC : Str → Option Value} {fs : Fs} {kp os : List (Addr × Obj)} {σ : H} (hl : Led S h₀ C mC fs kp os σ s.heap) {y : V} {x : Value} (hx : VR (adr os) y x) {loc l' : Loc} (hb : bindTg tg tup y loc σ = some l') {Q : Unit → Shared → Prop}
  (h : ∀ h₅ m₅ tk₅, Led S h₀ C m₅ fs kp os σ h₅ → (∀ j w nmj, l' j = some w → S.T[j]? = some nmj → nmj ∈ tgNms tup tgt → ∃ x, m₅ nmj = some x ∧ VR (adr os) w x) → (∀ j nmj, S.T[j]? = some nmj → nmj ∉ tgNms tup tgt → l' j = loc j) → Q () { s with heap := h₅, toks := tk₅ }) :
  wpAny (model S.prog S.w) A (assign tgt (compEnvC sc' cl C env) x) Q E s := by
 have nk : ((compEnvC sc' cl C env).scope.kind == .class || ((compEnvC sc' cl C env).scope.kind == .module && (compEnvC sc' cl C env).locals != (compEnvC sc' cl C env).globals)) = false := by show (sc'.kind == .class || (sc'.kind == .module && _)) = false; rw [O.kind]; rfl
 have inj : ∀ {i j : Nat} {nm : Str}, S.T[i]? = some nm → S.T[j]? = some nm → j = i := fun h1 h2 => (List.getElem?_inj (List.getElem?_eq_some_iff.mp h2).1 nd).mp (h2.trans h1.symm)
 cases tup with
 | false =>
  obtain ⟨i, hi, hck⟩ := onO_eq (show onO (one tg) _ = true from hck)
  have hn : S.T[i]? = some (ptE tgt).nm := of_decide_eq_true (and_t hck).2
  have e1 : tgNms false tgt = [(ptE tgt).nm] := rfl
  have hl' : l' = loc.upd i y := by rw [one_eq hi] at hb; exact (Option.some.inj hb).symm
  rw [t_name (and_t hck).1]
  refine wpAny_assign_Name (wpAny_storeName_local (env := compEnvC sc' cl C env) (lookup_relabel_local (O.own _ (.head _))) hl.fr.ns (fun h₅ hn₅ hs₅ => h _ _ _ (hl.lset hn₅ hs₅) (fun j w nmj hj hT hm => ?_) fun j nmj hT hm => ?_) nk)
  ·have hm := List.mem_singleton.mp hm
   rw [hm] at hT
   rw [hl', inj hn hT, upd_self] at hj
   exact ⟨x, if_pos hm, by rw [← Option.some.inj hj]; exact hx⟩
  ·rw [hl']
   exact upd_other fun q => hm (by rw [q, hn] at hT; exact List.mem_singleton.mpr (Option.some.inj hT).symm)
 | true => exact nomatch (show false = true from hck)
theorem compL_inv {v : V} {tg : List Nat} {tup : Bool} {t : Loc → X Bool} {e : Loc → X V} {loc : Loc} {σ σ₁ σ' : H} {y : V} {ys : List V} {r : R (List V)} (h : compL v tg tup t e loc σ (y :: ys) σ₁ = some (r, σ')) :
  ∃ ly b σ₂, bindTg tg tup y loc σ₁ = some ly ∧ t ly σ₁ = some (.ok b, σ₂) ∧ (b = false → still v σ σ₂ = true ∧ compL v tg tup t e loc σ ys σ₂ = some (r, σ')) ∧ (b = true → ∃ w σ₃ r', e ly σ₂ = some (.ok w, σ₃) ∧ still v σ σ₃ = true ∧ compL v tg tup t e loc σ ys σ₃ = some (r', σ') ∧ r = rpre [w] r') := by
 unfold compL at h
 cases hb : bindTg tg tup y loc σ₁ with
 | none => rw [hb] at h; cases h
 | some ly =>
  rw [hb] at h
  dsimp only at h
  cases hq : t ly σ₁ with
  | none => rw [hq] at h; cases h
  | some p =>
   obtain ⟨tr, σ₂⟩ := p
   rw [hq] at h
   cases tr with
   | err q => cases h
   | ok b =>
    refine ⟨ly, b, σ₂, rfl, hq, ?_, ?_⟩
    ·rintro rfl
     dsimp only at h
     split at h
     ·rename_i hst; exact ⟨hst, h⟩
     ·cases h
    ·rintro rfl
     dsimp only at h
     cases hq₂ : e ly σ₂ with
     | none => rw [hq₂] at h; cases h
     | some p₂ =>
      obtain ⟨er, σ₃⟩ := p₂
      rw [hq₂] at h
      cases er with
      | err q => cases h
      | ok w =>
       dsimp only at h
       split at h
       ·rename_i hst
        split at h
        ·cases h
        ·cases h
        ·rename_i ws σ₄ hq₃; cases h; exact ⟨w, σ₃, .ok ws, rfl, hst, hq₃, rfl⟩
       ·cases h
inductive CoI (S : Sig) (c : Cx) (C I D : Addr) (v : V) (σ σ' : H) (vs : List V) (f : List V → H → Option (R (List V) × H)) (r : R (List V)) (os : List (Addr × Obj)) (s : Shared) (k : Nat) (s' : Shared) : Prop
 | mk (h' : Heap) (tk : Nat) (os' : List (Addr × Obj)) (σ₁ : H) (mC : Str → Option Value) (o : Obj) (ys : List Value) (kk : Nat) (done : List V) (j : Nat) (r' : R (List V)) (e1 : s' = { s with heap := h', toks := tk }) (kp : adr os <+: adr os')
   (l : Led S c.h₀ C mC ((c.L, c.m) :: c.fs) (c.kp ++ (I, o) :: (D, W.listOf (List.toArray ys) kk) :: []) os' σ₁ h') (it : ItAt h' I (adr os') v σ₁ j) (st : still v σ σ₁ = true) (dn : All2 (VR (adr os')) done ys)
   (hL : f (vs.drop j) σ₁ = some (r', σ')) (hr : r = rpre done r') (h1 : done.length ≤ j) (h2 : j ≤ vs.length) (h3 : k = vs.length + 1 - j) : CoI S c C I D v σ σ' vs f r os s k s'
theorem comp_gen {M : Program} {w : World} {A : Around} {s : Shared} {R : Result → Shared → Prop} {elt target iter : Expr} {ifs : List Expr} {scope : Scope} {pos : Pos} {it acc : Value} {env : Env} (I : Nat → Shared → Prop)
  (turn : ∀ n s, I n s → ∀ (P : Option Value → Shared → Prop) (E' : Value → Shared → Prop), (∀ s₁, R (.ok .next) s₁ → P none s₁) →
   (∀ v s₁, (∀ B : Unit → Shared → Prop, (∀ s₂, (∀ T : Bool → Shared → Prop, (∀ m s₃, m < n → I m s₃ → T false s₃) → (∀ s₃, (∀ X : Value → Shared → Prop, (∀ x s₄, (∀ Y : Value → Shared → Prop, (∀ u m s₅, m < n → I m s₅ → Y u s₅) → wpAny (model M w) A (call (.builtin "list.append") [acc, x]) Y E' s₄) → X x s₄) → wpAny (model M w) A (eval elt env) X E' s₃) → T true s₃) →
     wpAny (model M w) A (condTree ifs env) T E' s₂) → B () s₂) → wpAny (model M w) A (letOwnedTupleGo target it v) (fun _ s' => wpAny (model M w) A (assign target env v) B E' s') E' s₁) → P (some v) s₁) →
   wpAny (model M w) A (pyNext it) P E' s) (n : Nat) (h : I n s) : codeAny (model M w) A (.compLoop (.ListComp elt [⟨target, iter, ifs, 0⟩] scope pos) 0 it acc env) R s :=
 compLoop_go I (fun n s hI => turn n s hI _ _ (fun s₁ h₁ => h₁) fun v s₁ h₁ => h₁ _ fun s₂ h₂ => h₂ _ (fun m s₃ hm h₃ => by rw [if_neg Bool.false_ne_true]; exact ⟨m, hm, h₃⟩) fun s₃ h₃ => by rw [if_pos rfl]; exact h₃ _ fun x s₄ h₄ => h₄ _ fun u m s₅ hm h₅ => ⟨m, hm, h₅⟩) n h
theorem comp_loop {n : Nat} (K : CtxOK S n c) {sc sc' : Scope} (SO : ScOK sc c.env) {loc : Loc} (Vs : VarsOK S c sc ρ loc) (nd : S.T.Nodup) {tg : List Nat} {tup : Bool} {tgt : Expr} {pos : Pos} {ite elt : Expr} {ifs : List Expr}
  (hck : ckTg S.nam tg tup tgt = true) (O : CompOK S sc sc' c.env (tgNms tup tgt)) {cl : List (Str × Addr)} (hcl : ∀ nm, sc'.names.lookup nm = some .free → cl.lookup nm = c.env.cells.lookup nm) {t : Loc → X Bool} {e : Loc → X V}
  (ht : ∀ (c' : Cx) (ρ' : List Addr) (loc' : Loc), CtxOK S n c' → ScOK sc' c'.env → VarsOK S c' sc' ρ' loc' → SM S c' ρ' EqR (condTree ifs c'.env) (t loc'))
  (he : ∀ (c' : Cx) (ρ' : List Addr) (loc' : Loc), CtxOK S n c' → ScOK sc' c'.env → VarsOK S c' sc' ρ' loc' → SM S c' ρ' VR (eval elt c'.env) (e loc'))
  {os : List (Addr × Obj)} {σ σ' : H} {s : Shared} {v : V} {vs : List V} {r : R (List V)} (hp : ρ <+: adr os) (hi : iterOf v σ = some vs) (hL : compL v tg tup t e loc σ vs σ = some (r, σ')) {C I D : Addr} {mC : Str → Option Value} {o₀ : Obj} {h₂ : Heap}
  (l₃ : Led S c.h₀ C mC ((c.L, c.m) :: c.fs) (c.kp ++ (I, o₀) :: (D, W.listOf (List.toArray []) 0) :: []) os σ h₂) (it₃ : ItAt h₂ I (adr os) v σ 0) {R : Result → Shared → Prop}
  (fin : ∀ ws, r = .ok ws → ∀ (os' : List (Addr × Obj)) (h' : Heap) (tk : Nat) (mC : Str → Option Value) (ys : List Value) (k : Nat), adr os <+: adr os' → Led S c.h₀ C mC ((c.L, c.m) :: c.fs) (c.kp ++ (D, W.listOf (List.toArray ys) k) :: []) os' σ' h' →
   All2 (VR (adr os')) ws ys → R (.ok .next) { s with heap := h', toks := tk }) :
  codeAny (model S.prog S.w) c.A (.compLoop (.ListComp elt [⟨tgt, ite, ifs, 0⟩] sc' pos) 0 (.ref I) (.ref D) (compEnvC sc' cl C c.env)) R { s with heap := h₂ } := by
 refine comp_gen (CoI S c C I D v σ σ' vs (compL v tg tup t e loc σ) r os s) ?_ (vs.length + 1)
  ⟨h₂, s.toks, os, σ, _, o₀, [], 0, [], 0, r, rfl, List.prefix_rfl, l₃, it₃, still_refl v σ, .nil, by simpa using hL, by cases r <;> rfl, Nat.zero_le _, Nat.zero_le _, rfl⟩
 rintro k s' ⟨h', tk, os', σ₁, mC, o, ys, kk, done, j, r', rfl, kp', l', it', st, hdone, hL', hr, hdl, hj, rfl⟩ P E₀ hP hB
 have hi' : iterOf v σ₁ = some vs := (still_iter st).trans hi
 cases hvj : vs[j]? with
 | none =>
  have hjv : vs.length ≤ j := List.getElem?_eq_none_iff.mp hvj
  rw [List.drop_eq_nil_of_le hjv] at hL'
  cases hL'
  refine it_done K.hand l' it' hi' hvj fun h₄ l₄ => ?_
  have hr' : r = .ok done := by rw [hr]; simp [rpre]
  exact hP _ (fin done hr' os' h₄ tk mC ys kk kp' l₄ hdone)
 | some y =>
  obtain ⟨hjl, hjy⟩ := List.getElem?_eq_some_iff.mp hvj
  rw [List.drop_eq_getElem_cons hjl, hjy] at hL'
  obtain ⟨ly, b, σ₂, hb, hq, hF, hT⟩ := compL_inv hL'
  refine it_next l' it' hi' hvj fun o' h₄ tk₄ xv l₄ it₄ hxv => hB _ _ fun B hB => wpAny_of_eq (go_tg hck _ _) ?_
  refine tg_assign (s := { s with heap := h₄, toks := _ }) nd K.hand hck O (cl := cl) l₄ hxv hb fun h₅ m₅ tk₅ l₅ hm₅ hm₅' => hB _ fun T hF0 hT0 => ?_
  have it₅ : ItAt h₅ I (adr os') v σ₁ (j + 1) := it₄.at (fun ob q => by rw [(l₄.news (I, o') (by simp)).1] at q; cases q; exact (l₅.news (I, o') (by simp)).1) List.prefix_rfl (still_refl v σ₁)
  let c' := compCx c sc' cl C m₅ (c.kp ++ (I, o') :: (D, W.listOf (List.toArray ys) kk) :: [])
  have K' : CtxOK S n c' := comp_ctx K O
  have S' : ScOK sc' c'.env := comp_sc SO O hcl
  have V' : VarsOK S c' sc' (adr os') ly := comp_vars SO O hcl Vs (hp.trans kp') hm₅ hm₅' (fun p hp => List.mem_append_left _ hp)
  have T' := ht c' (adr os') ly K' S' V'
  have E' := he c' (adr os') ly K' S' V'
  refine T' os' σ₁ { s with heap := h₅, toks := tk₅ } _ _ List.prefix_rfl l₅ hq _ _ fun os₆ h₆ tk₆ b' k₆ l₆ hb' => ?_
  subst hb'
  have memI : ∀ {hh : Heap} {oo : List (Addr × Obj)} {ss : H}, Cx.led S c' oo ss hh → hh.get? I = some o' := fun l => (l.news (I, o') (by simp [c'])).1
  cases b with
  | false =>
   obtain ⟨hst, hL'⟩ := hF rfl
   refine hF0 (vs.length + 1 - (j + 1)) _ (Nat.sub_succ_lt_self _ _ (Nat.lt_succ_of_le hj)) ⟨h₆, tk₆, os₆, σ₂, _, o', ys, kk, done, j + 1, r', rfl, kp'.trans k₆, l₆, it₅.at (fun ob q => ?_) k₆ (still_trans (still_sym st) hst), hst, VRs.mono k₆ hdone, hL', hr, by lia, hjl, rfl⟩
   rw [memI l₅] at q; cases q; exact memI l₆
  | true =>
   obtain ⟨w, σ₃, r'', hq₂, hst, hL'', hr''⟩ := hT rfl
   refine hT0 _ fun X hX => ?_
   refine E' os₆ σ₂ { s with heap := h₆, toks := tk₆ } _ _ k₆ l₆ hq₂ _ _ fun os₇ h₇ tk₇ wv k₇ l₇ hwv => hX _ _ fun Y hY => ?_
   have hD' : h₇.get? D = some (W.listOf (List.toArray ys) kk) := (l₇.news (D, W.listOf (List.toArray ys) kk) (by simp [c'])).1
   have hlen : ys.length ≤ lim := by
    have h1 := hdone.length
    have h2 := iter_len (s := { s with heap := h' }) l' hi'
    lia
   refine append_at hD' (fun h₈ hs₈ hx₈ => ?_) (by rw [List.size_toArray]; exact Nat.le_trans hlen lim_le)
   have l₇' : Led S c.h₀ C m₅ ((c.L, c.m) :: c.fs) ((c.kp ++ (I, o') :: []) ++ (D, W.listOf (List.toArray ys) kk) :: []) os₇ σ₃ h₇ := by simpa using l₇
   have l₈ := l₇'.kset hs₈ hx₈
   have hID : I ≠ D := by
    have := l₇'.kmid.2.2.2.2 (I, o') (by simp)
    exact this
   refine hY _ (vs.length + 1 - (j + 1)) _ (Nat.sub_succ_lt_self _ _ (Nat.lt_succ_of_le hj)) ⟨h₈, tk₇, os₇, σ₃, _, o', ys ++ [wv], kk + 1, done ++ [w], j + 1, r'', rfl, kp'.trans (k₆.trans k₇), by simpa using l₈, it₅.at (fun ob q => ?_) (k₆.trans k₇) (still_trans (still_sym st) hst), hst,
    (VRs.mono (k₆.trans k₇) hdone).append (.one hwv), hL'', ?_, by simp; exact hdl, hjl, rfl⟩
   ·rw [memI l₅] at q; cases q; exact (hs₈.2 _ hID).trans (memI l₇)
   ·rw [hr, hr'']; cases r'' <;> simp [rpre]
theorem comp_core {n : Nat} (K : CtxOK S n c) {sc sc' : Scope} (SO : ScOK sc c.env) {loc : Loc} (Vs : VarsOK S c sc ρ loc) (nd : S.T.Nodup) {tg : List Nat} {tup : Bool} {tgt : Expr} {pos : Pos} {ite elt : Expr} {ifs : List Expr}
  (hck : ckTg S.nam tg tup tgt = true) (O : CompOK S sc sc' c.env (tgNms tup tgt)) {cl : List (Str × Addr)} (hcl : ∀ nm, sc'.names.lookup nm = some .free → cl.lookup nm = c.env.cells.lookup nm) {t : Loc → X Bool} {e : Loc → X V}
  (ht : ∀ (c' : Cx) (ρ' : List Addr) (loc' : Loc), CtxOK S n c' → ScOK sc' c'.env → VarsOK S c' sc' ρ' loc' → SM S c' ρ' EqR (condTree ifs c'.env) (t loc'))
  (he : ∀ (c' : Cx) (ρ' : List Addr) (loc' : Loc), CtxOK S n c' → ScOK sc' c'.env → VarsOK S c' sc' ρ' loc' → SM S c' ρ' VR (eval elt c'.env) (e loc'))
  {os : List (Addr × Obj)} {σ σ' : H} {s : Shared} {v : V} {x : Value} {vs : List V} {r : R (List V)} (hp : ρ <+: adr os) (hl : c.led S os σ s.heap) (hv : VR (adr os) v x) (hi : iterOf v σ = some vs)
  (hL : compL v tg tup t e loc σ vs σ = some (r, σ')) {use : Option (Value → Sem Unit)} {Q : Value → Shared → Prop} {E : Value → Shared → Prop}
  (fin : ∀ ws, r = .ok ws → ∀ (os' : List (Addr × Obj)) (h' : Heap) (tk : Nat) (C : Addr) (mC : Str → Option Value) (D : Addr) (ys : List Value) (k : Nat), adr os <+: adr os' → Led S c.h₀ C mC ((c.L, c.m) :: c.fs) (c.kp ++ (D, W.listOf (List.toArray ys) k) :: []) os' σ' h' →
   All2 (VR (adr os')) ws ys → compPost (model S.prog S.w) c.A E use Q (.ref D) C (.ok .next) { s with heap := h', toks := tk }) :
  wpAny (model S.prog S.w) c.A (pyIter x) (fun it s₂ => wpAny (model S.prog S.w) c.A (newList []) (fun acc s₃ => wpAny (model S.prog S.w) c.A (newFunctionEnv sc' c.env.globals cl [] c.env.qual none .none (some c.env)) (fun cenv s₄ =>
   codeAny (model S.prog S.w) c.A (.compStart (.ListComp elt [⟨tgt, ite, ifs, 0⟩] sc' pos) 0 it acc { cenv with scope := relabel sc' c.env }) (compPost (model S.prog S.w) c.A E use Q acc cenv.locals) s₄) E s₃) E s₂) E s := by
 refine it_new hl List.prefix_rfl hv hi fun I o₀ h₁ l₁ it₁ => ?_
 refine wpAny_newObj_type (wpAny_newFunctionEnv O.cells (by intro y hy; simp at hy) (fun h₂ hns hsb => ?_) O.kind)
 dsimp only at hns hsb ⊢
 have l₂ := l₁.kpush (x := { cls := .type "list", dict := none, data := .seq ([] : List Value).toArray }) rfl
 generalize hH2 : h₁.push { cls := .type "list", dict := none, data := .seq ([] : List Value).toArray } = H2 at hns hsb l₂ ⊢
 have hold : ∀ b ob, H2.get? b = some ob → h₂.get? b = some ob := fun b ob q => hsb.extBut b ob (Nat.ne_of_lt (Heap.lt_size q)) (Heap.get?_push_of_some _ q)
 have l₃ := l₂.enter hns hold (get_size H2) (Nat.le_refl _)
 have it₃ : ItAt h₂ I (adr os) v σ 0 := it₁.at (fun ob q => hold _ _ (hH2 ▸ Heap.get?_push_of_some _ q)) List.prefix_rfl (still_refl v σ)
 generalize hC : H2.objs.size = C at hns hsb l₃ ⊢
 generalize hD : h₁.objs.size = D at l₃ ⊢
 have hle : c.h₀.objs.size ≤ C := l₃.fr.above
 have loop := comp_loop (ite := ite) (pos := pos) K SO Vs nd hck O hcl ht he (s := { s with toks := s.toks + ([] : List (Str × Value)).length }) hp hi hL (by simpa using l₃) it₃ (R := compPost (model S.prog S.w) c.A E use Q (.ref D) C) fun ws hr os' h' tk mC ys k => fin ws hr os' h' tk C mC D ys k
 exact codeAny_compStart_list loop (it_self (S := S) it₃ loop)
end Mine.Internal
set_option autoImplicit false
namespace Mine.Internal
open PySem PySem.W PySem.Calls PyProof.Rows
variable {S : Sig} {c : Cx} {ρ : List Addr}
theorem not_set {e : Expr} (h : isSet e = false) (env : Env) (x : Value) : foldedSetIterable e env x = pure x := by
 cases e <;> first | rfl | cases h
section
variable {n : Nat} {sc sc' : Scope} {loc : Loc} {tg : List Nat} {tup : Bool} {tgt : Expr} {pos : Pos} {ite elt : Expr} {ifs : List Expr} {t : Loc → X Bool} {e : Loc → X V}
theorem comp_run (K : CtxOK S n c) (SO : ScOK sc c.env) (Vs : VarsOK S c sc ρ loc) (nd : S.T.Nodup) (hn : ckTg S.nam tg tup tgt = true) (hsc : compScope S.nam sc sc' (tgNms tup tgt) = true) (hset : isSet ite = false) {xi : X V} (hit : SM S c ρ VR (eval ite c.env) xi)
  (ht : ∀ (c' : Cx) (ρ' : List Addr) (loc' : Loc), CtxOK S n c' → ScOK sc' c'.env → VarsOK S c' sc' ρ' loc' → SM S c' ρ' EqR (condTree ifs c'.env) (t loc'))
  (he : ∀ (c' : Cx) (ρ' : List Addr) (loc' : Loc), CtxOK S n c' → ScOK sc' c'.env → VarsOK S c' sc' ρ' loc' → SM S c' ρ' VR (eval elt c'.env) (e loc'))
  {os : List (Addr × Obj)} {σ σ' : H} {s : Shared} {r : R V} (hp : ρ <+: adr os) (hl : c.led S os σ s.heap)
  (hx : X.bind xi (fun v => fun h => match iterOf v h with | none => none | some vs => X.bind (compL v tg tup t e loc h vs) (fun ws => alloc (.list ws)) h) σ = some (r, σ'))
  {use : Option (Value → Sem Unit)} {Q : Value → Shared → Prop} {E : Value → Shared → Prop}
  (fin : ∀ b, r = .ok b → ∀ (os' : List (Addr × Obj)) (h' : Heap) (tk : Nat) (C : Addr) (mC : Str → Option Value) (D : Addr), adr os <+: adr os' → Led S c.h₀ C mC ((c.L, c.m) :: c.fs) c.kp os' σ' h' → VR (adr os') b (.ref D) →
   compPost (model S.prog S.w) c.A E use Q (.ref D) C (.ok .next) { s with heap := h', toks := tk })
  (finE : ∀ k, r = .err k → ∀ (os' : List (Addr × Obj)) (h' : Heap) (tk : Nat) (e : Value), adr os <+: adr os' → c.led S os' σ' h' → Fly S c os' e k h' → E e { s with heap := h', toks := tk }) :
  wpAny (model S.prog S.w) c.A (comprehension (.ListComp elt [⟨tgt, ite, ifs, 0⟩] sc' pos) sc' c.env (firstIterPos [⟨tgt, ite, ifs, 0⟩] pos) (newList []) false (eval ite c.env) use) Q E s := by
 have O : CompOK S sc sc' c.env (tgNms tup tgt) := compOK hsc
 obtain ⟨cl, hclos, hcl⟩ := closure_of (env := c.env) (sc' := sc') fun x hx hf => (SO.cell x.1 (O.free x hx hf)).2
 refine wpAny_comprehension_free (use := use) rfl (not_set hset c.env) hclos O.kind O.locs ?_
 rcases X.bind_inv hx with ⟨v, σ₁, e1, e2⟩ | ⟨k, e1, rfl⟩
 ·refine hit os σ s _ _ hp hl e1 _ _ fun os₁ h₁ tk₁ xv k₁ l₁ hv => ?_
  cases hi : iterOf v σ₁ with
  | none => rw [hi] at e2; cases e2
  | some vs =>
   rw [hi] at e2
   dsimp only at e2
   rcases X.bind_inv e2 with ⟨ws, σ₂, e3, e4⟩ | ⟨k, e3, rfl⟩
   ·refine comp_core K SO (Vs.mono (hp.trans k₁)) nd hn O hcl ht he (s := { s with heap := h₁, toks := tk₁ }) List.prefix_rfl l₁ hv hi e3 fun ws' hw os' h' tk C mC D ys kk k' l' hys => ?_
    cases hw
    unfold alloc at e4
    split at e4
    ·rename_i hok
     cases e4
     have hok : ws.length ≤ lim := of_decide_eq_true hok
     have l'' := l'.kmove (o := .list ws) ⟨ys, kk, rfl, hys, hok⟩
     have hv' : VR (adr (os' ++ [(D, W.listOf (List.toArray ys) kk)])) (.ref σ₂.length) (.ref D) := by
      refine ⟨D, ?_, rfl⟩
      rw [l'.len]; simp [adr]
     exact fin _ rfl _ _ _ _ _ _ (k₁.trans (k'.trans adr_new)) l'' hv'
    ·cases e4
   ·exact comp_core K SO (Vs.mono (hp.trans k₁)) nd hn O hcl ht he (s := { s with heap := h₁, toks := tk₁ }) List.prefix_rfl l₁ hv hi e3 fun ws' hw => by cases hw
 ·exact hit os σ s _ _ hp hl e1 _ _ fun os' h' tk e k' l' f => finE k rfl os' h' tk e k' l' f
theorem sm_comp (K : CtxOK S n c) (SO : ScOK sc c.env) (Vs : VarsOK S c sc ρ loc) (nd : S.T.Nodup) (hn : ckTg S.nam tg tup tgt = true) (hsc : compScope S.nam sc sc' (tgNms tup tgt) = true) (hset : isSet ite = false) {xi : X V} (hit : SM S c ρ VR (eval ite c.env) xi)
  (ht : ∀ (c' : Cx) (ρ' : List Addr) (loc' : Loc), CtxOK S n c' → ScOK sc' c'.env → VarsOK S c' sc' ρ' loc' → SM S c' ρ' EqR (condTree ifs c'.env) (t loc'))
  (he : ∀ (c' : Cx) (ρ' : List Addr) (loc' : Loc), CtxOK S n c' → ScOK sc' c'.env → VarsOK S c' sc' ρ' loc' → SM S c' ρ' VR (eval elt c'.env) (e loc')) :
  SM S c ρ VR (eval (.ListComp elt [⟨tgt, ite, ifs, 0⟩] sc' pos) c.env)
   (X.bind xi fun v => fun h => match iterOf v h with | none => none | some vs => X.bind (compL v tg tup t e loc h vs) (fun ws => alloc (.list ws)) h) := by
 intro os σ s r σ' hp hl hx Q E hQ
 rw [arm_eval_ListComp]
 refine comp_run K SO Vs nd hn hsc hset hit ht he hp hl hx (use := none) (fun b hb os' h' tk C mC D k l hv => ?_) fun k hk => by subst hk; exact hQ
 subst hb
 refine ⟨mC, l.fr.ns, fun h'' hs => ?_⟩
 exact hQ os' h'' tk _ k (l.leave hl.fr.above (fun f hf => (hl.outs f hf).2.1) hs.extBut) hv
end
theorem star_cons {N : Nam} {sc : Scope} {x : Ex} {e : Expr} (h : ckE N sc x e = true) (rest : List Expr) (env : Env) : starEach (e :: rest) env = (false, eval e env) :: starEach rest env := by
 cases e <;> first | rfl | (cases x <;> exact nomatch (show false = true from h))
theorem noStar_of {N : Nam} {sc : Scope} {env : Env} : ∀ {es : Exs} {xs : List Expr}, ckEs N sc es xs = true → NoStar xs env
 | .nil, [], _ => rfl
 | .cons e es, x :: xs, h => by
  have h := (Bool.and_eq_true _ _).mp (show (ckE N sc e x && ckEs N sc es xs) = true from h)
  unfold NoStar
  rw [star_cons h.1, List.all_cons]
  have := noStar_of (env := env) h.2
  unfold NoStar at this
  rw [this]; rfl
 | .nil, _ :: _, h => nomatch (show false = true from h)
 | .cons _ _, [], h => nomatch (show false = true from h)
theorem sm_slice' {e : Expr} {l u : Option Expr} {p pos : Pos} {x lo hi : X V} (hx : SM S c ρ VR (eval e c.env) x) (hlo : SM S c ρ VR (valueOrNone (evalOpt l c.env)) lo) (hhi : SM S c ρ VR (valueOrNone (evalOpt u c.env)) hi) :
  SM S c ρ VR (eval (.Subscript e (.Slice l u none p) pos) c.env) (X.bind x fun o => X.bind lo fun a => X.bind hi fun b => getSlice o a b) := by
 rw [arm_eval_Subscript]
 refine hx.bind fun ρ' a v k ha => ?_
 have hlo' := hlo.mono k
 have hhi' := hhi.mono k
 intro os σ s r σ' hp hl he Q E hQ
 rw [arm_eval_Slice]
 refine wpAny_bind (wpAny_holding (wpAny_bind ?_))
 rcases X.bind_inv he with ⟨la, σ₁, e1, e2⟩ | ⟨q, e1, rfl⟩
 ·refine hlo' os σ s _ _ hp hl e1 _ _ fun os₁ h₁ tk₁ lv k₁ l₁ hlv => wpAny_bind (wpAny_holding ?_)
  rcases X.bind_inv e2 with ⟨ua, σ₂, e3, e4⟩ | ⟨q, e3, rfl⟩
  ·refine hhi' os₁ σ₁ { s with heap := h₁, toks := tk₁ } _ _ (hp.trans k₁) l₁ e3 _ _ fun os₂ h₂ tk₂ uv k₂ l₂ huv => wpAny_bind (wpAny_holding (wpAny_pure ?_))
   refine wpAny_mono (sm_slice (value := e) (slice := .Slice l u none p) (ρ := adr os₂) (ha.mono (hp.trans (k₁.trans k₂))) (hlv.mono k₂) huv (fun o i => rfl) (s := { s with heap := h₂, toks := tk₂ }) List.prefix_rfl l₂ e4
    (Q := Q) (E := E) fun b hb os₃ h₃ tk₃ av k₃ l₃ hav => ?_) (fun i s' h => wpAny_bind (wpAny_standAt h)) fun _ _ h => h
   subst hb
   exact hQ os₃ h₃ tk₃ av (k₁.trans (k₂.trans k₃)) l₃ hav
  ·exact hhi' os₁ σ₁ { s with heap := h₁, toks := tk₁ } _ _ (hp.trans k₁) l₁ e3 _ _ fun os₂ h₂ tk₂ e k₂ l₂ f => hQ os₂ h₂ tk₂ e (k₁.trans k₂) l₂ f
 ·exact hlo' os σ s _ _ hp hl e1 _ _ hQ
end Mine.Internal
set_option autoImplicit false
namespace Mine.Internal
open PySem PySem.W PySem.Calls PyProof.Rows
variable {N : Nam} {sc : Scope}
theorem callN_eq {e : Expr} (h : isCallN e = true) : ∃ q p, e = .Call (.Name (cN e) q) (cA e) [] p := by
 obtain ⟨h1, h2⟩ := and_t h
 obtain ⟨h2, h3⟩ := and_t h2
 refine ⟨(ptE (ptE e).x).pos, (ptE e).pos, ?_⟩
 have e1 := t_call h1
 rw [nil_eq h2, t_name h3] at e1
 exact e1
theorem isC_none {v : Const} (h : isC .none v = true) : v = .none := by cases v <;> first | rfl | cases h
theorem isC_bool {b : Bool} {v : Const} (h : isC (.bool b) v = true) : v = .bool b := by
 cases v <;> first | (rw [eq_of_beq (show (b == _) = true from h)]) | cases h
theorem isC_int {b : Int} {v : Const} (h : isC (.int b) v = true) : v = .int b := by
 cases v <;> first | (rw [dec_t (show decide (b = _) = true from h)]) | cases h
theorem isC_str {b : Str} {v : Const} (h : isC (.str b) v = true) : v = .str b ∧ okS b = true := by
 cases v <;> first | (obtain ⟨h1, h2⟩ := and_t (show (decide (b = _) && okS b) = true from h); obtain rfl := dec_t h1; exact ⟨rfl, h2⟩) | cases h
theorem ck_cnone  {e : Expr} (h : ckE N sc (.cnone) e = true) : ∃ k p, e = .Constant .none k p := by
 obtain ⟨h1, h2⟩ := and_t (show (_ && _) = true from h)
 exact ⟨_, _, by rw [← isC_none h2] <;> exact t_const h1⟩
theorem ck_cbool {b : Bool} {e : Expr} (h : ckE N sc (.cbool b) e = true) : ∃ k p, e = .Constant (.bool b) k p := by
 obtain ⟨h1, h2⟩ := and_t (show (_ && _) = true from h)
 exact ⟨_, _, by rw [← isC_bool h2] <;> exact t_const h1⟩
theorem ck_cint {i : Int} {e : Expr} (h : ckE N sc (.cint i) e = true) : ∃ k p, e = .Constant (.int i) k p := by
 obtain ⟨h1, h2⟩ := and_t (show (_ && _) = true from h)
 exact ⟨_, _, by rw [← isC_int h2] <;> exact t_const h1⟩
theorem ck_cstr {s : Str} {e : Expr} (h : ckE N sc (.cstr s) e = true) : ∃ k p, e = .Constant (.str s) k p ∧ okS s = true := by
 obtain ⟨h1, h2⟩ := and_t (show (_ && _) = true from h)
 exact ⟨_, _, by rw [← (isC_str h2).1] <;> exact t_const h1, (isC_str h2).2⟩
theorem ck_loc {i : Nat} {e : Expr} (h : ckE N sc (.loc i) e = true) : ∃ nm p, e = .Name nm p ∧ nameIs N i nm = true ∧ inScope sc nm = true ∧ (nm == ("__debug__" : Str)) = false ∧ (nm == ("__classdict__" : Str)) = false := by
 obtain ⟨h1, h2⟩ := and_t (show (_ && _) = true from h)
 obtain ⟨g1, r1⟩ := and_t h2
 obtain ⟨g2, r2⟩ := and_t r1
 obtain ⟨g3, g4⟩ := and_t r2
 exact ⟨_, _, t_name h1, g1, g2, not_t g3, not_t g4⟩
theorem ck_glo {i : Nat} {e : Expr} (h : ckE N sc (.glo i) e = true) : ∃ nm p, e = .Name nm p ∧ nameIs N i nm = true ∧ isGlob sc nm = true := by
 obtain ⟨h1, h2⟩ := and_t (show (_ && _) = true from h)
 obtain ⟨g1, g2⟩ := and_t h2
 exact ⟨_, _, t_name h1, g1, g2⟩
theorem ck_bin {op : PySem.Operator} {a b : Ex} {e : Expr} (h : ckE N sc (.bin op a b) e = true) : ∃ l r p, e = .BinOp l op r p ∧ ckE N sc a l = true ∧ ckE N sc b r = true := by
 obtain ⟨h1, h2⟩ := and_t (show (_ && _) = true from h)
 obtain ⟨g1, r1⟩ := and_t h2
 obtain ⟨g2, g3⟩ := and_t r1
 exact ⟨_, _, _, by rw [dec_t g1] <;> exact t_bin h1, g2, g3⟩
theorem ck_not {a : Ex} {e : Expr} (h : ckE N sc (.not a) e = true) : ∃ l p, e = .UnaryOp .Not l p ∧ ckE N sc a l = true := by
 obtain ⟨h1, h2⟩ := and_t (show (_ && _) = true from h)
 obtain ⟨g1, g2⟩ := and_t h2
 exact ⟨_, _, by rw [← dec_t g1] <;> exact t_un h1, g2⟩
theorem ck_band {es : Exs} {e : Expr} (h : ckE N sc (.band es) e = true) : ∃ l p, e = .BoolOp .And l p ∧ ckEs N sc es l = true := by
 obtain ⟨h1, h2⟩ := and_t (show (_ && _) = true from h)
 obtain ⟨g1, g2⟩ := and_t h2
 exact ⟨_, _, by rw [← dec_t g1] <;> exact t_bool h1, g2⟩
theorem ck_bor {es : Exs} {e : Expr} (h : ckE N sc (.bor es) e = true) : ∃ l p, e = .BoolOp .Or l p ∧ ckEs N sc es l = true := by
 obtain ⟨h1, h2⟩ := and_t (show (_ && _) = true from h)
 obtain ⟨g1, g2⟩ := and_t h2
 exact ⟨_, _, by rw [← dec_t g1] <;> exact t_bool h1, g2⟩
theorem ck_cmp {op : CmpOp} {a b : Ex} {e : Expr} (h : ckE N sc (.cmp op a b) e = true) : ∃ l r p, e = .Compare l [op] [r] p ∧ behindInMarks op r = false ∧ ckE N sc a l = true ∧ ckE N sc b r = true := by
 obtain ⟨h1, h2⟩ := and_t (show (_ && _) = true from h)
 obtain ⟨o, h3, h2⟩ := onO_eq h2
 obtain ⟨r, h4, h2⟩ := onO_eq h2
 obtain ⟨g1, r1⟩ := and_t h2
 obtain ⟨g2, r2⟩ := and_t r1
 obtain ⟨g3, g4⟩ := and_t r2
 obtain rfl := dec_t g1
 exact ⟨_, _, _, by rw [← one_eq h3, ← one_eq h4] <;> exact t_cmp h1, not_t g2, g3, g4⟩
theorem ck_cmp2 {o1 o2 : CmpOp} {a b d : Ex} {e : Expr} (h : ckE N sc (.cmp2 o1 o2 a b d) e = true) : ∃ l r1 r2 p, e = .Compare l [o1, o2] [r1, r2] p ∧ behindInMarks o2 r2 = false ∧ ckE N sc a l = true ∧ ckE N sc b r1 = true ∧ ckE N sc d r2 = true := by
 obtain ⟨h1, h2⟩ := and_t (show (_ && _) = true from h)
 obtain ⟨⟨p1, p2⟩, h3, h2⟩ := onO_eq h2
 obtain ⟨⟨r1, r2⟩, h4, h2⟩ := onO_eq h2
 obtain ⟨g1, r1⟩ := and_t h2
 obtain ⟨g2, r2⟩ := and_t r1
 obtain ⟨g3, r3⟩ := and_t r2
 obtain ⟨g4, r4⟩ := and_t r3
 obtain ⟨g5, g6⟩ := and_t r4
 obtain rfl := dec_t g1
 obtain rfl := dec_t g2
 exact ⟨_, _, _, _, by rw [← two_eq h3, ← two_eq h4] <;> exact t_cmp h1, not_t g3, g4, g5, g6⟩
theorem ck_list {es : Exs} {e : Expr} (h : ckE N sc (.list es) e = true) : ∃ l p, e = .List l p ∧ ckEs N sc es l = true := by
 obtain ⟨h1, h2⟩ := and_t (show (_ && _) = true from h)
 exact ⟨_, _, t_list h1, h2⟩
theorem ck_tup {es : Exs} {e : Expr} (h : ckE N sc (.tup es) e = true) : ∃ l k p, e = .Tuple l k p ∧ ckEs N sc es l = true := by
 obtain ⟨h1, h2⟩ := and_t (show (_ && _) = true from h)
 exact ⟨_, _, _, t_tup h1, h2⟩
theorem ck_dict {ks vs : Exs} {e : Expr} (h : ckE N sc (.dict ks vs) e = true) : ∃ p, e = .Dict [] [] p ∧ ks = .nil ∧ vs = .nil := by
 obtain ⟨h1, h2⟩ := and_t (show (_ && _) = true from h)
 obtain ⟨g1, r1⟩ := and_t h2
 obtain ⟨g2, r2⟩ := and_t r1
 obtain ⟨g3, g4⟩ := and_t r2
 exact ⟨_, by rw [← nil_eq g3, ← nil_eq g4] <;> exact t_dict h1, exsNil_eq g1, exsNil_eq g2⟩
theorem ck_attr {a : Ex} {n : Nat} {e : Expr} (h : ckE N sc (.attr a n) e = true) : ∃ l nm p, e = .Attribute l nm p ∧ nameIs N n nm = true ∧ plainBase l = true ∧ ckE N sc a l = true := by
 obtain ⟨h1, h2⟩ := and_t (show (_ && _) = true from h)
 obtain ⟨g1, r1⟩ := and_t h2
 obtain ⟨g2, g3⟩ := and_t r1
 exact ⟨_, _, _, t_attr h1, g1, g2, g3⟩
theorem ck_sub {a i : Ex} {e : Expr} (h : ckE N sc (.sub a i) e = true) : ∃ l r p, e = .Subscript l r p ∧ isSlice r = false ∧ ckE N sc a l = true ∧ ckE N sc i r = true := by
 obtain ⟨h1, h2⟩ := and_t (show (_ && _) = true from h)
 obtain ⟨g1, r1⟩ := and_t h2
 obtain ⟨g2, g3⟩ := and_t r1
 exact ⟨_, _, _, t_sub h1, not_t g1, g2, g3⟩
theorem ck_slice {a lo hi : Ex} {e : Expr} (h : ckE N sc (.slice a lo hi) e = true) : ∃ l x y q p, e = .Subscript l (.Slice x y none q) p ∧ ckE N sc a l = true ∧ (match x with | none => isNone lo | some y => ckE N sc lo y) = true ∧ (match y with | none => isNone hi | some y => ckE N sc hi y) = true := by
 obtain ⟨h1, h2⟩ := and_t (show (_ && _) = true from h)
 obtain ⟨g1, r1⟩ := and_t h2
 obtain ⟨g2, r2⟩ := and_t r1
 obtain ⟨g3, r3⟩ := and_t r2
 obtain ⟨g4, g5⟩ := and_t r3
 exact ⟨_, _, _, _, _, by rw [← Option.isNone_iff_eq_none.mp g2, ← t_slice g1] <;> exact t_sub h1, g3, g4, g5⟩
theorem ck_call {f : Nat} {args : Exs} {e : Expr} (h : ckE N sc (.call f args) e = true) : ∃ nm q l p, e = .Call (.Name nm q) l [] p ∧ nameIs N f nm = true ∧ isGlob sc nm = true ∧ (N.fn f).isSome = true ∧ ckEs N sc args l = true := by
 obtain ⟨h1, h2⟩ := and_t (show (_ && _) = true from h)
 obtain ⟨g1, r1⟩ := and_t h2
 obtain ⟨g2, r2⟩ := and_t r1
 obtain ⟨g3, g4⟩ := and_t r2
 obtain ⟨q, p, he⟩ := callN_eq h1
 exact ⟨_, _, _, _, he, g1, g2, g3, g4⟩
theorem ck_new {k : Nat} {e : Expr} (h : ckE N sc (.new k) e = true) : ∃ nm q p, e = .Call (.Name nm q) [] [] p ∧ nameIs N k nm = true ∧ isGlob sc nm = true ∧ (N.cls k).isSome = true := by
 obtain ⟨h1, h2⟩ := and_t (show (_ && _) = true from h)
 obtain ⟨g1, r1⟩ := and_t h2
 obtain ⟨g2, r2⟩ := and_t r1
 obtain ⟨g3, g4⟩ := and_t r2
 obtain ⟨q, p, he⟩ := callN_eq h1
 exact ⟨_, _, _, by rw [nil_eq g1] at he <;> exact he, g2, g3, g4⟩
theorem ck_meth {o : Ex} {n : Nat} {args : Exs} {e : Expr} (h : ckE N sc (.meth o n args) e = true) : ∃ l nm q xs p, e = .Call (.Attribute l nm q) xs [] p ∧ nameIs N n nm = true ∧ plainBase l = true ∧ (q.endLine == p.line) = true ∧ xs.length < 30 ∧ (n ≤ 12 ∨ (N.me n).isSome = true) ∧ ckE N sc o l = true ∧ ckEs N sc args xs = true := by
 obtain ⟨h1, h2⟩ := and_t (show (_ && _) = true from h)
 obtain ⟨g1, r1⟩ := and_t h2
 obtain ⟨g2, r2⟩ := and_t r1
 obtain ⟨g3, r3⟩ := and_t r2
 obtain ⟨g4, r4⟩ := and_t r3
 obtain ⟨g5, r5⟩ := and_t r4
 obtain ⟨g6, r6⟩ := and_t r5
 obtain ⟨g7, r7⟩ := and_t r6
 obtain ⟨g8, g9⟩ := and_t r7
 exact ⟨_, _, _, _, _, by rw [← nil_eq g1, ← t_attr g2] <;> exact t_call h1, g3, g4, g5, dec_t g6, ((Bool.or_eq_true _ _).mp g7).imp dec_t id, g8, g9⟩
theorem ck_bi {b : Bi} {args : Exs} {e : Expr} (h : ckE N sc (.bi b args) e = true) : ∃ nm q l p, e = .Call (.Name nm q) l [] p ∧ nm = biName b ∧ isGlob sc nm = true ∧ ckEs N sc args l = true := by
 obtain ⟨h1, h2⟩ := and_t (show (_ && _) = true from h)
 obtain ⟨g1, r1⟩ := and_t h2
 obtain ⟨g2, g3⟩ := and_t r1
 obtain ⟨q, p, he⟩ := callN_eq h1
 exact ⟨_, _, _, _, he, dec_t g1, g2, g3⟩
theorem ck_isi {a : Ex} {ks : List Nat} {e : Expr} (h : ckE N sc (.isi a ks) e = true) : ∃ k q l cn q' p, ks = [k] ∧ e = .Call (.Name "isinstance" q) [l, .Name cn q'] [] p ∧ isGlob sc "isinstance" = true ∧ isGlob sc cn = true ∧ k ≤ isB ∧ cn = (clsName k : Str) ∧ ckE N sc a l = true := by
 obtain ⟨h1, h2⟩ := and_t (show (_ && _) = true from h)
 obtain ⟨k, h3, h2⟩ := onO_eq h2
 obtain ⟨⟨y, z⟩, h4, h2⟩ := onO_eq h2
 obtain ⟨g1, r1⟩ := and_t h2
 obtain ⟨g2, r2⟩ := and_t r1
 obtain ⟨g3, r3⟩ := and_t r2
 obtain ⟨g4, r4⟩ := and_t r3
 obtain ⟨g5, r5⟩ := and_t r4
 obtain ⟨g6, g7⟩ := and_t r5
 obtain ⟨q, p, he⟩ := callN_eq h1
 rw [two_eq h4, dec_t g2] at he
 rw [dec_t g2] at g3
 exact ⟨k, q, y, _, _, p, one_eq h3, by rw [he, ← t_name g1], g3, g4, dec_t g5, dec_t g6, g7⟩
theorem ck_comp {elt : Ex} {tg : List Nat} {tup : Bool} {it : Ex} {conds : Exs} {e : Expr} (h : ckE N sc (.comp elt tg tup it conds) e = true) : ∃ l tgt ite ifs sc' p, e = .ListComp l [⟨tgt, ite, ifs, 0⟩] sc' p ∧ ckTg N tg tup tgt = true ∧ compScope N sc sc' (tgNms tup tgt) = true ∧ isSet ite = false ∧ ckE N sc it ite = true ∧ ckE N sc' elt l = true ∧ ckEs N sc' conds ifs = true := by
 obtain ⟨h1, h2⟩ := and_t (show (_ && _) = true from h)
 obtain ⟨⟨tgt, ite, ifs, as⟩, h4, h2⟩ := onO_eq h2
 obtain ⟨g3, r3⟩ := and_t h2
 obtain ⟨g4, r4⟩ := and_t r3
 obtain ⟨g5, r5⟩ := and_t r4
 obtain ⟨g6, r6⟩ := and_t r5
 obtain ⟨g7, r7⟩ := and_t r6
 obtain ⟨g8, g9⟩ := and_t r7
 obtain rfl : as = 0 := dec_t g3
 exact ⟨_, tgt, ite, ifs, _, _, by rw [← one_eq h4] <;> exact t_comp h1, g4, g5, not_t g6, g7, g8, g9⟩
noncomputable def exTag : Ex → Nat
 | .cnone => 19 | .cbool _ => 19 | .cint _ => 19 | .cstr _ => 19 | .loc _ => 23 | .glo _ => 23 | .bin _ _ _ => 2 | .not _ => 3 | .band _ => 0 | .bor _ => 0 | .cmp _ _ _ => 15 | .cmp2 _ _ _ _ _ => 15 | .list _ => 24 | .tup _ => 25 | .dict _ _ => 6 | .attr _ _ => 20 | .sub _ _ => 21
 | .call _ _ => 16 | .new _ => 16 | .meth _ _ _ => 16 | .bi _ _ => 16 | .isi _ _ => 16 | .comp _ _ _ _ _ => 8
 | .slice _ _ _ => 21
theorem tag_of {e : Ex} {v : Expr} (h : ckE N sc e v = true) : tagE v = exTag e := by
 cases e <;> first | exact dec_t (and_t (show (_ && _) = true from h)).1 | exact dec_t (and_t (show (_ && _) = true from (and_t (show (_ && _) = true from h)).1)).1
noncomputable def plainTag (n : Nat) : Bool := !(Nat.beq n 0 || (Nat.beq n 3 || (Nat.beq n 5 || Nat.beq n 15)))
theorem pl {e : Ex} {v : Expr} (h : ckE N sc e v = true) (k : plainTag (exTag e) = true) : plainTag (tagE v) = true := (tag_of h) ▸ k
end Mine.Internal
set_option autoImplicit false
namespace Mine.Internal
open PySem PySem.W PySem.Calls PyProof.Rows
variable {S : Sig}
theorem sm_const_none {c : Cx} {ρ : List Addr} {k : Nat} {p : Pos} : SM S c ρ VR (eval (.Constant .none k p) c.env) (X.pure .none) := SM.pure fun _ _ => rfl
theorem sm_const_bool {c : Cx} {ρ : List Addr} {k : Nat} {p : Pos} {b : Bool} : SM S c ρ VR (eval (.Constant (.bool b) k p) c.env) (X.pure (.bool b)) := SM.pure fun _ _ => rfl
theorem sm_const_int {c : Cx} {ρ : List Addr} {k : Nat} {p : Pos} {i : Int} : SM S c ρ VR (eval (.Constant (.int i) k p) c.env) (X.pure (.int i)) := by
 intro os σ s r σ' hp hl he Q E hQ
 cases he
 exact wpAny_Constant_int (hQ os _ _ _ List.prefix_rfl hl ⟨_, rfl⟩)
theorem sm_const_str {c : Cx} {ρ : List Addr} {k : Nat} {p : Pos} {st : Str} (h : okS st = true) : SM S c ρ VR (eval (.Constant (.str st) k p) c.env) (X.pure (.str st)) := by
 intro os σ s r σ' hp hl he Q E hQ
 cases he
 exact wpAny_Constant_str (hQ os _ _ _ List.prefix_rfl hl ⟨_, rfl, h⟩)
theorem sm_glob (OK : SigOK S) {n : Nat} {c : Cx} {ρ : List Addr} {sc : Scope} (K : CtxOK S n c) (SO : ScOK sc c.env) {i : Nat} {nm : Str} {p : Pos} (h1 : nameIs S.nam i nm = true) (h2 : isGlob sc nm = true) :
  SM S c ρ VR (eval (.Name nm p) c.env) (match S.P.globs.lookup i with | some v => X.pure v | none => X.none) := by
 have hg' := Bool.and_eq_true_iff.mp h2
 cases hv : S.P.globs.lookup i with
 | none => exact SM.none
 | some v =>
  obtain ⟨nm', x, e1, e2, e3⟩ := OK.globs i v hv
  rw [T_eq h1] at e1; cases e1
  exact sm_top K.toCtx0 (SO.glob _ (of_decide_eq_true hg'.1)) (by simpa using hg'.2) e2 e3
theorem isTrue_plain {e : Expr} {env : Env} {whole : Sem Value} (h : plainTag (tagE e) = true) : isTrue e env whole = (do let v ← whole; standAt e.pos; holding [v] (truthy v)) := by
 cases e <;> first | rfl | cases h
theorem sm_test' {c : Cx} {ρ : List Addr} {e : Expr} {x : X V} (h : isTrue e c.env (eval e c.env) = (do let v ← eval e c.env; standAt e.pos; holding [v] (truthy v))) (hx : SM S c ρ VR (eval e c.env) x) : SM S c ρ EqR (isTrue e c.env (eval e c.env)) (X.bind x truth) := by
 rw [h]
 exact hx.bind fun ρ' a v k ha => SM.stand (SM.hold (sm_truth ha))
theorem sm_test {c : Cx} {ρ : List Addr} {e : Expr} {x : X V} (h : plainTag (tagE e) = true) (hx : SM S c ρ VR (eval e c.env) x) : SM S c ρ EqR (isTrue e c.env (eval e c.env)) (X.bind x truth) := sm_test' (isTrue_plain h) hx
theorem SM.map {α β γ : Type} {c : Cx} {ρ : List Addr} {R1 : List Addr → β → α → Prop} {R2 : List Addr → γ → α → Prop} {t : Sem α} {x : X β} {f : β → γ} (h : SM S c ρ R1 t x) (k : ∀ ρ' b a, ρ <+: ρ' → R1 ρ' b a → R2 ρ' (f b) a) :
  SM S c ρ R2 t (X.bind x fun b => X.pure (f b)) := by
 intro os σ s r σ' hp hl hx Q E hQ
 rcases X.bind_inv hx with ⟨b, σ₁, e1, e2⟩ | ⟨q, e1, rfl⟩
 ·cases e2
  exact h os σ s _ _ hp hl e1 _ _ fun os' h' tk a k' l' hr => hQ os' h' tk a k' l' (k _ _ _ (hp.trans k') hr)
 ·exact h os σ s _ _ hp hl e1 _ _ hQ
theorem cond_false (fs : List Expr) (env : Env) : (forIn fs false fun c r => if r = true then do let ok ← isTrue c env (eval c env); pure (ForInStep.yield ok) else pure (ForInStep.yield r) : Sem Bool) = pure false := by
 induction fs with
 | nil => rfl
 | cons f fs ih => rw [List.forIn_cons]; exact ih
theorem sm_cond_cons {c : Cx} {ρ : List Addr} {f : Expr} {fs : List Expr} {x y : X Bool} (h1 : SM S c ρ EqR (isTrue f c.env (eval f c.env)) x) (h2 : SM S c ρ EqR (condTree fs c.env) y) :
  SM S c ρ EqR (condTree (f :: fs) c.env) (X.bind x fun t => if t then y else X.pure false) := by
 unfold condTree
 rw [List.forIn_cons]
 rw [if_pos rfl]
 have e1 : x = X.bind x fun b => X.pure b := by
  funext σ; unfold X.bind
  cases x σ with
  | none => rfl
  | some p => obtain ⟨r, σ'⟩ := p; cases r <;> rfl
 rw [e1]
 have h1' : SM S c ρ (fun _ b st => st = ForInStep.yield b) (isTrue f c.env (eval f c.env) >>= fun ok => (Pure.pure (ForInStep.yield ok) : Sem (ForInStep Bool))) (X.bind x fun b => X.pure b) :=
  h1.bind fun ρ' b b' k hb => by subst hb; exact SM.pure fun _ _ => rfl
 refine h1'.bind fun ρ' b st k hb => ?_
 subst hb
 cases b
 ·show SM S c ρ' EqR (forIn fs false fun cc r => if r = true then do let ok ← isTrue cc c.env (eval cc c.env); pure (ForInStep.yield ok) else pure (ForInStep.yield r)) (X.pure false)
  rw [cond_false]; exact SM.pure fun _ _ => rfl
 ·exact h2.mono k
set_option backward.match.sparseCases true in
theorem sm_bool_cons {c : Cx} {ρ : List Addr} {pos : Pos} {o : BoolOp} {a b : Sem Value} {r : List (Sem Value)} {x : X V} {y : X V} (h1 : SM S c ρ VR a x) (h2 : SM S c ρ VR (boolOp pos o (b :: r)) y) :
  SM S c ρ VR (boolOp pos o (a :: b :: r)) (X.bind x fun v => X.bind (truth v) fun t => if t = (o == .And) then y else X.pure v) := by
 show SM S c ρ VR (do
  let v ← a
  standAt pos
  let t ← holding [v] (truthy v)
  match o, t with
  | .And, false | .Or, true => pure v
  | _, _ => boolOp pos o (b :: r)) _
 refine h1.bind fun ρ' v w k hv => SM.stand ((SM.hold (sm_truth hv)).bind fun ρ'' t t' k' ht => ?_)
 subst ht
 cases o <;> cases t
 ·exact SM.pure fun _ k'' => (hv.mono k').mono k''
 ·exact h2.mono (k.trans k')
 ·exact h2.mono (k.trans k')
 ·exact SM.pure fun _ k'' => (hv.mono k').mono k''
mutual
theorem sm_ev (OK : SigOK S) {C : Calls} {n : Nat} (HC : CallsOK S C n) (x : Ex) {c : Cx} {ρ : List Addr} {sc : Scope} {loc : Loc} {e : Expr} (K : CtxOK S (n + 2) c) (SO : ScOK sc c.env) (Vs : VarsOK S c sc ρ loc) (h : ckE S.nam sc x e = true) :
  SM S c ρ VR (eval e c.env) (ev S.P C x loc) := by
 match x, h with
 | .cnone, h => obtain ⟨k, p, rfl⟩ := ck_cnone h; exact sm_const_none
 | .cbool b, h => obtain ⟨k, p, rfl⟩ := ck_cbool h; exact sm_const_bool
 | .cint i, h => obtain ⟨k, p, rfl⟩ := ck_cint h; exact sm_const_int
 | .cstr st, h => obtain ⟨k, p, rfl, h1⟩ := ck_cstr h; exact sm_const_str h1
 | .loc i, h => obtain ⟨nm, p, rfl, h1, h2, h3, h4⟩ := ck_loc h; exact sm_local K.toCtx0 Vs (T_eq h1) h2 h3 h4
 | .glo i, h => obtain ⟨nm, p, rfl, h1, h2⟩ := ck_glo h; exact sm_glob OK K SO h1 h2
 | .bin op a b, h => obtain ⟨l, r, p, rfl, h1, h2⟩ := ck_bin h; exact sm_bin (sm_ev OK HC a K SO Vs h1) (sm_ev OK HC b K SO Vs h2)
 | .not a, h => obtain ⟨l, p, rfl, h1⟩ := ck_not h; exact sm_not (sm_ev OK HC a K SO Vs h1)
 | .band es, h => obtain ⟨l, p, rfl, h1⟩ := ck_band h; exact sm_and OK HC es K SO Vs h1
 | .bor es, h => exact SM.none
 | .cmp op a b, h => obtain ⟨l, r, p, rfl, h0, h1, h2⟩ := ck_cmp h; exact sm_cmp K.room h0 (sm_ev OK HC a K SO Vs h1) (sm_ev OK HC b K SO Vs h2)
 | .cmp2 o1 o2 a b d, h => obtain ⟨l, r1, r2, p, rfl, h0, h1, h2, h3⟩ := ck_cmp2 h; exact sm_cmp2 K.room h0 (sm_ev OK HC a K SO Vs h1) (sm_ev OK HC b K SO Vs h2) (sm_ev OK HC d K SO Vs h3)
 | .list es, h => obtain ⟨l, p, rfl, h1⟩ := ck_list h; exact sm_list (sm_evs OK HC es K SO Vs h1)
 | .tup es, h => obtain ⟨l, k, p, rfl, h1⟩ := ck_tup h; exact sm_tup (sm_evs OK HC es K SO Vs h1)
 | .dict ks vs, h => obtain ⟨p, rfl, rfl, rfl⟩ := ck_dict h; exact sm_dict0
 | .attr a i, h => obtain ⟨l, nm, p, rfl, h0, h1, h2⟩ := ck_attr h; exact sm_attr OK.tab K (T_eq h0) h1 (sm_ev OK HC a K SO Vs h2)
 | .sub a i, h => obtain ⟨l, r, p, rfl, h0, h1, h2⟩ := ck_sub h; exact sm_sub h0 (sm_ev OK HC a K SO Vs h1) (sm_ev OK HC i K SO Vs h2)
 | .slice a lo hi, h =>
  obtain ⟨l, x1, y1, q, p, rfl, h1, h2, h3⟩ := ck_slice h
  refine sm_slice' (sm_ev OK HC a K SO Vs h1) ?_ ?_
  ·cases x1 with
   | none => cases lo <;> first | cases h2; done | exact SM.pure fun _ _ => rfl
   | some e1 => exact sm_ev OK HC lo K SO Vs h2
  ·cases y1 with
   | none => cases hi <;> first | cases h3; done | exact SM.pure fun _ _ => rfl
   | some e1 => exact sm_ev OK HC hi K SO Vs h3
 | .call f args, h => obtain ⟨nm, q, l, p, rfl, h1, h2, h3, h4⟩ := ck_call h; exact sm_call K OK SO HC (T_eq h1) h2 h3 (noStar_of h4) (sm_evs OK HC args K SO Vs h4)
 | .new k, h => obtain ⟨nm, q, p, rfl, h1, h2, h3⟩ := ck_new h; exact sm_new K OK SO HC (T_eq h1) h2 h3
 | .meth o i args, h => obtain ⟨l, nm, q, xs, p, rfl, h1, h2, h3, h4, h5, h6, h7⟩ := ck_meth h; exact sm_meth K OK HC (T_eq h1) h2 h3 h4 h5 (noStar_of h7) (sm_ev OK HC o K SO Vs h6) (sm_evs OK HC args K SO Vs h7)
 | .bi b args, h => obtain ⟨nm, q, l, p, rfl, h1, h2, h3⟩ := ck_bi h; exact sm_bi K OK SO h1 h2 (noStar_of h3) (sm_evs OK HC args K SO Vs h3)
 | .isi a ks, h =>
  obtain ⟨k, q, l, cn, q', p, rfl, rfl, h1, h2, h3, h4, h5⟩ := ck_isi h
  have he : starEach [l, .Name cn q'] c.env = [(false, eval l c.env), (false, eval (.Name cn q') c.env)] := by rw [star_cons h5]; rfl
  exact sm_isinst K OK SO h1 h2 h3 h4 (by unfold NoStar; rw [he]; rfl) he (sm_ev OK HC a K SO Vs h5)
 | .comp elt tg tup it conds, h =>
  obtain ⟨l, tgt, ite, ifs, sc', p, rfl, h1, h2, h3, h4, h5, h6⟩ := ck_comp h
  exact sm_comp K SO Vs OK.tab.nodup h1 h2 h3 (sm_ev OK HC it K SO Vs h4) (fun c' ρ' loc' K' SO' V' => sm_conds OK HC conds K' SO' V' h6) (fun c' ρ' loc' K' SO' V' => sm_ev OK HC elt K' SO' V' h5)
termination_by structural x
theorem sm_evs (OK : SigOK S) {C : Calls} {n : Nat} (HC : CallsOK S C n) (x : Exs) {c : Cx} {ρ : List Addr} {sc : Scope} {loc : Loc} {l : List Expr} {pos : Pos} (K : CtxOK S (n + 2) c) (SO : ScOK sc c.env) (Vs : VarsOK S c sc ρ loc) (h : ckEs S.nam sc x l = true) :
  SM S c ρ VRs (spliced (backTo pos (starEach l c.env))) (evs S.P C x loc) := by
 match x, l, h with
 | .nil, [], h => exact SM.pure fun _ _ => .nil
 | .cons e es, a :: as, h =>
  have h := and_t (show (_ && _) = true from h)
  rw [star_cons h.1]
  refine sm_splice (sm_ev OK HC e K SO Vs h.1) fun ρ' v w k hv => ?_
  exact ((sm_evs OK HC es K SO Vs h.2).mono k).map fun ρ'' vs ws k' hw => .cons (hv.mono k') hw
 | .nil, _ :: _, h => exact nomatch (show false = true from h)
 | .cons _ _, [], h => exact nomatch (show false = true from h)
termination_by structural x
theorem sm_and (OK : SigOK S) {C : Calls} {n : Nat} (HC : CallsOK S C n) (x : Exs) {c : Cx} {ρ : List Addr} {sc : Scope} {loc : Loc} {l : List Expr} {pos : Pos} (K : CtxOK S (n + 2) c) (SO : ScOK sc c.env) (Vs : VarsOK S c sc ρ loc) (h : ckEs S.nam sc x l = true) :
  SM S c ρ VR (boolOp pos .And (evalEach l c.env)) (evAnd S.P C x loc) := by
 match x, l, h with
 | .nil, _, h => exact SM.none
 | .cons e .nil, [a], h =>
  have h := and_t (show (_ && _) = true from h)
  exact sm_ev OK HC e K SO Vs h.1
 | .cons e (.cons e2 es), a :: a2 :: as, h =>
  have h := and_t (show (_ && _) = true from h)
  refine (sm_bool_cons (pos := pos) (o := .And) (sm_ev OK HC e K SO Vs h.1) (sm_and OK HC (.cons e2 es) (l := a2 :: as) K SO Vs h.2)).eqx ?_
  show X.bind (ev S.P C e loc) (fun v => X.bind (truth v) fun t => if t then evAnd S.P C (.cons e2 es) loc else X.pure v) = _
  first | rfl | (congr 1; funext v; congr 1; funext t; cases t <;> rfl)
 | .cons _ .nil, [], h => exact nomatch (show false = true from h)
 | .cons _ .nil, _ :: _ :: _, h => exact nomatch (show false = true from (and_t (show (_ && _) = true from h)).2)
 | .cons _ (.cons _ _), [], h => exact nomatch (show false = true from h)
 | .cons _ (.cons _ _), [_], h => exact nomatch (show false = true from (and_t (show (_ && _) = true from h)).2)
termination_by structural x
theorem sm_tst (OK : SigOK S) {C : Calls} {n : Nat} (HC : CallsOK S C n) (x : Ex) {c : Cx} {ρ : List Addr} {sc : Scope} {loc : Loc} {e : Expr} (K : CtxOK S (n + 2) c) (SO : ScOK sc c.env) (Vs : VarsOK S c sc ρ loc) (h : ckE S.nam sc x e = true) (hw : SM S c ρ VR (eval e c.env) (ev S.P C x loc)) :
  SM S c ρ EqR (isTrue e c.env (eval e c.env)) (tst S.P C x loc (ev S.P C x loc)) := by
 match x, h, hw with
 | .not a, h, hw =>
  obtain ⟨l, p, rfl, h1⟩ := ck_not h
  rw [arm_isTrue_UnaryOp]
  exact (sm_tst OK HC a K SO Vs h1 (sm_ev OK HC a K SO Vs h1)).bind fun ρ' b b' k hb => by subst hb; exact SM.pure fun _ _ => rfl
 | .band es, h, hw => obtain ⟨l, p, rfl, h1⟩ := ck_band h; rw [arm_isTrue_BoolOp]; exact sm_tstAnd OK HC es K SO Vs h1
 | .bor es, h, hw => obtain ⟨l, p, rfl, h1⟩ := ck_bor h; rw [arm_isTrue_BoolOp]; exact sm_tstOr OK HC es K SO Vs h1
 | .cmp op a b, h, hw => obtain ⟨l, r, p, rfl, h0, h1, h2⟩ := ck_cmp h; exact sm_cmp_test K.room h0 (sm_ev OK HC a K SO Vs h1) (sm_ev OK HC b K SO Vs h2)
 | .cmp2 o1 o2 a b d, h, hw => obtain ⟨l, r1, r2, p, rfl, h0, h1, h2, h3⟩ := ck_cmp2 h; exact sm_cmp2_test K.room h0 (sm_ev OK HC a K SO Vs h1) (sm_ev OK HC b K SO Vs h2) (sm_ev OK HC d K SO Vs h3)
 | .cnone, h, hw => exact sm_test (pl h rfl) hw
 | .cbool b, h, hw => exact sm_test (pl h rfl) hw
 | .cint i, h, hw => exact sm_test (pl h rfl) hw
 | .cstr st, h, hw => exact sm_test (pl h rfl) hw
 | .loc i, h, hw => exact sm_test (pl h rfl) hw
 | .glo i, h, hw => exact sm_test (pl h rfl) hw
 | .bin op a b, h, hw => exact sm_test (pl h rfl) hw
 | .list es, h, hw => exact sm_test (pl h rfl) hw
 | .tup es, h, hw => exact sm_test (pl h rfl) hw
 | .dict ks vs, h, hw => exact sm_test (pl h rfl) hw
 | .attr a i, h, hw => exact sm_test (pl h rfl) hw
 | .sub a i, h, hw => exact sm_test (pl h rfl) hw
 | .slice a lo hi, h, hw => exact sm_test (pl h rfl) hw
 | .call f args, h, hw => exact sm_test (pl h rfl) hw
 | .new k, h, hw => exact sm_test (pl h rfl) hw
 | .meth o i args, h, hw => exact sm_test (pl h rfl) hw
 | .bi b args, h, hw => exact sm_test (pl h rfl) hw
 | .isi a ks, h, hw => exact sm_test (pl h rfl) hw
 | .comp elt tg tup it conds, h, hw => exact sm_test (pl h rfl) hw
termination_by structural x
theorem sm_tstAnd (OK : SigOK S) {C : Calls} {n : Nat} (HC : CallsOK S C n) (x : Exs) {c : Cx} {ρ : List Addr} {sc : Scope} {loc : Loc} {l : List Expr} (K : CtxOK S (n + 2) c) (SO : ScOK sc c.env) (Vs : VarsOK S c sc ρ loc) (h : ckEs S.nam sc x l = true) :
  SM S c ρ EqR (allTrue .And l c.env) (tstAnd S.P C x loc) := by
 match x, l, h with
 | .nil, [], h => exact SM.pure fun _ _ => rfl
 | .cons e es, a :: as, h =>
  have h := and_t (show (_ && _) = true from h)
  rw [arm_allTrue_cons]
  refine (sm_tst OK HC e K SO Vs h.1 (sm_ev OK HC e K SO Vs h.1)).bind fun ρ' b b' k hb => ?_
  subst hb
  cases b
  ·exact SM.pure fun _ _ => rfl
  ·exact (sm_tstAnd OK HC es K SO Vs h.2).mono k
 | .nil, _ :: _, h => exact nomatch (show false = true from h)
 | .cons _ _, [], h => exact nomatch (show false = true from h)
termination_by structural x
theorem sm_tstOr (OK : SigOK S) {C : Calls} {n : Nat} (HC : CallsOK S C n) (x : Exs) {c : Cx} {ρ : List Addr} {sc : Scope} {loc : Loc} {l : List Expr} (K : CtxOK S (n + 2) c) (SO : ScOK sc c.env) (Vs : VarsOK S c sc ρ loc) (h : ckEs S.nam sc x l = true) :
  SM S c ρ EqR (allTrue .Or l c.env) (tstOr S.P C x loc) := by
 match x, l, h with
 | .nil, [], h => exact SM.pure fun _ _ => rfl
 | .cons e es, a :: as, h =>
  have h := and_t (show (_ && _) = true from h)
  rw [arm_allTrue_cons]
  refine (sm_tst OK HC e K SO Vs h.1 (sm_ev OK HC e K SO Vs h.1)).bind fun ρ' b b' k hb => ?_
  subst hb
  cases b
  ·exact (sm_tstOr OK HC es K SO Vs h.2).mono k
  ·exact SM.pure fun _ _ => rfl
 | .nil, _ :: _, h => exact nomatch (show false = true from h)
 | .cons _ _, [], h => exact nomatch (show false = true from h)
termination_by structural x
theorem sm_conds (OK : SigOK S) {C : Calls} {n : Nat} (HC : CallsOK S C n) (x : Exs) {c : Cx} {ρ : List Addr} {sc : Scope} {loc : Loc} {l : List Expr} (K : CtxOK S (n + 2) c) (SO : ScOK sc c.env) (Vs : VarsOK S c sc ρ loc) (h : ckEs S.nam sc x l = true) :
  SM S c ρ EqR (condTree l c.env) (tstAnd S.P C x loc) := by
 match x, l, h with
 | .nil, [], h => exact SM.pure fun _ _ => rfl
 | .cons e es, a :: as, h =>
  have h := and_t (show (_ && _) = true from h)
  exact sm_cond_cons (sm_tst OK HC e K SO Vs h.1 (sm_ev OK HC e K SO Vs h.1)) (sm_conds OK HC es K SO Vs h.2)
 | .nil, _ :: _, h => exact nomatch (show false = true from h)
 | .cons _ _, [], h => exact nomatch (show false = true from h)
termination_by structural x
end
end Mine.Internal
set_option autoImplicit false
namespace Mine.Internal
open PySem PySem.W PySem.Calls PyProof.Rows
variable {S : Sig}
set_option genInjectivity false in
structure Dx where
 A : Around
 env : Env
 h₀ : Heap
 L : Addr
 fs : Fs
 kp : List (Addr × Obj)
noncomputable abbrev Dx.cx (d : Dx) (m : Str → Option Value) (cs : List (Addr × Obj)) : Cx := ⟨d.A, d.env, d.h₀, d.L, m, d.fs, d.kp ++ cs⟩
structure CellsOK (env : Env) (cs : List (Addr × Obj)) : Prop where
 all : All2 (fun (p : Str × Addr) (q : Addr × Obj) => p.2 = q.1 ∧ ∃ v, q.2.data = .cell v) env.cells cs
 nd : (env.cells.map (·.1)).Nodup
structure Fm (S : Sig) (d : Dx) (sc : Scope) (loc : Loc) (os : List (Addr × Obj)) (σ : H) (h : Heap) (m : Str → Option Value) (cs : List (Addr × Obj)) : Prop where
 vars : VarsOK S (d.cx m cs) sc (adr os) loc
 cells : CellsOK d.env cs
 led : (d.cx m cs).led S os σ h
noncomputable abbrev XS := Loc → H → Option (R (Option V) × Loc × H)
noncomputable def PostX (S : Sig) (d : Dx) (sc : Scope) (os : List (Addr × Obj)) (s : Shared) (r : R (Option V)) (loc' : Loc) (σ' : H) (Q : Flow → Shared → Prop) (E : Value → Shared → Prop) : Prop :=
 ∀ (m' : Str → Option Value) (cs' os' : List (Addr × Obj)) (h' : Heap) (tk : Nat), adr os <+: adr os' → Fm S d sc loc' os' σ' h' m' cs' → match r with
  | .ok none => Q .next { s with heap := h', toks := tk }
  | .ok (some v) => ∀ a, VR (adr os') v a → Q (.ret a) { s with heap := h', toks := tk }
  | .err k => ∀ e, Fly S (d.cx m' cs') os' e k h' → E e { s with heap := h', toks := tk }
noncomputable def PostE (S : Sig) (d : Dx) (sc : Scope) (os : List (Addr × Obj)) (s : Shared) (m : Str → Option Value) (cs : List (Addr × Obj)) (loc : Loc) (r : R (Option V)) (loc' : Loc) (σ' : H) (E : Value → Shared → Prop) : Prop :=
 ∀ k, r = .err k → loc' = loc → ∀ (os₁ : List (Addr × Obj)) (h₁ : Heap) (tk : Nat) (e : Value), adr os <+: adr os₁ → Fm S d sc loc os₁ σ' h₁ m cs → Fly S (d.cx m cs) os₁ e k h₁ → E e { s with heap := h₁, toks := tk }
theorem PostX.err {S : Sig} {d : Dx} {sc : Scope} {os : List (Addr × Obj)} {s : Shared} {r : R (Option V)} {loc' : Loc} {σ' : H} {Q : Flow → Shared → Prop} {E : Value → Shared → Prop} (hQ : PostX S d sc os s r loc' σ' Q E)
  {os₁ : List (Addr × Obj)} (k : adr os <+: adr os₁) {h : Heap} {t : Nat} {m : Str → Option Value} {cs : List (Addr × Obj)} {loc : Loc} : PostE S d sc os₁ { s with heap := h, toks := t } m cs loc r loc' σ' E := by
 rintro q rfl rfl os₂ h₂ tk e k₂ F f
 exact hQ m cs os₂ h₂ tk (k.trans k₂) F e f
noncomputable def SX (S : Sig) (d : Dx) (sc : Scope) (t : Sem Flow) (x : XS) : Prop :=
 ∀ (loc : Loc) (m : Str → Option Value) (cs os : List (Addr × Obj)) (σ : H) (s : Shared) (r : R (Option V)) (loc' : Loc) (σ' : H), Fm S d sc loc os σ s.heap m cs → x loc σ = some (r, loc', σ') →
  ∀ (Q : Flow → Shared → Prop) (E : Value → Shared → Prop),
   PostX S d sc os s r loc' σ' Q E →
   wpAny (model S.prog S.w) d.A t Q E s
inductive OnI {α : Type} (m : X α) (loc loc' : Loc) (f : α → H → Option (R (Option V) × Loc × H)) (σ σ' : H) (r : R (Option V)) : Prop
 | ok (a : α) (σ₁ : H) (e1 : m σ = some (.ok a, σ₁)) (e2 : f a σ₁ = some (r, loc', σ')) : OnI m loc loc' f σ σ' r
 | err (k : Nat) (e1 : m σ = some (.err k, σ')) (e2 : r = .err k) (e3 : loc' = loc) : OnI m loc loc' f σ σ' r
theorem onX_inv {α : Type} {m : X α} {loc loc' : Loc} {f : α → H → Option (R (Option V) × Loc × H)} {σ σ' : H} {r : R (Option V)} (h : onX m loc f σ = some (r, loc', σ')) :
  OnI m loc loc' f σ σ' r := by
 unfold onX at h
 split at h
 ·cases h
 ·rename_i k σ₁ e; cases h; exact .err k e rfl rfl
 ·rename_i a σ₁ e; exact .ok a σ₁ e h
section
variable {d : Dx} {sc : Scope} {loc : Loc} {os os' : List (Addr × Obj)} {σ σ' : H} {h h' : Heap} {m : Str → Option Value} {cs : List (Addr × Obj)}
theorem Fm.step (f : Fm S d sc loc os σ h m cs) (k : adr os <+: adr os') (l : (d.cx m cs).led S os' σ' h') : Fm S d sc loc os' σ' h' m cs := ⟨f.vars.mono k, f.cells, l⟩
theorem sx_on {α β : Type} {RV : List Addr → β → α → Prop} {t : Sem α} {x : X β} {s : Shared} {r : R (Option V)} {loc' : Loc} {f : β → H → Option (R (Option V) × Loc × H)}
  (F : Fm S d sc loc os σ s.heap m cs) (hx : SM S (d.cx m cs) (adr os) RV t x) (e : onX x loc f σ = some (r, loc', σ')) {Q : α → Shared → Prop} {E : Value → Shared → Prop} (hE : PostE S d sc os s m cs loc r loc' σ' E)
  (hQ : ∀ (b : β) (σ₁ : H), f b σ₁ = some (r, loc', σ') → ∀ (os₁ : List (Addr × Obj)) (h₁ : Heap) (tk : Nat) (a : α), adr os <+: adr os₁ → Fm S d sc loc os₁ σ₁ h₁ m cs → RV (adr os₁) b a → Q a { s with heap := h₁, toks := tk }) :
  wpAny (model S.prog S.w) d.A t Q E s := by
 rcases onX_inv e with ⟨b, σ₁, e1, e2⟩ | ⟨k, e1, rfl, rfl⟩
 ·exact hx os σ s _ _ List.prefix_rfl F.led e1 _ _ fun os₁ h₁ tk a k l hr => hQ b σ₁ e2 os₁ h₁ tk a k (F.step k l) hr
 ·exact hx os σ s _ _ List.prefix_rfl F.led e1 _ _ fun os₁ h₁ tk e k₁ l₁ f => hE k rfl rfl os₁ h₁ tk e k₁ (F.step k₁ l₁) f
end
section
variable {d : Dx} {sc : Scope}
noncomputable def isComp (v : Expr) : Bool := Nat.ble 8 (tagE v) && Nat.ble (tagE v) 10
theorem no_swap {v : Expr} (h : isComp v = false) (t : Option Expr) (line : Nat) (env : Env) : swapsWith v t line env = pure false := by
 cases v <;> first | rfl | cases h
theorem sx_expr (hk : d.env.scope.kind = .function) {v : Expr} {pos : Pos} {x : Loc → X V} (hc : isComp v = false) (hx : ∀ m cs ρ loc, VarsOK S (d.cx m cs) sc ρ loc → SM S (d.cx m cs) ρ VR (eval v d.env) (x loc)) :
  SX S d sc (exec (.Expr v pos) d.env) (fun loc h => onX (x loc) loc (fun _ h₁ => some (.ok none, loc, h₁)) h) := by
 intro loc m cs os σ s r loc' σ' F e Q E hQ
 refine wpAny_Expr_any (sx_on F (hx _ _ _ _ F.vars) e (hQ.err List.prefix_rfl) fun b σ₁ e2 os₁ h₁ tk a k F₁ hr => ?_) (by unfold interactive; rw [hk]; rfl) (no_swap hc _ _ _)
 cases e2
 exact hQ m cs os₁ h₁ tk k F₁
theorem sx_ret {v : Expr} {pos : Pos} {x : Loc → X V} (hx : ∀ m cs ρ loc, VarsOK S (d.cx m cs) sc ρ loc → SM S (d.cx m cs) ρ VR (eval v d.env) (x loc)) :
  SX S d sc (exec (.Return (some v) pos) d.env) (fun loc h => onX (x loc) loc (fun v h₁ => some (.ok (some v), loc, h₁)) h) := by
 intro loc m cs os σ s r loc' σ' F e Q E hQ
 refine wpAny_Return_some (sx_on F (hx _ _ _ _ F.vars) e (hQ.err List.prefix_rfl) fun b σ₁ e2 os₁ h₁ tk a k F₁ hr => ?_)
 cases e2
 exact hQ m cs os₁ h₁ tk k F₁ a hr
theorem sx_ret0 {pos : Pos} : SX S d sc (exec (.Return none pos) d.env) (fun loc h => some (.ok (some .none), loc, h)) := by
 intro loc m cs os σ s r loc' σ' F e Q E hQ
 cases e
 exact wpAny_Return_none (hQ m cs os s.heap s.toks List.prefix_rfl F .none rfl)
theorem sx_pass {pos : Pos} : SX S d sc (exec (.Pass pos) d.env) (fun loc h => some (.ok none, loc, h)) := by
 intro loc m cs os σ s r loc' σ' F e Q E hQ
 cases e
 exact wpAny_Pass (hQ m cs os s.heap s.toks List.prefix_rfl F)
theorem sx_nil : SX S d sc (execs [] d.env) (fun loc h => some (.ok none, loc, h)) := by
 intro loc m cs os σ s r loc' σ' F e Q E hQ
 cases e
 exact wpAny_execs_nil (hQ m cs os s.heap s.toks List.prefix_rfl F)
theorem sx_cons {st : Stmt} {rest : List Stmt} {x y : XS} (h1 : SX S d sc (exec st d.env) x) (h2 : SX S d sc (execs rest d.env) y) :
  SX S d sc (execs (st :: rest) d.env) (fun loc h => match x loc h with | some (.ok none, l₁, h₁) => y l₁ h₁ | r => r) := by
 intro loc m cs os σ s r loc' σ' F e Q E hQ
 refine wpAny_execs_cons ?_
 cases hx : x loc σ with
 | none => dsimp only at e; rw [hx] at e; cases e
 | some p =>
  obtain ⟨rr, l₁, σ₁⟩ := p
  dsimp only at e
  rw [hx] at e
  refine h1 loc m cs os σ s rr l₁ σ₁ F hx _ _ fun m₁ cs₁ os₁ h₁ tk₁ k₁ F₁ => ?_
  cases rr with
  | err q => cases e; exact hQ m₁ cs₁ os₁ h₁ tk₁ k₁ F₁
  | ok o =>
   cases o with
   | none => exact h2 l₁ m₁ cs₁ os₁ σ₁ { s with heap := h₁, toks := tk₁ } r loc' σ' F₁ e Q E fun m₂ cs₂ os₂ h₂ tk₂ k₂ F₂ => hQ m₂ cs₂ os₂ h₂ tk₂ (k₁.trans k₂) F₂
   | some v =>
    cases e
    exact hQ m₁ cs₁ os₁ h₁ tk₁ k₁ F₁
theorem sx_if {c : Expr} {a b : List Stmt} {pos : Pos} {x : Loc → X Bool} {y z : XS} (hx : ∀ m cs ρ loc, VarsOK S (d.cx m cs) sc ρ loc → SM S (d.cx m cs) ρ EqR (isTrue c d.env (eval c d.env)) (x loc)) (hy : SX S d sc (execs a d.env) y) (hz : SX S d sc (execs b d.env) z) :
  SX S d sc (exec (.If c a b pos) d.env) (fun loc h => onX (x loc) loc (fun t h₁ => if t then y loc h₁ else z loc h₁) h) := by
 intro loc m cs os σ s r loc' σ' F e Q E hQ
 refine wpAny_If (sx_on F (hx _ _ _ _ F.vars) e (hQ.err List.prefix_rfl) fun t σ₁ e2 os₁ h₁ tk a k F₁ hr => ?_)
 subst hr
 cases t
 ·exact hz loc m cs os₁ σ₁ { s with heap := h₁, toks := tk } r loc' σ' F₁ e2 Q E fun m₂ cs₂ os₂ h₂ tk₂ k₂ F₂ => hQ m₂ cs₂ os₂ h₂ tk₂ (k.trans k₂) F₂
 ·exact hy loc m cs os₁ σ₁ { s with heap := h₁, toks := tk } r loc' σ' F₁ e2 Q E fun m₂ cs₂ os₂ h₂ tk₂ k₂ F₂ => hQ m₂ cs₂ os₂ h₂ tk₂ (k.trans k₂) F₂
inductive AfI (x : Option (R (Option V) × Loc × H)) (k : Loc → H → Option (R (Option V) × Loc × H)) (r : R (Option V)) (l' : Loc) (σ' : H) : Prop
 | mk (o : Option V) (l₂ : Loc) (σ₂ : H) (e : x = some (.ok o, l₂, σ₂)) (hN : o = none → k l₂ σ₂ = some (r, l', σ')) (hV : ∀ w, o = some w → r = .ok (some w) ∧ l' = l₂ ∧ σ' = σ₂) : AfI x k r l' σ'
theorem after_inv {x : Option (R (Option V) × Loc × H)} {k : Loc → H → Option (R (Option V) × Loc × H)} {r : R (Option V)} {l' : Loc} {σ' : H} (h : afterX x k = some (r, l', σ')) : AfI x k r l' σ' := by
 match x, h with
 | some (.ok none, l₂, σ₂), h => exact ⟨none, l₂, σ₂, rfl, fun _ => h, fun w e => nomatch e⟩
 | some (.ok (some v), l₂, σ₂), h => cases h; exact ⟨some v, _, _, rfl, fun e => (nomatch e), fun w e => by cases e; exact ⟨rfl, rfl, rfl⟩⟩
inductive WlI (x : Loc → X Bool) (y : Loc → H → Option (R (Option V) × Loc × H)) (k : Nat) (l l' : Loc) (σ σ' : H) (r : R (Option V)) : Prop
 | mk (b : Bool) (σ₁ : H) (e : x l σ = some (.ok b, σ₁)) (hF : b = false → r = .ok none ∧ l' = l ∧ σ' = σ₁) (hT : b = true → AfI (y l σ₁) (fun l₂ h₂ => whileL x y k l₂ h₂) r l' σ') : WlI x y k l l' σ σ' r
theorem whileL_inv {x : Loc → X Bool} {y : Loc → H → Option (R (Option V) × Loc × H)} {k : Nat} {l l' : Loc} {σ σ' : H} {r : R (Option V)} (h : whileL x y (k + 1) l σ = some (r, l', σ')) : WlI x y k l l' σ σ' r := by
 unfold whileL at h
 cases ht : x l σ with
 | none => rw [ht] at h; cases h
 | some p =>
  obtain ⟨tr, σ₁⟩ := p
  rw [ht] at h
  cases tr with
  | err q => cases h
  | ok b =>
   refine ⟨b, σ₁, ht, ?_, ?_⟩
   ·rintro rfl; cases h; exact ⟨rfl, rfl, rfl⟩
   ·rintro rfl; exact after_inv h
theorem while_gen {M : Program} {w : World} {A : Around} {test : Expr} {body : List Stmt} {env : Env} {R : Result → Shared → Prop} {s : Shared} (I : Nat → Shared → Prop)
  (turn : ∀ n s, I n s → ∀ (P : Bool → Shared → Prop) (E' : Value → Shared → Prop), (∀ s₁, R (.ok .next) s₁ → P false s₁) →
   (∀ s₁, (∀ G : Flow → Shared → Prop, (∀ m s₃, m < n → I m s₃ → G .next s₃) → (∀ a s₃, R (.ok (.ret a)) s₃ → G (.ret a) s₃) → wpAny (model M w) A (execs body env) G E' s₁) → P true s₁) →
   wpAny (model M w) A (isTrue test env (eval test env)) P E' s) (n : Nat) (h : I n s) : codeAny (model M w) A (.whileLoop test body [] env) R s :=
 codeAny_whileLoop I (fun n s hI => turn n s hI _ _ (fun s₁ h₁ => wpAny_execs_nil h₁) fun s₁ h₁ => h₁ _ (fun m s₃ hm h₃ => ⟨m, hm, h₃⟩) fun a s₃ h₃ => h₃) n h
inductive WhI (S : Sig) (d : Dx) (sc : Scope) (f : Nat → Loc → H → Prop) (os : List (Addr × Obj)) (s : Shared) (k : Nat) (s' : Shared) : Prop
 | mk (h' : Heap) (tk : Nat) (os' : List (Addr × Obj)) (σ₁ : H) (m' : Str → Option Value) (cs' : List (Addr × Obj)) (l' : Loc) (e1 : s' = { s with heap := h', toks := tk }) (kp : adr os <+: adr os') (F : Fm S d sc l' os' σ₁ h' m' cs') (hL : f k l' σ₁) : WhI S d sc f os s k s'
theorem sx_while {c : Expr} {a : List Stmt} {pos : Pos} {x : Loc → X Bool} {y : XS} {fuel : Nat} (hx : ∀ m cs ρ loc, VarsOK S (d.cx m cs) sc ρ loc → SM S (d.cx m cs) ρ EqR (isTrue c d.env (eval c d.env)) (x loc)) (hy : SX S d sc (execs a d.env) y) :
  SX S d sc (exec (.While c a [] pos) d.env) (fun loc h => whileL x y fuel loc h) := by
 intro loc m cs os σ s r loc' σ' F e Q E hQ
 refine wpAny_While ?_
 refine while_gen (WhI S d sc (fun k l σ₁ => whileL x y k l σ₁ = some (r, loc', σ')) os s) ?_ fuel ⟨s.heap, s.toks, os, σ, m, cs, loc, rfl, List.prefix_rfl, F, e⟩
 rintro k s' ⟨h', tk, os', σ₁, m', cs', l', rfl, k', F', e'⟩ P E' hP hB
 cases k with
 | zero => cases e'
 | succ k =>
  obtain ⟨b, σ₂, ht, hF, hT⟩ := whileL_inv e'
  refine hx _ _ _ _ F'.vars os' σ₁ { s with heap := h', toks := tk } _ _ List.prefix_rfl F'.led ht _ _ fun os₂ h₂ tk₂ t' k₂ l₂ hb => ?_
  subst hb
  have F₂ := F'.step k₂ l₂
  cases b with
  | false =>
   obtain ⟨rfl, rfl, rfl⟩ := hF rfl
   exact hP _ (hQ m' cs' os₂ h₂ tk₂ (k'.trans k₂) F₂)
  | true =>
   obtain ⟨o, l₃, σ₃, hb, hN, hV⟩ := hT rfl
   refine hB _ fun G hG hR => ?_
   refine hy l' m' cs' os₂ σ₂ { s with heap := h₂, toks := tk₂ } _ l₃ σ₃ F₂ hb _ _ fun m₃ cs₃ os₃ h₃ tk₃ k₃ F₃ => ?_
   cases o with
   | none => exact hG k _ (Nat.lt_succ_self k) ⟨h₃, tk₃, os₃, σ₃, m₃, cs₃, l₃, rfl, k'.trans (k₂.trans k₃), F₃, hN rfl⟩
   | some v =>
    obtain ⟨rfl, rfl, rfl⟩ := hV v rfl
    exact fun a ha => hR a _ (hQ m₃ cs₃ os₃ h₃ tk₃ (k'.trans (k₂.trans k₃)) F₃ a ha)
end
end Mine.Internal
set_option autoImplicit false
namespace Mine.Internal
open PySem PySem.W PySem.Calls PyProof.Rows
variable {S : Sig}
theorem funFrames_intro {h base : Heap} : ∀ {l : List Env}, (∀ e ∈ l, e.scope.kind ≠ .module ∧ ∃ L o, e.frame = some L ∧ base.get? L = none ∧ h.get? L = some o ∧ ∀ vs, o.data ≠ .fields vs) → h.FunFrames base l
 | [], _ => trivial
 | _ :: _, k => ⟨(k _ (.head _)).1, (k _ (.head _)).2, funFrames_intro fun e he => k e (.tail _ he)⟩
theorem ns_there {h : Heap} {a : Addr} {m : Str → Option Value} (x : h.Ns a m) : ∃ o, h.get? a = some o ∧ ∀ vs, o.data ≠ .fields vs := by
 obtain ⟨o, es, ep, ho, hd, _⟩ := x
 exact ⟨o, ho, fun vs q => by rw [hd] at q; cases q⟩
section
variable {h₀ h h' : Heap} {L : Addr} {m : Str → Option Value} {fs : Fs} {kp os : List (Addr × Obj)} {σ : H}
theorem Led.slots (l : Led S h₀ L m fs kp os σ h) (sm : h.UpToSlots h') (st : h₀.StaysIn h') (kb : ∀ p ∈ kp ++ os, h'.get? p.1 = some p.2) : Led S h₀ L m fs kp os σ h' :=
 ⟨Fr.of_stays l.fr st sm, fun p hp => ⟨kb p hp, (l.news p hp).2⟩, l.nd, l.objs, fun f hf => ⟨sm.ns (l.outs f hf).1, (l.outs f hf).2⟩, l.top, l.big, l.frz, l.lkd⟩
theorem Led.frame (l : Led S h₀ L m fs kp os σ h) {b : Addr} (hb : b ∈ L :: fs.map (·.1)) : h₀.get? b = none ∧ b ∉ adr (kp ++ os) ∧ ∃ o, h.get? b = some o ∧ ∀ vs, o.data ≠ .fields vs := by
 rcases List.mem_cons.mp hb with rfl | hb
 ·refine ⟨none_above l.fr, fun hm => ?_, ns_there l.fr.ns⟩
  obtain ⟨p, hp, e⟩ := List.mem_map.mp hm
  exact (l.news p hp).2.1 e
 ·obtain ⟨f, hf, rfl⟩ := List.mem_map.mp hb
  have := l.outs f hf
  exact ⟨this.2.2.1, this.2.2.2, ns_there this.1⟩
end
section
variable {c : Cx} {n : Nat} {os : List (Addr × Obj)} {σ : H} {h h' : Heap}
theorem fly_made (K : CtxOK S n c) (l : c.led S os σ h) {e C : Addr} {vs : List Value} {k : Nat} (hk : S.ex k = some C) (hx : Heap.MadeExcOf h h' e (.ref C) vs) : Fly S c os (.ref e) k h' := by
 obtain ⟨fr, h1, h2⟩ := K.frs
 have hb : ∀ b, b ∈ fr.filterMap (·.frame) → c.h₀.get? b = none ∧ b ∉ adr (c.kp ++ os) := fun b hb => by
  obtain ⟨ev, he, hf⟩ := List.mem_filterMap.mp hb
  obtain ⟨_, b', g1, g2⟩ := h2 ev he
  rw [hf] at g1; cases g1
  exact ⟨(l.frame g2).1, (l.frame g2).2.1⟩
 refine ⟨e, C, hideAll h (fr.filterMap (·.frame)), fr, rfl, hk, h1, ⟨fun b o q => hx.keeps b o (of_hideAll _ q), ?_, ?_, .inr ?_⟩, fun b o q => ?_, fun p hp => ?_⟩
 ·cases q : (hideAll h (fr.filterMap (·.frame))).get? e with
  | none => rfl
  | some o => have := of_hideAll _ q; rw [hx.new] at this; cases this
 ·refine funFrames_intro fun ev he => ?_
  obtain ⟨g0, b, g1, g2⟩ := h2 ev he
  obtain ⟨_, _, o, g3, g4⟩ := l.frame g2
  exact ⟨g0, b, o, g1, hideAll_none _ (List.mem_filterMap.mpr ⟨ev, he, g1⟩), hx.keeps _ _ g3, g4⟩
 ·obtain ⟨t, he, _, _⟩ := hx.there
  exact ⟨_, _, _, he, rfl, rfl, rfl, rfl⟩
 ·refine hideAll_get _ (l.fr.keep b o q) fun hm => ?_
  rw [(hb b hm).1] at q; cases q
 ·exact hideAll_get _ (l.news p hp).1 fun hm => (hb _ hm).2 (List.mem_map_of_mem hp)
variable {M : Model} {A : Around} {E : Value → Shared → Prop} {s : Shared}
theorem fly_note {B : Heap} {env : Env} {outer : List Env} {L a : Addr} {cls : Value} {Q : Unit → Shared → Prop} (hfr : A.frames = some (env :: outer)) (hf : env.frame = some L) (F : FlyB B (env :: outer) a cls s.heap)
  (hQ : ∀ h' a0, Heap.HeldW B (env :: outer) a cls a0 L h' → s.heap.UpToSlots h' → Q () { s with heap := h' }) : wpAny M A (noteFrame (.ref a) env) Q E s := by
 obtain ⟨f1, f2, f3, ⟨a0, f4⟩ | ⟨oe, vs, a0, g1, rfl, g3, g4, g5⟩⟩ := F
 ·exact wpAny_looks_onW hfr hf ⟨f1, f2, f3, f4⟩ fun h' x y => hQ h' a0 x y
 ·unfold noteFrame
  simp only [hf]
  refine wpAny_bind (wpAny_field g1 g3 g4 ?_)
  rw [if_neg (by decide)]
  exact wpAny_entryW hfr f3 hf g1 f1 f2 g3 (Array.getElem?_eq_some_iff.mp g4).1 g5 fun h' x => hQ h' a0 ⟨x.1, f2, x.2.1, x.2.2.1⟩ x.2.2.2
theorem fly_leave {B : Heap} {env : Env} {outer : List Env} {L a : Addr} {cls : Value} {Q : Unit → Shared → Prop} (hfr : A.frames = some (env :: outer)) (hf : env.frame = some L) (F : FlyB B (env :: outer) a cls s.heap)
  (hQ : ∀ h', FlyB B outer a cls h' → s.heap.UpToSlots h' → Q () { s with heap := h' }) : wpAny M A (leaving env (.ref a)) Q E s := by
 unfold leaving
 refine wpAny_bind (fly_note hfr hf F fun h₁ a0 x y => ?_)
 exact wpAny_landsW x fun h₂ z u => hQ h₂ ⟨z.1, z.2.1, z.2.2.1.2.2, .inl ⟨a0, z.2.2.2⟩⟩ (y.trans u)
end
end Mine.Internal
set_option autoImplicit false
namespace Mine.Internal
open PySem PySem.W PySem.Calls PyProof.Rows
variable {S : Sig}
theorem lookup_idx {α : Type} : ∀ {l : List (Str × α)} {n : Str} {a : α}, l.lookup n = some a → ∃ i : Nat, l[i]? = some (n, a)
 | [], _, _, h => by simp at h
 | (k, b) :: r, n, a, h => by
  by_cases hk : n = k
  ·subst hk
   simp at h; subst h; exact ⟨0, rfl⟩
  ·have : (n == k) = false := by simpa using hk
   rw [List.lookup_cons, this] at h
   obtain ⟨i, hi⟩ := lookup_idx h
   exact ⟨i + 1, hi⟩
theorem Led.kperm {h₀ h : Heap} {L : Addr} {m : Str → Option Value} {fs : Fs} {kp kp' os : List (Addr × Obj)} {σ : H} (l : Led S h₀ L m fs kp os σ h) (p : kp.Perm kp') : Led S h₀ L m fs kp' os σ h := by
 have p' : (kp ++ os).Perm (kp' ++ os) := p.append_right os
 have pa : (adr (kp ++ os)).Perm (adr (kp' ++ os)) := p'.map _
 exact ⟨l.fr, fun q hq => l.news q (p'.mem_iff.mpr hq), pa.nodup_iff.mp l.nd, l.objs, fun f hf => ⟨(l.outs f hf).1, (l.outs f hf).2.1, (l.outs f hf).2.2.1, fun q => (l.outs f hf).2.2.2 (pa.mem_iff.mpr q)⟩, l.top, fun b hb => l.big b (pa.mem_iff.mpr hb), l.frz, l.lkd⟩
theorem set_self {α : Type} : ∀ {l : List α} {i : Nat} {a : α}, l[i]? = some a → l.set i a = l
 | [], _, _, e => by simp at e
 | x :: r, 0, _, e => by simp only [List.getElem?_cons_zero, Option.some.injEq] at e; rw [e]; rfl
 | x :: r, i + 1, _, e => by simp only [List.getElem?_cons_succ] at e; rw [List.set_cons_succ, set_self e]
section
variable {d : Dx} {sc : Scope} {loc : Loc} {os : List (Addr × Obj)} {σ : H} {h : Heap} {m : Str → Option Value} {cs : List (Addr × Obj)}
theorem nd_parts {S : Sig} {h₀ : Heap} {L : Addr} {fs : Fs} {kp : List (Addr × Obj)} (l : Led S h₀ L m fs (kp ++ cs) os σ h) : (adr cs).Nodup ∧ ∀ p ∈ kp, ∀ q ∈ cs, p.1 ≠ q.1 := by
 have nd := l.nd
 simp only [adr, List.map_append] at nd
 obtain ⟨n1, _, _⟩ := List.nodup_append.mp nd
 obtain ⟨_, n2, n3⟩ := List.nodup_append.mp n1
 exact ⟨n2, fun p hp q hq e => n3 p.1 (List.mem_map_of_mem hp) q.1 (List.mem_map_of_mem hq) e⟩
theorem CellsOK.at {env : Env} (C : CellsOK env cs) {nm : Str} {a : Addr} (e : env.cells.lookup nm = some a) : ∃ (i : Nat) (o : Obj) (v : Option Value), env.cells[i]? = some (nm, a) ∧ cs[i]? = some (a, o) ∧ o.data = .cell v := by
 obtain ⟨i, hi⟩ := lookup_idx e
 obtain ⟨q, hq, h1, v, h2⟩ := C.all.get hi
 obtain ⟨b, o⟩ := q
 dsimp only at h1 h2
 subst h1
 exact ⟨i, o, v, hi, hq, h2⟩
theorem cell_mem {S : Sig} {h₀ : Heap} {L : Addr} {fs : Fs} {kp : List (Addr × Obj)} {env : Env} (l : Led S h₀ L m fs (kp ++ cs) os σ h) (C : CellsOK env cs) {nm : Str} {a : Addr} {o : Obj} (e : env.cells.lookup nm = some a) (hm : (a, o) ∈ kp ++ cs) : (a, o) ∈ cs := by
 obtain ⟨i, o', v, _, h2, _⟩ := C.at e
 rcases List.mem_append.mp hm with hm | hm
 ·exact absurd rfl ((nd_parts l).2 (a, o) hm (a, o') (List.mem_of_getElem? h2))
 ·exact hm
theorem vars_kp {kp' : List (Addr × Obj)} (F : Fm S d sc loc os σ h m cs) : VarsOK S ({ d with kp := kp' }.cx m cs) sc (adr os) loc := by
 intro i v nm h1 h2 h3
 obtain ⟨x, h4, h5⟩ := F.vars i v nm h1 h2 h3
 refine ⟨x, ?_, h5⟩
 rcases h4 with ⟨q1, q2⟩ | ⟨q1, a, o, q2, q3, q4⟩
 ·exact .inl ⟨q1, q2⟩
 ·exact .inr ⟨q1, a, o, q2, List.mem_append_right _ (cell_mem F.led F.cells q2 q3), q4⟩
theorem vars_up {W : List (Addr × Obj)} {ρ : List Addr} (V' : VarsOK S (d.cx m cs) sc ρ loc) : VarsOK S ({ d with kp := d.kp ++ W }.cx m cs) sc ρ loc := by
 intro a w nma h1 h2 h3
 obtain ⟨z, q, hz⟩ := V' a w nma h1 h2 h3
 refine ⟨z, ?_, hz⟩
 rcases q with q | ⟨q1, b, ob, q2, q3, q4⟩
 ·exact .inl q
 ·refine .inr ⟨q1, b, ob, q2, ?_, q4⟩
  rcases List.mem_append.mp q3 with q3 | q3
  ·exact List.mem_append_left _ (List.mem_append_left _ q3)
  ·exact List.mem_append_right _ q3
theorem upd_ne {loc : Loc} {i j : Nat} {v : V} (h : j ≠ i) : loc.upd i v j = loc j := by rw [Loc.upd, beq_eq_false_iff_ne.mpr h]; rfl
theorem upd_eq {loc : Loc} {i : Nat} {v : V} : loc.upd i v i = some v := by rw [Loc.upd, beq_self_eq_true]; rfl
theorem store_var (nd : S.T.Nodup) (SO : ScOK sc d.env) (hk : d.env.scope.kind = .function) (hloc : d.env.locals = d.L) {s : Shared} (F : Fm S d sc loc os σ s.heap m cs) {i : Nat} {nm : Str} {v : V} {x : Value} (hn : S.T[i]? = some nm)
  (hs : sc.names.lookup nm = some .local ∨ (sc.names.lookup nm = some .cell ∧ d.env.kindOf nm = some .cell)) (hv : VR (adr os) v x) {Q : Unit → Shared → Prop} {E : Value → Shared → Prop}
  (hQ : ∀ m' cs' h' tk, Fm S d sc (loc.upd i v) os σ h' m' cs' → Q () { s with heap := h', toks := tk }) : wpAny (model S.prog S.w) d.A (storeName d.env nm x) Q E s := by
 have inj : ∀ {j : Nat} {nmj : Str}, S.T[j]? = some nmj → j ≠ i → nmj ≠ nm := fun {j nmj} hj hji q => hji ((List.getElem?_inj (List.getElem?_eq_some_iff.mp hj).1 nd).mp (by rw [hj, hn, q]))
 rcases hs with hs | ⟨hs, hkc⟩
 ·have kind := SO.loc nm hs
  have hns : s.heap.Ns d.env.locals m := by rw [hloc]; exact F.led.fr.ns
  refine wpAny_storeName_local kind hns (fun h' hn' hs' => ?_) (by rw [hk]; rfl)
  rw [hloc] at hn' hs'
  refine hQ (fun y => if y = nm then some x else m y) cs h' _ ⟨fun j w nmj h1 h2 h3 => ?_, F.cells, F.led.lset hn' hs'⟩
  by_cases hji : j = i
  ·subst hji
   rw [upd_eq] at h1; cases h1
   rw [hn] at h2; cases h2
   exact ⟨x, .inl ⟨kind, by simp⟩, hv⟩
  ·rw [upd_ne hji] at h1
   obtain ⟨y, h4, h5⟩ := F.vars j w nmj h1 h2 h3
   refine ⟨y, ?_, h5⟩
   rcases h4 with ⟨q1, q2⟩ | q
   ·exact .inl ⟨q1, by show (if nmj = nm then some x else m nmj) = some y; rw [if_neg (inj h2 hji)]; exact q2⟩
   ·exact .inr q
 ·obtain ⟨a, ha⟩ := (SO.cell nm (by unfold isCell; rw [hs])).2
  obtain ⟨p, o, v₀, hp, hcs, hd⟩ := F.cells.at ha
  have hmem : (a, o) ∈ d.kp ++ cs := List.mem_append_right _ (List.mem_of_getElem? hcs)
  refine wpAny_storeName_cell hk hkc ha ⟨o, (F.led.news (a, o) (List.mem_append_left _ hmem)).1, hd⟩ fun h' hv' hs' => ?_
  obtain ⟨o', ho', hd'⟩ := hv'
  have sp : cs = cs.take p ++ (a, o) :: cs.drop (p + 1) := split_at hcs
  have sp' : cs.set p (a, o') = cs.take p ++ (a, o') :: cs.drop (p + 1) := set_split hcs
  have l' : (d.cx m (cs.set p (a, o'))).led S os σ h' := by
   have l := F.led
   show Led S d.h₀ d.L m d.fs (d.kp ++ cs.set p (a, o')) os σ h'
   rw [sp', ← List.append_assoc]
   refine Led.kset (x := o) ?_ hs' ho'
   rw [List.append_assoc, ← sp]; exact l
  have ndc := nd_parts F.led
  have mem' : ∀ {b : Addr} {ob : Obj}, b ≠ a → (b, ob) ∈ d.kp ++ cs → (b, ob) ∈ d.kp ++ cs.set p (a, o') := by
   intro b ob hb hm
   rcases List.mem_append.mp hm with hm | hm
   ·exact List.mem_append_left _ hm
   ·refine List.mem_append_right _ ?_
    rw [sp'] ; rw [sp] at hm
    simp only [List.mem_append, List.mem_cons] at hm ⊢
    rcases hm with hm | hm | hm
    ·exact .inl hm
    ·cases hm; exact absurd rfl hb
    ·exact .inr (.inr hm)
  refine hQ m (cs.set p (a, o')) h' s.toks ⟨fun j w nmj h1 h2 h3 => ?_, ⟨?_, F.cells.nd⟩, l'⟩
  ·by_cases hji : j = i
   ·subst hji
    rw [upd_eq] at h1; cases h1
    rw [hn] at h2; cases h2
    refine ⟨x, .inr ⟨.inl hkc, a, o', ha, List.mem_append_right _ ?_, hd'⟩, hv⟩
    rw [sp']; simp
   ·rw [upd_ne hji] at h1
    obtain ⟨y, h4, h5⟩ := F.vars j w nmj h1 h2 h3
    refine ⟨y, ?_, h5⟩
    rcases h4 with q | ⟨q1, b, ob, q2, q3, q4⟩
    ·exact .inl q
    ·refine .inr ⟨q1, b, ob, q2, mem' (fun q => ?_) q3, q4⟩
     subst q
     obtain ⟨p', _, _, hp', hcs', _⟩ := F.cells.at q2
     have e1 : (adr cs)[p]? = some b := by simp [adr, hcs]
     have e2 : (adr cs)[p']? = some b := by simp [adr, hcs']
     have : p = p' := (List.getElem?_inj (List.getElem?_eq_some_iff.mp e1).1 ndc.1).mp (e1.trans e2.symm)
     subst this
     rw [hp] at hp'; cases hp'
     exact inj h2 hji rfl
  ·have := F.cells.all.set (a := (nm, a)) (b := (a, o')) ⟨rfl, some x, hd'⟩ p
   have e : d.env.cells.set p (nm, a) = d.env.cells := set_self hp
   rwa [e] at this
end
section
variable {d : Dx} {sc : Scope} {n : Nat}
noncomputable def StoreOK (sc : Scope) (env : Env) (nm : Str) : Prop := sc.names.lookup nm = some .local ∨ (sc.names.lookup nm = some .cell ∧ env.kindOf nm = some .cell)
theorem sx_asg_var (nd : S.T.Nodup) (SO : ScOK sc d.env) (hk : d.env.scope.kind = .function) (hloc : d.env.locals = d.L) {v : Expr} {nm : Str} {px pos : Pos} {i : Nat} {x : Loc → X V} (hn : S.T[i]? = some nm) (hs : StoreOK sc d.env nm)
  (hsw : swapsWith v (some (.Name nm px)) pos.line d.env = pure false) (hx : ∀ m cs ρ loc, VarsOK S (d.cx m cs) sc ρ loc → SM S (d.cx m cs) ρ VR (eval v d.env) (x loc)) :
  SX S d sc (exec (.Assign [.Name nm px] v pos) d.env) (fun loc h => onX (x loc) loc (fun v h₁ => some (.ok none, loc.upd i v, h₁)) h) := by
 intro loc m cs os σ s r loc' σ' F e Q E hQ
 refine wpAny_Assign_Name (sx_on F (hx _ _ _ _ F.vars) e (hQ.err List.prefix_rfl) fun b σ₁ e2 os₁ h₁ tk a k F₁ hr => ?_) hsw
 cases e2
 exact store_var nd SO hk hloc (s := { s with heap := h₁, toks := tk }) F₁ hn hs hr fun m' cs' h' tk' F' => hQ m' cs' os₁ h' tk' k F'
theorem assign_arm {t v : Expr} {pos : Pos} {env : Env} (hs : swapsWith v (some t) pos.line env = pure false) (hw : swappedStores [t] v env = pure none) (he : (assignEach [t] env).map (·.2) = [assign t env]) {M : Model} {A : Around} {E : Value → Shared → Prop} {s : Shared} {Q : Flow → Shared → Prop}
  (h : wpAny M A (eval v env) (fun x s₁ => wpAny M A (assign t env x) (fun _ => Q .next) E s₁) E s) : wpAny M A (exec (.Assign [t] v pos) env) Q E s := by
 refine wpAny_Assign_stores (wpAny_mono h (fun x s₁ h₁ => ?_) fun _ _ y => y) hs hw
 rw [he]; exact h₁
theorem swap_attr {v o : Expr} {nm : Str} {p : Pos} {line : Nat} {env : Env} : swapsWith v (some (.Attribute o nm p)) line env = pure false := by cases v <;> rfl
theorem swap_sub {v o i : Expr} {p : Pos} {line : Nat} {env : Env} : swapsWith v (some (.Subscript o i p)) line env = pure false := by cases v <;> rfl
theorem stores_attr {v o : Expr} {nm : Str} {p : Pos} {env : Env} : swappedStores [.Attribute o nm p] v env = pure none := by cases v <;> rfl
theorem stores_sub {v o i : Expr} {p : Pos} {env : Env} : swappedStores [.Subscript o i p] v env = pure none := by cases v <;> rfl
theorem sx_asg_attr (TV : TabOK S) (K : ∀ m cs, CtxOK S n (d.cx m cs)) {v o : Expr} {nm : Str} {px pos : Pos} {i : Nat} {x y : Loc → X V} (hn : S.T[i]? = some nm)
  (hx : ∀ m cs ρ loc, VarsOK S (d.cx m cs) sc ρ loc → SM S (d.cx m cs) ρ VR (eval v d.env) (x loc)) (hy : ∀ m cs ρ loc, VarsOK S (d.cx m cs) sc ρ loc → SM S (d.cx m cs) ρ VR (eval o d.env) (y loc)) :
  SX S d sc (exec (.Assign [.Attribute o nm px] v pos) d.env) (fun loc h => onX (x loc) loc (fun v h₁ => onX (y loc) loc (fun ov h₂ => onX (setAttr S.P ov i v) loc (fun _ h₃ => some (.ok none, loc, h₃)) h₂) h₁) h) := by
 intro loc m cs os σ s r loc' σ' F e Q E hQ
 refine assign_arm swap_attr stores_attr rfl (sx_on F (hx _ _ _ _ F.vars) e (hQ.err List.prefix_rfl) fun b σ₁ e2 os₁ h₁ tk a k F₁ hr => ?_)
 rw [arm_assign_Attribute]
 refine wpAny_bind (wpAny_holding (sx_on (s := { s with heap := h₁, toks := tk }) F₁ (hy _ _ _ _ F₁.vars) e2 (hQ.err k) fun ob σ₂ e3 os₂ h₂ tk₂ oa k₂ F₂ hr₂ => wpAny_bind (wpAny_standAt (wpAny_bind (wpAny_holding ?_)))))
 refine sx_on (s := { s with heap := h₂, toks := tk₂ }) F₂ (sm_setAttr TV (K m cs).kin hn hr₂ (hr.mono k₂)) e3 (hQ.err (k.trans k₂)) fun _ σ₃ e4 os₃ h₃ tk₃ _ k₃ F₃ _ => wpAny_release' ?_
 cases e4
 exact hQ m cs os₃ h₃ tk₃ (k.trans (k₂.trans k₃)) F₃
theorem sx_asg_sub {v o j : Expr} {px pos : Pos} {x y z : Loc → X V}
  (hx : ∀ m cs ρ loc, VarsOK S (d.cx m cs) sc ρ loc → SM S (d.cx m cs) ρ VR (eval v d.env) (x loc)) (hy : ∀ m cs ρ loc, VarsOK S (d.cx m cs) sc ρ loc → SM S (d.cx m cs) ρ VR (eval o d.env) (y loc)) (hz : ∀ m cs ρ loc, VarsOK S (d.cx m cs) sc ρ loc → SM S (d.cx m cs) ρ VR (eval j d.env) (z loc)) :
  SX S d sc (exec (.Assign [.Subscript o j px] v pos) d.env) (fun loc h => onX (x loc) loc (fun v h₁ => onX (y loc) loc (fun ov h₂ => onX (z loc) loc (fun iv h₃ => onX (setItem S.P ov iv v) loc (fun _ h₄ => some (.ok none, loc, h₄)) h₃) h₂) h₁) h) := by
 intro loc m cs os σ s r loc' σ' F e Q E hQ
 refine assign_arm swap_sub stores_sub rfl (sx_on F (hx _ _ _ _ F.vars) e (hQ.err List.prefix_rfl) fun b σ₁ e2 os₁ h₁ tk a k F₁ hr => ?_)
 rw [arm_assign_Subscript]
 refine wpAny_bind (wpAny_holding (sx_on (s := { s with heap := h₁, toks := tk }) F₁ (hy _ _ _ _ F₁.vars) e2 (hQ.err k) fun ob σ₂ e3 os₂ h₂ tk₂ oa k₂ F₂ hr₂ => wpAny_bind (wpAny_holding ?_)))
 refine sx_on (s := { s with heap := h₂, toks := tk₂ }) F₂ (hz _ _ _ _ F₂.vars) e3 (hQ.err (k.trans k₂)) fun jb σ₃ e4 os₃ h₃ tk₃ ja k₃ F₃ hr₃ => wpAny_bind (wpAny_standAt (wpAny_bind (wpAny_holding ?_)))
 refine sx_on (s := { s with heap := h₃, toks := tk₃ }) F₃ (sm_setItem (hr₂.mono k₃) hr₃ (hr.mono (k₂.trans k₃))) e4 (hQ.err (k.trans (k₂.trans k₃))) fun _ σ₄ e5 os₄ h₄ tk₄ _ k₄ F₄ _ => wpAny_release' ?_
 cases e5
 exact hQ m cs os₄ h₄ tk₄ (k.trans (k₂.trans (k₃.trans k₄))) F₄
theorem forL_inv {v : V} {i : Nat} {y : Loc → H → Option (R (Option V) × Loc × H)} {σ σ₁ σ' : H} {yv : V} {ys : List V} {l l' : Loc} {r : R (Option V)} (h : forL v [i] false y σ (yv :: ys) l σ₁ = some (r, l', σ')) :
  AfI (y (l.upd i yv) σ₁) (fun l₂ h₂ => if still v σ h₂ then forL v [i] false y σ ys l₂ h₂ else none) r l' σ' := after_inv h
theorem if_inv {α : Type} {b : Bool} {x : Option α} {a : α} (h : (if b = true then x else none) = some a) : b = true ∧ x = some a := by
 cases b with
 | true => exact ⟨rfl, h⟩
 | false => cases h
theorem for_gen {M : Program} {w : World} {A : Around} {target : Expr} {it : Value} {body : List Stmt} {env : Env} {R : Result → Shared → Prop} {s : Shared} (I : Nat → Shared → Prop)
  (turn : ∀ n s, I n s → ∀ (P : Option Value → Shared → Prop) (E' : Value → Shared → Prop), (∀ s₁, R (.ok .next) s₁ → P none s₁) →
   (∀ v s₁, (∀ B : Unit → Shared → Prop, (∀ s₂, (∀ G : Flow → Shared → Prop, (∀ m s₃, m < n → I m s₃ → G .next s₃) → (∀ a s₃, R (.ok (.ret a)) s₃ → G (.ret a) s₃) → wpAny (model M w) A (execs body env) G E' s₂) → B () s₂) →
    wpAny (model M w) A (letOwnedTupleGo target it v) (fun _ s' => wpAny (model M w) A (assign target env v) B E' s') E' s₁) → P (some v) s₁) →
   wpAny (model M w) A (pyNext it) P E' s) (n : Nat) (h : I n s) : codeAny (model M w) A (.forLoop target it body [] env) R s :=
 codeAny_forLoop_any I (fun n s hI => turn n s hI _ _ (fun s₁ h₁ => wpAny_execs_nil h₁) fun v s₁ h₁ => h₁ _ fun s₂ h₂ => h₂ _ (fun m s₃ hm h₃ => ⟨m, hm, h₃⟩) fun a s₃ h₃ => h₃) n h
inductive FoI (S : Sig) (d : Dx) (sc : Scope) (I : Addr) (v : V) (σ₁ : H) (vs : List V) (f : List V → Loc → H → Prop) (os₁ : List (Addr × Obj)) (s : Shared) (kk : Nat) (s' : Shared) : Prop
 | mk (h' : Heap) (tk' : Nat) (os' : List (Addr × Obj)) (σ' : H) (m' : Str → Option Value) (cs' : List (Addr × Obj)) (l' : Loc) (o : Obj) (j : Nat) (e1 : s' = { s with heap := h', toks := tk' }) (kp : adr os₁ <+: adr os') (V' : VarsOK S (d.cx m' cs') sc (adr os') l') (C' : CellsOK d.env cs')
   (L : Led S d.h₀ d.L m' d.fs (d.kp ++ (I, o) :: cs') os' σ' h') (it : ItAt h' I (adr os') v σ' j) (st : still v σ₁ σ' = true) (hL : f (vs.drop j) l' σ') (hj : j ≤ vs.length) (hk : kk = vs.length + 1 - j) : FoI S d sc I v σ₁ vs f os₁ s kk s'
theorem sx_for (nd : S.T.Nodup) (SO : ScOK sc d.env) (hk : d.env.scope.kind = .function) (hloc : d.env.locals = d.L) (hh : d.A.handled = none) {it : Expr} {nm : Str} {px pos : Pos} {b : List Stmt} {i : Nat} {x : Loc → X V} {y : XS} (hn : S.T[i]? = some nm) (hs : StoreOK sc d.env nm) (hset : isSet it = false)
  (hx : ∀ m cs ρ loc, VarsOK S (d.cx m cs) sc ρ loc → SM S (d.cx m cs) ρ VR (eval it d.env) (x loc)) (hy : ∀ kp', SX S { d with kp := kp' } sc (execs b d.env) y) :
  SX S d sc (exec (.For (.Name nm px) it b [] pos) d.env) (fun loc h => onX (x loc) loc (fun v h₁ => match iterOf v h₁ with | none => none | some vs => forL v [i] false y h₁ vs loc h₁) h) := by
 intro loc m cs os σ s r loc' σE F e Q E hQ
 refine wpAny_For (sx_on F (hx _ _ _ _ F.vars) e (hQ.err List.prefix_rfl) fun v σ₁ e2 os₁ h₁ tk xv k F₁ hv => ?_) (not_set hset d.env)
 cases hi : iterOf v σ₁ with
 | none => rw [hi] at e2; cases e2
 | some vs =>
  rw [hi] at e2
  dsimp only at e2
  refine it_new (s := { s with heap := h₁, toks := tk }) F₁.led List.prefix_rfl hv hi fun I o₀ h₂ l₂ it₂ => ?_
  have l₂' : Led S d.h₀ d.L m d.fs (d.kp ++ (I, o₀) :: cs) os₁ σ₁ h₂ := l₂.kperm (by simpa using (List.perm_append_comm (l₁ := cs) (l₂ := [(I, o₀)])).append_left d.kp)
  refine for_gen (FoI S d sc I v σ₁ vs (fun ws l σ' => forL v [i] false y σ₁ ws l σ' = some (r, loc', σE)) os₁ s) ?_ (vs.length + 1)
   ⟨h₂, tk, os₁, σ₁, m, cs, loc, o₀, 0, rfl, List.prefix_rfl, F₁.vars, F₁.cells, l₂', it₂, still_refl v σ₁, by simpa using e2, Nat.zero_le _, rfl⟩
  rintro kk s' ⟨h', tk', os', σ', m', cs', l', o, j, rfl, k', V', C', L', it', st, hL', hj, rfl⟩ P E' hP hB
  have hi' : iterOf v σ' = some vs := (still_iter st).trans hi
  cases hvj : vs[j]? with
  | none =>
   have hjv : vs.length ≤ j := List.getElem?_eq_none_iff.mp hvj
   rw [List.drop_eq_nil_of_le hjv] at hL'
   cases hL'
   exact it_done (s := { s with heap := h', toks := tk' }) hh L' it' hi' hvj fun h₄ l₄ => hP _ (hQ m' cs' os' h₄ tk' (k.trans k') ⟨V', C', l₄⟩)
  | some yv =>
   obtain ⟨hjl, hjy⟩ := List.getElem?_eq_some_iff.mp hvj
   rw [List.drop_eq_getElem_cons hjl, hjy] at hL'
   obtain ⟨ov, l₆, σ₆, hq, hN, hW⟩ := forL_inv hL'
   refine it_next (s := { s with heap := h', toks := tk' }) L' it' hi' hvj fun o' h₄ tk₄ xw l₄ it₄ hxw => hB _ _ fun B hB => ?_
   have l₄' : ({ d with kp := d.kp ++ (I, o') :: [] }.cx m' cs').led S os' σ' h₄ := by
    show Led S d.h₀ d.L m' d.fs ((d.kp ++ (I, o') :: []) ++ cs') os' σ' h₄
    simpa using l₄
   refine wpAny_of_eq (show letOwnedTupleGo (.Name nm px) (.ref I) xw = pure () from rfl) (wpAny_assign_Name (store_var (d := { d with kp := d.kp ++ (I, o') :: [] }) nd SO hk hloc (s := { s with heap := h₄, toks := tk₄ }) ⟨vars_up V', C', l₄'⟩ hn hs hxw fun m₅ cs₅ h₅ tk₅ F₅ => hB _ fun G hG hR => ?_))
   have memI : ∀ {hh : Heap} {oo : List (Addr × Obj)} {ss : H} {mm : Str → Option Value} {cc : List (Addr × Obj)}, ({ d with kp := d.kp ++ (I, o') :: [] }.cx mm cc).led S oo ss hh → hh.get? I = some o' := fun l => (l.news (I, o') (by simp)).1
   refine hy (d.kp ++ (I, o') :: []) (l'.upd i yv) m₅ cs₅ os' σ' { s with heap := h₅, toks := tk₅ } _ l₆ σ₆ F₅ hq _ _ fun m₆ cs₆ os₆ h₆ tk₆ k₆ F₆ => ?_
   have L₆ : Led S d.h₀ d.L m₆ d.fs (d.kp ++ (I, o') :: cs₆) os₆ σ₆ h₆ := by
    have this : Led S d.h₀ d.L m₆ d.fs ((d.kp ++ (I, o') :: []) ++ cs₆) os₆ σ₆ h₆ := F₆.led
    simpa using this
   have V₆ : VarsOK S (d.cx m₆ cs₆) sc (adr os₆) l₆ := vars_kp (d := { d with kp := d.kp ++ (I, o') :: [] }) (kp' := d.kp) F₆
   cases ov with
   | none =>
    obtain ⟨hst, hL'⟩ := if_inv (hN rfl)
    refine hG (vs.length + 1 - (j + 1)) _ (Nat.sub_succ_lt_self _ _ (Nat.lt_succ_of_le hj)) ⟨h₆, tk₆, os₆, σ₆, m₆, cs₆, l₆, o', j + 1, rfl, k'.trans k₆, V₆, F₆.cells, L₆, it₄.at (fun ob q => ?_) k₆ (still_trans (still_sym st) hst), hst, hL', hjl, rfl⟩
    rw [memI l₄'] at q; cases q; exact memI F₆.led
   | some w =>
    obtain ⟨rfl, rfl, rfl⟩ := hW w rfl
    exact fun a ha => hR a _ (hQ m₆ cs₆ os₆ h₆ tk₆ (k.trans (k'.trans k₆)) ⟨V₆, F₆.cells, L₆.kdrop⟩ a ha)
end
end Mine.Internal
set_option autoImplicit false
namespace Mine.Internal
open PySem PySem.W PySem.Calls PyProof.Rows
variable {S : Sig}
theorem excMatches_ref {M : Model} {A : Around} {E : Value → Shared → Prop} {nm q nm' q' : Str} {C N D N' : Addr} {bs bm bs' bm' : List Value} {hdct hdct' : Bool} {sn sn' : List Str} {sub sub' : List Value} {ab ab' : Bool} {col col' : Option Bool} {dd dd' : Option Addr} {k0 k1 k2 k3 k5 k0' k1' k2' k3' k5' : Option Value} {newId newId' : String}
  {h : Heap} {g : Array GenState} {d : Drawn} {t : Nat} {os : OsState} {e : Addr} {oe : Obj} {Q : Bool → Shared → Prop}
  (hC : h.get? C = some (excClassObj nm q C N bs bm hdct sn sub ab col dd k0 k1 k2 k3 k5 newId)) (hD : h.get? D = some (excClassObj nm' q' D N' bs' bm' hdct' sn' sub' ab' col' dd' k0' k1' k2' k3' k5' newId')) (he : h.get? e = some oe) (hcls : oe.cls = .ref C) (hbase : bm'.contains (.type "BaseException") = true)
  (hq : Q ((Value.ref C :: bm).contains (.ref D)) ⟨h, g, d, t, os⟩) : wpAny M A (excMatches (.ref e) (.ref D)) Q E ⟨h, g, d, t, os⟩ := by
 have hcB : (Value.ref D :: bm').contains (.type "BaseException") = true := by rw [List.contains_cons, hbase, Bool.or_true]
 have f := tc_notTuple
 unfold excMatches
 repeat (first | (with_reducible refine wpAny_loadPart_at he ?_; rw [hcls]) | with_reducible refine wpAny_loadPart_at hD ?_ | (with_reducible refine wpAny_isSubtype_exc hD ?_; rw [hcB]) | with_reducible refine wpAny_isSubtype_exc hC ?_ | wp_step)
 cases hb : (Value.ref C :: bm).contains (.ref D) <;> (rw [hb] at hq; wp_walk; exact hq)
section
variable {d : Dx} {sc : Scope} {n : Nat} {c : Nat} {C : Addr} {nm : Str}
theorem sx_rais (OK : SigOK S) (K : ∀ m cs, CtxOK S n (d.cx m cs)) (SO : ScOK sc d.env) (hC : S.ex c = some C) (hn : S.T[c]? = some nm) (hg : isGlob sc nm = true) {st : Str} (hs : okS st = true) {kd : Nat} {q cp p pos : Pos} :
  SX S d sc (exec (.Raise (some (.Call (.Name nm q) [.Constant (.str st) kd cp] [] p)) none pos) d.env) (fun loc h => some (.err c, loc, h)) := by
 intro loc m cs os σ s r loc' σ' F e Q E hQ
 cases e
 obtain ⟨nm', h1, h2, h3⟩ := OK.exs c C hC
 rw [hn] at h1; cases h1
 obtain ⟨N, nm', qn, bs, hdct, sn, sub, ab, col, dd, k0, k1, k2, k3, k5, mN, hC', hN, hni, T⟩ := h3 _ (K m cs).kin
 have hg' := Bool.and_eq_true_iff.mp hg
 refine wpAny_Raise_call_subT (C := C) (nm := nm') (q := qn) (N := N) (bs := bs) (bm := bmOf S C) (hdct := hdct) (sn := sn) (sub := sub) (ab := ab) (col := col) (dd := dd) (k0 := k0) (k1 := k1) (k2 := k2) (k3 := k3) (k5 := k5) PySem.F.excBase_ValueError (mN := mN) (T.hasType PySem.F.excBase_ValueError.hasBase) (K m cs).hand rfl hni ?_
 refine sm_top (c := d.cx m cs) (ρ := adr os) (x := V.none) (RV := fun _ _ v => v = .ref C) (K m cs).toCtx0 (SO.glob _ (of_decide_eq_true hg'.1)) (by simpa using hg'.2) h2 (fun _ => rfl) os σ s _ _ List.prefix_rfl F.led rfl _ _ fun os₁ h₁ tk₁ f k₁ l₁ hf => ?_
 refine ⟨hf, ?_⟩
 refine Calls.evalArgs_plain (Calls.spliced_cons (sm_const_str (c := d.cx m cs) (ρ := adr os₁) (k := kd) (p := cp) hs os₁ σ { s with heap := h₁, toks := tk₁ } _ _ List.prefix_rfl l₁ rfl _ _ fun os₂ h₂ tk₂ v k₂ l₂ _ => Calls.spliced_nil ?_))
 exact ⟨rfl, Nat.le_of_ble_eq_true rfl, l₂.fr.keep _ _ hC', hN.keeps l₂.fr.keep, T.keeps l₂.fr.keep, fun h' e hx => hQ m cs os₂ h' tk₂ (k₁.trans k₂) (F.step (k₁.trans k₂) (l₂.keep hx.keeps)) _ (fly_made (K m cs) l₂ hC hx)⟩
end
end Mine.Internal
set_option autoImplicit false
namespace Mine.Internal
open PySem PySem.W PySem.Calls PyProof.Rows
variable {S : Sig} {c : Cx} {ρ : List Addr}
theorem ints_at : ∀ {xs : List V} {j : Nat} {y : V}, (intsOf xs).isSome = true → xs[j]? = some y → ∃ i, y = .int i
 | [], _, _, _, h => by simp at h
 | .int i :: xs, 0, y, _, h => by simp at h; exact ⟨i, h.symm⟩
 | .int i :: xs, j + 1, y, hs, h => by
  refine ints_at (xs := xs) (j := j) ?_ (by simpa using h)
  have : ((intsOf xs).map (i :: ·)).isSome = true := hs
  simpa using this
 | .none :: _, _, _, hs, _ => by cases hs
 | .bool _ :: _, _, _, hs, _ => by cases hs
 | .str _ :: _, _, _, hs, _ => by cases hs
 | .ref _ :: _, _, _, hs, _ => by cases hs
section
variable {h₀ h h' : Heap} {L : Addr} {m : Str → Option Value} {fs : Fs} {kp os : List (Addr × Obj)} {σ : H}
theorem Led.lock (l : Led S h₀ L m fs kp os σ h) {a : Nat} {es : List (V × V)} {A : Addr} {x : Obj} (hk : σ.get a = some (.dict es)) (e : os[a]? = some (A, x)) (hx : DictR S.prog S.w (adr os) es x) : Led (S.at ((a, A, x) :: S.lk)) h₀ L m fs kp os (σ.put a (.lck es)) h := by
 have ob : All2 (fun o p => OR S (adr os) o p.2) (σ.set a (.lck es)) (os.set a (A, x)) := l.objs.set (show OR S (adr os) (.lck es) x from hx) a
 have es : os.set a (A, x) = os := set_self e
 rw [es] at ob
 refine ⟨l.fr, l.news, l.nd, ob, l.outs, l.top, l.big, l.frz, fun p hp => ?_⟩
 have ha := (List.getElem?_eq_some_iff.mp hk).1
 rcases List.mem_cons.mp hp with rfl | hp
 ·exact ⟨e, by show isLk ((σ.set a _)[a]?) = true; rw [List.getElem?_set_self ha]; rfl⟩
 ·obtain ⟨h1, h2⟩ := l.lkd p hp
  have hne : a ≠ p.1 := fun q => by rw [← q, hk] at h2; cases h2
  exact ⟨h1, by show isLk ((σ.set a _)[p.1]?) = true; rw [List.getElem?_set_ne hne]; exact h2⟩
theorem Led.unlock {a : Nat} {es : List (V × V)} {A : Addr} {x : Obj} (l : Led (S.at ((a, A, x) :: S.lk)) h₀ L m fs kp os σ h) (hn : ∀ p ∈ S.lk, p.1 ≠ a) (hk : σ.get a = some (.lck es)) : Led S h₀ L m fs kp os (σ.put a (.dict es)) h := by
 obtain ⟨e, _⟩ := l.lkd (a, A, x) (.head _)
 obtain ⟨p, hp, hr⟩ := l.objs.get hk
 have hp : os[a]? = some p := hp
 rw [e] at hp; cases hp
 have ob : All2 (fun o p => OR S (adr os) o p.2) (σ.set a (.dict es)) (os.set a (A, x)) := All2.set (R := fun (o : O) (p : Addr × Obj) => OR S (adr os) o p.2) l.objs (show OR S (adr os) (.dict es) x from hr) a
 have es' : os.set a (A, x) = os := set_self e
 rw [es'] at ob
 refine ⟨l.fr, l.news, l.nd, ob, l.outs, l.top, l.big, l.frz, fun p hp => ?_⟩
 obtain ⟨h1, h2⟩ := l.lkd p (.tail _ hp)
 exact ⟨h1, by show isLk ((σ.set a _)[p.1]?) = true; rw [List.getElem?_set_ne (Ne.symm (hn p hp))]; exact h2⟩
end
theorem unlk_inv {a : Nat} {es : List (V × V)} {z : Option (R (Option V) × Loc × H)} {r : R (Option V)} {l' : Loc} {σ' : H} (h : unlk a es z = some (r, l', σ')) : ∃ σ₂, z = some (.ok none, l', σ₂) ∧ r = .ok none ∧ σ₂.get a = some (.lck es) ∧ σ' = σ₂.put a (.dict es) := by
 unfold unlk at h
 split at h
 ·split at h
  ·rename_i q; cases h; exact ⟨_, rfl, rfl, q, rfl⟩
  ·cases h
 ·cases h
inductive ForDI (P : Prog) (v : V) (i : Nat) (b : Loc → H → Option (R (Option V) × Loc × H)) (loc : Loc) (σ : H) (r : R (Option V)) (l' : Loc) (σ' : H) : Prop
 | mk (a : Nat) (es : List (V × V)) (σ₂ : H) (hv : v = .ref a) (hk : σ.get a = some (.dict es)) (hi : (intsOf (es.map (·.1))).isSome = true) (e : forL (.ref a) [i] false b (σ.put a (.lck es)) (es.map (·.1)) loc (σ.put a (.lck es)) = some (.ok none, l', σ₂)) (hr : r = .ok none) (g : σ₂.get a = some (.lck es)) (hσ : σ' = σ₂.put a (.dict es)) : ForDI P v i b loc σ r l' σ'
theorem forD_inv {P : Prog} {v : V} {i : Nat} {b : Loc → H → Option (R (Option V) × Loc × H)} {loc l' : Loc} {σ σ' : H} {r : R (Option V)} (h : forD P v i b loc σ = some (r, l', σ')) : ForDI P v i b loc σ r l' σ' := by
 unfold forD at h
 cases v with
 | ref a =>
  dsimp only at h
  cases hk : σ.getM P a with
  | none => rw [hk] at h; cases h
  | some o =>
   rw [hk] at h
   cases o with
   | dict es =>
    dsimp only at h
    split at h
    ·rename_i hi
     obtain ⟨σ₂, e, rfl, g, rfl⟩ := unlk_inv h
     exact .mk a es σ₂ rfl (getM_inv hk).1 hi e rfl g rfl
    ·cases h
   | _ => cases h
 | _ => cases h
section
variable {d : Dx} {sc : Scope}
inductive DoI (S : Sig) (S' : Sig) (d : Dx) (sc : Scope) (I A : Addr) (a n ep : Nat) (σ₁ : H) (vs : List V) (f : List V → Loc → H → Prop) (os₁ : List (Addr × Obj)) (s : Shared) (kk : Nat) (s' : Shared) : Prop
 | mk (h' : Heap) (tk' : Nat) (os' : List (Addr × Obj)) (σ' : H) (m' : Str → Option Value) (cs' : List (Addr × Obj)) (l' : Loc) (o : Obj) (j : Nat) (e1 : s' = { s with heap := h', toks := tk' }) (kp : adr os₁ <+: adr os') (V' : VarsOK S (d.cx m' cs') sc (adr os') l') (C' : CellsOK d.env cs')
   (L : Led S' d.h₀ d.L m' d.fs (d.kp ++ (I, o) :: cs') os' σ' h') (it : h'.IsKeyIter I A j n ep) (st : still (.ref a) σ₁ σ' = true) (hL : f (vs.drop j) l' σ') (hj : j ≤ vs.length) (hk : kk = vs.length + 1 - j) : DoI S S' d sc I A a n ep σ₁ vs f os₁ s kk s'
theorem sx_ford (nd : S.T.Nodup) (SO : ScOK sc d.env) (hk : d.env.scope.kind = .function) (hloc : d.env.locals = d.L) (hh : d.A.handled = none) {it : Expr} {nm : Str} {px pos : Pos} {b : List Stmt} {i : Nat} {x : Loc → X V} {y : XS} (hn : S.T[i]? = some nm) (hs : StoreOK sc d.env nm) (hset : isSet it = false)
  (hx : ∀ m cs ρ loc, VarsOK S (d.cx m cs) sc ρ loc → SM S (d.cx m cs) ρ VR (eval it d.env) (x loc)) (hy : ∀ lk kp', SX (S.at lk) { d with kp := kp' } sc (execs b d.env) y) :
  SX S d sc (exec (.For (.Name nm px) it b [] pos) d.env) (fun loc h => onX (x loc) loc (fun v h₁ => forD S.P v i y loc h₁) h) := by
 intro loc m cs os σ s r loc' σE F e Q E hQ
 refine wpAny_For (sx_on F (hx _ _ _ _ F.vars) e (hQ.err List.prefix_rfl) fun v σ₁ e2 os₁ h₁ tk xv k F₁ hv => ?_) (not_set hset d.env)
 obtain ⟨a, es, σ₂, rfl, hka, hint, e3, rfl, g2, rfl⟩ := forD_inv e2
 clear e2
 obtain ⟨A, oA, rfl, eA, _, hor, hA, _, _, hb⟩ := F₁.led.ref List.prefix_rfl hka hv
 have hor' := hor
 obtain ⟨es', ep, kvs, rfl, k1, k2, k3, k4, hz⟩ := hor
 have hd : ∀ {h : Heap}, h.get? A = some (dictOf es' ep) → h.DictAt (vKind S.prog S.w) A kvs ep := fun g => ⟨_, _, g, ⟨rfl, rfl, rfl⟩, rfl, k1, k2, k3⟩
 have hnl : ∀ p ∈ S.lk, p.1 ≠ a := fun p hp q => by have := (F₁.led.lkd p hp).2; rw [q, hka] at this; cases this
 have hlen := k4.length
 refine wpAny_pyIter_dict (s := { s with heap := h₁, toks := tk }) hb (hd hA) ?_
 have l₂ := F₁.led.kpush (x := { cls := .type "dict_keyiterator", data := .fields #[.ref A, .int 0 0, .int kvs.length 0, .int ep 0] }) rfl
 have it₂ : (h₁.push { cls := .type "dict_keyiterator", data := .fields #[.ref A, .int 0 0, .int kvs.length 0, .int ep 0] }).IsKeyIter h₁.objs.size A 0 kvs.length ep := ⟨_, Heap.get?_push_size _ rfl, rfl, rfl⟩
 generalize h₁.push { cls := .type "dict_keyiterator", data := .fields #[.ref A, .int 0 0, .int kvs.length 0, .int ep 0] } = h₂ at *
 generalize h₁.objs.size = I at *
 generalize ({ cls := .type "dict_keyiterator", data := .fields #[.ref A, .int 0 0, .int kvs.length 0, .int ep 0] } : Obj) = o₀ at *
 have l₂' : Led S d.h₀ d.L m d.fs (d.kp ++ (I, o₀) :: cs) os₁ σ₁ h₂ := l₂.kperm (by simpa using (List.perm_append_comm (l₁ := cs) (l₂ := [(I, o₀)])).append_left d.kp)
 have l₃ := l₂'.lock hka eA hor'
 refine for_gen (DoI S (S.at ((a, A, dictOf es' ep) :: S.lk)) d sc I A a kvs.length ep (σ₁.put a (.lck es)) (es.map (·.1)) (fun ws l σ' => forL (.ref a) [i] false y (σ₁.put a (.lck es)) ws l σ' = some (.ok none, loc', σ₂)) os₁ s) ?_ ((es.map (·.1)).length + 1)
  ⟨h₂, tk, os₁, _, m, cs, loc, o₀, 0, rfl, List.prefix_rfl, F₁.vars, F₁.cells, l₃, it₂, still_refl _ _, by simpa using e3, Nat.zero_le _, rfl⟩
 rintro kk s' ⟨h', tk', os', σ', m', cs', l', o, j, rfl, k', V', C', L', it', st, hL', hj, rfl⟩ P E' hP hB
 have gA : h'.get? A = some (dictOf es' ep) := (L'.news _ (List.mem_append_right _ (List.mem_of_getElem? (L'.lkd (a, A, dictOf es' ep) (.head _)).1))).1
 cases hvj : (es.map (·.1))[j]? with
 | none =>
  have hjv : (es.map (·.1)).length ≤ j := List.getElem?_eq_none_iff.mp hvj
  rw [List.drop_eq_nil_of_le hjv] at hL'
  cases hL'
  refine wpAny_pyNext_dict_end (s := { s with heap := h', toks := tk' }) hh it' (hd gA) (List.getElem?_eq_none_iff.mpr (by rw [List.length_map] at hjv; lia)) fun h₄ hs₄ => ?_
  exact hP _ (hQ m' cs' os' h₄ tk' (k.trans k') ⟨V', C', (Led.extBut L' hs₄).unlock hnl g2⟩)
 | some yv =>
  obtain ⟨hjl, hjy⟩ := List.getElem?_eq_some_iff.mp hvj
  rw [List.drop_eq_getElem_cons hjl, hjy] at hL'
  obtain ⟨ov, l₆, σ₆, hq, hN, hW⟩ := forL_inv hL'
  obtain ⟨n0, rfl⟩ := ints_at hint hvj
  rw [List.getElem?_map] at hvj
  obtain ⟨pe, hpe, hp1⟩ := Option.map_eq_some_iff.mp hvj
  obtain ⟨pk, hpk, hpr⟩ := k4.get hpe
  have hpk : kvs[j]? = some (.int n0, pk.2) := by rw [hpk, ← hp1, hpr.1]
  refine wpAny_pyNext_dict_item (s := { s with heap := h', toks := tk' }) it' (hd gA) hpk fun key h₄ hkey it₄ hs₄ => hB _ _ fun B hB => ?_
  have hxw : VR (adr os') (.int n0) key := keyIs_int hkey
  obtain ⟨o', g1, _⟩ := id it₄
  have l₄ := Led.kset L' hs₄ g1
  have l₄' : ({ d with kp := d.kp ++ (I, o') :: [] }.cx m' cs').led (S.at ((a, A, dictOf es' ep) :: S.lk)) os' σ' h₄ := by
   show Led _ d.h₀ d.L m' d.fs ((d.kp ++ (I, o') :: []) ++ cs') os' σ' h₄
   simpa using l₄
  refine wpAny_of_eq (show letOwnedTupleGo (.Name nm px) (.ref I) key = pure () from rfl) (wpAny_assign_Name (store_var (S := S.at ((a, A, dictOf es' ep) :: S.lk)) (d := { d with kp := d.kp ++ (I, o') :: [] }) nd SO hk hloc (s := { s with heap := h₄, toks := tk' }) ⟨vars_up V', C', l₄'⟩ hn hs hxw fun m₅ cs₅ h₅ tk₅ F₅ => hB _ fun G hG hR => ?_))
  refine hy ((a, A, dictOf es' ep) :: S.lk) (d.kp ++ (I, o') :: []) (l'.upd i (.int n0)) m₅ cs₅ os' σ' { s with heap := h₅, toks := tk₅ } _ l₆ σ₆ F₅ hq _ _ fun m₆ cs₆ os₆ h₆ tk₆ k₆ F₆ => ?_
  have L₆ : Led (S.at ((a, A, dictOf es' ep) :: S.lk)) d.h₀ d.L m₆ d.fs (d.kp ++ (I, o') :: cs₆) os₆ σ₆ h₆ := by
   have this : Led (S.at ((a, A, dictOf es' ep) :: S.lk)) d.h₀ d.L m₆ d.fs ((d.kp ++ (I, o') :: []) ++ cs₆) os₆ σ₆ h₆ := F₆.led
   simpa using this
  have V₆ : VarsOK S (d.cx m₆ cs₆) sc (adr os₆) l₆ := vars_kp (S := S.at ((a, A, dictOf es' ep) :: S.lk)) (d := { d with kp := d.kp ++ (I, o') :: [] }) (kp' := d.kp) F₆
  cases ov with
  | none =>
   obtain ⟨hst, hL'⟩ := if_inv (hN rfl)
   refine hG ((es.map (·.1)).length + 1 - (j + 1)) _ (Nat.sub_succ_lt_self _ _ (Nat.lt_succ_of_le hj)) ⟨h₆, tk₆, os₆, σ₆, m₆, cs₆, l₆, o', j + 1, rfl, k'.trans k₆, V₆, F₆.cells, L₆, ?_, hst, hL', hjl, rfl⟩
   obtain ⟨ob, q, hc⟩ := it₄
   rw [g1] at q; cases q
   exact ⟨o', (L₆.news (I, o') (by simp)).1, hc⟩
  | some w =>
   obtain ⟨hr, _, _⟩ := hW w rfl
   cases hr
end
end Mine.Internal
set_option autoImplicit false
namespace Mine.Internal
open PySem PySem.W PySem.Calls PyProof.Rows
variable {S : Sig}
theorem Led.leaveK {h₀ h : Heap} {L C : Addr} {m mC : Str → Option Value} {fs : Fs} {kp os : List (Addr × Obj)} {σ : H} (l : Led S h₀ C mC ((L, m) :: fs) kp os σ h) (ab : h₀.objs.size ≤ L) (ne : ∀ f ∈ fs, f.1 ≠ L) :
  ∃ oC, NsObj oC mC ∧ Led S h₀ L m fs (kp ++ (C, oC) :: []) os σ h := by
 obtain ⟨oC, hC, hN⟩ := ns_obj l.fr.ns
 have l' := l.leave ab ne (h' := h) fun b o _ e => e
 refine ⟨oC, hN, l'.kadd hC (Ne.symm (l.outs _ (.head _)).2.1) (none_above l.fr) (fun hm => ?_) (fun f hf => (l.outs f (.tail _ hf)).2.1) ?_⟩
 ·obtain ⟨p, hp, e⟩ := List.mem_map.mp hm
  exact (l.news p hp).2.1 e
 ·obtain ⟨o, ho⟩ := l.top
  exact Nat.lt_of_lt_of_le (Heap.lt_size ho) l.fr.above
section
variable {d : Dx} {sc sc' : Scope} {n : Nat}
theorem sx_asg_used (nd : S.T.Nodup) (SO : ScOK sc d.env) (K : ∀ m cs, CtxOK S n (d.cx m cs)) {nm : Str} {px pos pos' : Pos} {i : Nat} {tg : List Nat} {tup : Bool} {tgt : Expr} {ite elt : Expr} {ifs : List Expr} (hn : S.T[i]? = some nm) (hs : StoreOK sc d.env nm)
  (hsw : swapsWith (.ListComp elt [⟨tgt, ite, ifs, 0⟩] sc' pos') (some (.Name nm px)) pos.line d.env = pure true)
  (hn' : ckTg S.nam tg tup tgt = true) (hsc : compScope S.nam sc sc' (tgNms tup tgt) = true) (hset : isSet ite = false) {xi : Loc → X V} {t : Loc → X Bool} {e : Loc → X V}
  (hit : ∀ m cs ρ loc, VarsOK S (d.cx m cs) sc ρ loc → SM S (d.cx m cs) ρ VR (eval ite d.env) (xi loc))
  (ht : ∀ (c' : Cx) (ρ' : List Addr) (loc' : Loc), CtxOK S n c' → ScOK sc' c'.env → VarsOK S c' sc' ρ' loc' → SM S c' ρ' EqR (condTree ifs c'.env) (t loc'))
  (he : ∀ (c' : Cx) (ρ' : List Addr) (loc' : Loc), CtxOK S n c' → ScOK sc' c'.env → VarsOK S c' sc' ρ' loc' → SM S c' ρ' VR (eval elt c'.env) (e loc')) :
  SX S d sc (exec (.Assign [.Name nm px] (.ListComp elt [⟨tgt, ite, ifs, 0⟩] sc' pos') pos) d.env)
   (fun loc h => onX (X.bind (xi loc) fun v => fun h => match iterOf v h with | none => none | some vs => X.bind (compL v tg tup t e loc h vs) (fun ws => alloc (.list ws)) h) loc (fun v h₁ => some (.ok none, loc.upd i v, h₁)) h) := by
 intro loc m cs os σ s r loc' σ' F ee Q E hQ
 rw [exec_Assign_Name_used _ _ _ _ hsw]
 refine wpAny_bind (wpAny_standAt (wpAny_bind ?_))
 show wpAny _ d.A (do let _ ← comprehension (.ListComp elt [⟨tgt, ite, ifs, 0⟩] sc' pos') sc' d.env _ (newList []) false (eval ite d.env) (some (assign (.Name nm px) d.env))) _ _ s
 have fin : ∀ (rr : R V), X.bind (xi loc) (fun v => fun h => match iterOf v h with | none => none | some vs => X.bind (compL v tg tup t e loc h vs) (fun ws => alloc (.list ws)) h) σ = some (rr, σ') → (∀ b, rr = .ok b → r = .ok none ∧ loc' = loc.upd i b) → (∀ k, rr = .err k → r = .err k ∧ loc' = loc) →
   wpAny (model S.prog S.w) d.A (comprehension (.ListComp elt [⟨tgt, ite, ifs, 0⟩] sc' pos') sc' d.env (firstIterPos [⟨tgt, ite, ifs, 0⟩] pos') (newList []) false (eval ite d.env) (some (assign (.Name nm px) d.env))) (fun _ s' => Q .next s') E s := by
  intro rr hx hrr hre
  refine comp_run (c := d.cx m cs) (K m cs) SO F.vars nd hn' hsc hset (hit _ _ _ _ F.vars) ht he List.prefix_rfl F.led hx (use := some (assign (.Name nm px) d.env)) (Q := fun _ s' => Q .next s') (fun b hb os₁ h₁ tk₁ C mC D k₁ l₁ hD => ?_) fun k hk os₁ h₁ tk₁ e k₁ l₁ f => ?_
  rotate_left
  ·obtain ⟨rfl, rfl⟩ := hre k hk
   exact hQ m cs os₁ h₁ tk₁ k₁ (F.step k₁ l₁) e f
  obtain ⟨rfl, rfl⟩ := hrr b hb
  obtain ⟨oC, hN, l₂⟩ := l₁.leaveK F.led.fr.above fun f hf => (F.led.outs f hf).2.1
  have l₃ : ({ d with kp := d.kp ++ (C, oC) :: [] }.cx m cs).led S os₁ σ' h₁ := by
   show Led S d.h₀ d.L m d.fs ((d.kp ++ (C, oC) :: []) ++ cs) os₁ σ' h₁
   refine l₂.kperm ?_
   have := (List.perm_append_comm (l₁ := cs) (l₂ := [(C, oC)])).append_left d.kp
   simpa using this
  have V₃ : VarsOK S ({ d with kp := d.kp ++ (C, oC) :: [] }.cx m cs) sc (adr os₁) loc := by
   have := vars_kp (kp' := d.kp ++ (C, oC) :: []) F
   exact this.mono k₁
  show wpAny _ d.A (assign (.Name nm px) d.env (.ref D)) _ _ _
  refine wpAny_assign_Name (store_var (d := { d with kp := d.kp ++ (C, oC) :: [] }) nd SO (K m cs).kind (K m cs).locs (s := { s with heap := h₁, toks := tk₁ }) ⟨V₃, F.cells, l₃⟩ hn hs hD fun m₅ cs₅ h₅ tk₅ F₅ => ?_)
  have L₅ : Led S d.h₀ d.L m₅ d.fs (d.kp ++ (C, oC) :: cs₅) os₁ σ' h₅ := by
   have this : Led S d.h₀ d.L m₅ d.fs ((d.kp ++ (C, oC) :: []) ++ cs₅) os₁ σ' h₅ := F₅.led
   simpa using this
  refine ⟨mC, hN.ns L₅.kmid.1, fun h₆ hs₆ => ?_⟩
  exact hQ m₅ cs₅ os₁ h₆ tk₅ k₁ ⟨vars_kp (d := { d with kp := d.kp ++ (C, oC) :: [] }) (kp' := d.kp) F₅, F₅.cells, L₅.extBut hs₆.extBut⟩
 rcases onX_inv ee with ⟨b, σ₁, e1, e2⟩ | ⟨k, e1, rfl, rfl⟩
 ·cases e2
  refine wpAny_bind (wpAny_mono (fin _ e1 (fun b' hb => ?_) fun k hk => by cases hk) (fun _ s' hq => wpAny_pure (wpAny_pure hq)) fun _ _ z => z)
  cases hb; exact ⟨rfl, rfl⟩
 ·exact wpAny_bind (wpAny_mono (fin _ e1 (fun b' hb => by cases hb) fun k' hk => by cases hk; exact ⟨rfl, rfl⟩) (fun _ s' hq => wpAny_pure (wpAny_pure hq)) fun _ _ z => z)
end
noncomputable def storable (sc : Scope) (nm : Str) : Bool := match sc.names.lookup nm with
 | some .local => true
 | some .cell => true
 | _ => false
/- parts of statements -/
noncomputable def tagS : Stmt → Nat
 | .FunctionDef .. => 0 | .AsyncFunctionDef .. => 1 | .ClassDef .. => 2 | .Return .. => 3 | .Delete .. => 4 | .Assign .. => 5 | .TypeAlias .. => 6 | .AugAssign .. => 7 | .AnnAssign .. => 8 | .For .. => 9 | .AsyncFor .. => 10 | .While .. => 11 | .If .. => 12 | .With .. => 13 | .AsyncWith .. => 14
 | .Match .. => 15 | .Raise .. => 16 | .Try .. => 17 | .TryStar .. => 18 | .Assert .. => 19 | .Import .. => 20 | .ImportFrom .. => 21 | .Global .. => 22 | .Nonlocal .. => 23 | .Expr .. => 24 | .Pass .. => 25 | .Break .. => 26 | .Continue .. => 27
set_option genInjectivity false in
structure Ps where
 x : Expr
 y : Expr
 ts : List Expr
 a : List Stmt
 b : List Stmt
 v : Option Expr
 pos : Pos
 w : Option Expr := none
 hs : List ExceptHandler := []
 f : List Stmt := []
noncomputable def noE : Expr := .Name "" noPos
noncomputable def ptS (t : Stmt) : Ps := match t with
 | .Return v p => ⟨noE, noE, [], [], [], v, p, none, [], []⟩
 | .Assign ts v p => ⟨v, v, ts, [], [], none, p, none, [], []⟩
 | .For g e a b p => ⟨g, e, [], a, b, none, p, none, [], []⟩
 | .While e a b p => ⟨e, e, [], a, b, none, p, none, [], []⟩
 | .If e a b p => ⟨e, e, [], a, b, none, p, none, [], []⟩
 | .Expr v p => ⟨v, v, [], [], [], none, p, none, [], []⟩
 | .Pass p => ⟨noE, noE, [], [], [], none, p, none, [], []⟩
 | .Raise v w p => ⟨noE, noE, [], [], [], v, p, w, [], []⟩
 | .Try a hs b f p => ⟨noE, noE, [], a, b, none, p, none, hs, f⟩
 | _ => ⟨noE, noE, [], [], [], none, noPos, none, [], []⟩
noncomputable def isTS (t : Stmt) (n : Nat) : Bool := decide (tagS t = n)
noncomputable def ckT (N : Nam) (sc : Scope) (t : Tg) (x : Expr) : Bool := match t with
 | .var i => isT x 23 && (nameIs N i (ptE x).nm && storable sc (ptE x).nm)
 | .attr o i => isT x 20 && (nameIs N i (ptE x).nm && ckE N sc o (ptE x).x)
 | .sub o i => isT x 21 && (ckE N sc o (ptE x).x && ckE N sc i (ptE x).y)
noncomputable def hdT : ExceptHandler → Option Expr
 | .ExceptHandler t _ _ _ => t
noncomputable def hdN : ExceptHandler → Option Str
 | .ExceptHandler _ n _ _ => n
noncomputable def hdB : ExceptHandler → List Stmt
 | .ExceptHandler _ _ b _ => b
noncomputable def ckH (N : Nam) (sc : Scope) (c : Nat) (r : Ex) (h : ExceptHandler) : Bool :=
 (N.ex c).isSome && ((hdN h).isNone && ((onO (hdT h) fun e => isT e 23 && (nameIs N c (ptE e).nm && isGlob sc (ptE e).nm)) && onO (one (hdB h)) fun s => isTS s 3 && onO (ptS s).v fun v => (kstV r).isSome && ckE N sc r v))
noncomputable def ckHs (N : Nam) (sc : Scope) : List (Nat × Ex) → List ExceptHandler → Bool
 | [], hs => nil? hs
 | (c, r) :: cs, hs => match hs with
  | h :: hs => ckH N sc c r h && ckHs N sc cs hs
  | [] => false
mutual
noncomputable def ckS (N : Nam) (sc : Scope) : St → Stmt → Bool
 | .expr e, t => isTS t 24 && (!isComp (ptS t).x && ckE N sc e (ptS t).x)
 | .asg g e, t => isTS t 5 && onO (one (ptS t).ts) fun x => ckT N sc g x && ckE N sc e (ptS t).x
 | .ite c a b, t => isTS t 12 && (ckE N sc c (ptS t).x && (ckSs N sc a (ptS t).a && ckSs N sc b (ptS t).b))
 | .whl c b, t => isTS t 11 && (nil? (ptS t).b && (ckE N sc c (ptS t).x && ckSs N sc b (ptS t).a))
 | .ford i e b, t => isTS t 9 && (isT (ptS t).x 23 && (nil? (ptS t).b && (nameIs N i (ptE (ptS t).x).nm && (storable sc (ptE (ptS t).x).nm && (!isSet (ptS t).y && (ckE N sc e (ptS t).y && ckSs N sc b (ptS t).a))))))
 | .for tg tup e b, t => isTS t 9 && onO (one tg) fun i => isT (ptS t).x 23 && (!tup && (nil? (ptS t).b && (nameIs N i (ptE (ptS t).x).nm && (storable sc (ptE (ptS t).x).nm && (!isSet (ptS t).y && (ckE N sc e (ptS t).y && ckSs N sc b (ptS t).a))))))
 | .ret e, t => isTS t 3 && onO (ptS t).v fun v => ckE N sc e v
 | .ret0, t => isTS t 3 && (ptS t).v.isNone
 | .pass, t => isTS t 25
 | .rais c s, t => isTS t 16 && ((ptS t).w.isNone && onO (ptS t).v fun e => isCallN e && (nameIs N c (cN e) && (isGlob sc (cN e) && ((N.ex c).isSome && onO (one (cA e)) fun a => ckE N sc (.cstr s) a))))
 | .try b cs, t => isTS t 17 && (nil? (ptS t).b && (nil? (ptS t).f && (ckSs N sc b (ptS t).a && (!cs.isEmpty && ckHs N sc cs (ptS t).hs))))
termination_by structural x => x
noncomputable def ckSs (N : Nam) (sc : Scope) : Sts → List Stmt → Bool
 | .any, _ => true
 | .nil, xs => nil? xs
 | .cons s ss, xs => match xs with
  | x :: xs => ckS N sc s x && ckSs N sc ss xs
  | [] => false
termination_by structural x => x
end
end Mine.Internal
set_option autoImplicit false
namespace Mine.Internal
open PySem PySem.W PySem.Calls PyProof.Rows
variable {S : Sig}
theorem store_ok {env : Env} {nm : Str} (h : storable env.scope nm = true) : StoreOK env.scope env nm := by
 unfold storable at h
 split at h
 ·rename_i e; exact .inl e
 ·rename_i e; exact .inr ⟨e, e⟩
 ·cases h
theorem ctx_kp {n : Nat} {d : Dx} (K : ∀ m cs, CtxOK S n (d.cx m cs)) (kp' : List (Addr × Obj)) : ∀ m cs, CtxOK S n ({ d with kp := kp' }.cx m cs) := fun m cs =>
 let k := K m cs; ⟨⟨k.units, k.depth, k.kin, k.top, k.lim, k.kind, k.glob, k.blt, k.locs, k.frs⟩, k.hand⟩
theorem swap_pure {v : Expr} {nm : Str} {p : Pos} {line : Nat} {env : Env} : ∃ b, swapsWith v (some (.Name nm p)) line env = pure b ∧ (isComp v = false → b = false) := by
 cases v <;> exact ⟨_, rfl, fun h => by first | rfl | cases h⟩
section
variable {N : Nam} {sc : Scope}
noncomputable def rebS (n : Nat) (t : Stmt) : Stmt := match n with
 | 24 => .Expr (ptS t).x (ptS t).pos
 | 5 => .Assign (ptS t).ts (ptS t).x (ptS t).pos
 | 12 => .If (ptS t).x (ptS t).a (ptS t).b (ptS t).pos
 | 11 => .While (ptS t).x (ptS t).a (ptS t).b (ptS t).pos
 | 9 => .For (ptS t).x (ptS t).y (ptS t).a (ptS t).b (ptS t).pos
 | 3 => .Return (ptS t).v (ptS t).pos
 | 25 => .Pass (ptS t).pos
 | 16 => .Raise (ptS t).v (ptS t).w (ptS t).pos
 | 17 => .Try (ptS t).a (ptS t).hs (ptS t).b (ptS t).f (ptS t).pos
 | _ => t
theorem stm_all (t : Stmt) : t = rebS (tagS t) t := by cases t <;> rfl
theorem stm_of {t : Stmt} {n : Nat} (h : isTS t n = true) : t = rebS n t := by
 have h2 := stm_all t
 rw [dec_t h] at h2
 exact h2
theorem u_expr {t : Stmt} (h : isTS t 24 = true) : t = .Expr (ptS t).x (ptS t).pos := stm_of h
theorem u_asg {t : Stmt} (h : isTS t 5 = true) : t = .Assign (ptS t).ts (ptS t).x (ptS t).pos := stm_of h
theorem u_if {t : Stmt} (h : isTS t 12 = true) : t = .If (ptS t).x (ptS t).a (ptS t).b (ptS t).pos := stm_of h
theorem u_while {t : Stmt} (h : isTS t 11 = true) : t = .While (ptS t).x (ptS t).a (ptS t).b (ptS t).pos := stm_of h
theorem u_for {t : Stmt} (h : isTS t 9 = true) : t = .For (ptS t).x (ptS t).y (ptS t).a (ptS t).b (ptS t).pos := stm_of h
theorem u_ret {t : Stmt} (h : isTS t 3 = true) : t = .Return (ptS t).v (ptS t).pos := stm_of h
theorem u_pass {t : Stmt} (h : isTS t 25 = true) : t = .Pass (ptS t).pos := stm_of h
theorem u_raise {t : Stmt} (h : isTS t 16 = true) : t = .Raise (ptS t).v (ptS t).w (ptS t).pos := stm_of h
theorem u_try {t : Stmt} (h : isTS t 17 = true) : t = .Try (ptS t).a (ptS t).hs (ptS t).b (ptS t).f (ptS t).pos := stm_of h
theorem cs_rais {c : Nat} {s : Str} {t : Stmt} (h : ckS N sc (.rais c s) t = true) : ∃ nm q k cp p pos, t = .Raise (some (.Call (.Name nm q) [.Constant (.str s) k cp] [] p)) none pos ∧ nameIs N c nm = true ∧ isGlob sc nm = true ∧ (N.ex c).isSome = true ∧ okS s = true := by
 obtain ⟨h1, h2⟩ := and_t (show (_ && _) = true from h)
 obtain ⟨g1, h2⟩ := and_t h2
 obtain ⟨e, h3, h2⟩ := onO_eq h2
 obtain ⟨g2, h2⟩ := and_t h2
 obtain ⟨g3, h2⟩ := and_t h2
 obtain ⟨g4, h2⟩ := and_t h2
 obtain ⟨g5, h2⟩ := and_t h2
 obtain ⟨a, h4, h2⟩ := onO_eq h2
 obtain ⟨k, cp, rfl, g6⟩ := ck_cstr h2
 obtain ⟨q, p, he⟩ := callN_eq g2
 rw [one_eq h4] at he
 have e1 := u_raise h1
 rw [Option.isNone_iff_eq_none.mp g1, h3] at e1
 exact ⟨_, q, k, cp, p, _, by rw [← he]; exact e1, g3, g4, g5, g6⟩
theorem cs_h {c : Nat} {r : Ex} {hd : ExceptHandler} (h2 : ckH N sc c r hd = true) : ∃ nm np re rp hp v, hd = .ExceptHandler (some (.Name nm np)) none [.Return (some re) rp] hp ∧ nameIs N c nm = true ∧ isGlob sc nm = true ∧ (N.ex c).isSome = true ∧ kstV r = some v ∧ ckE N sc r re = true := by
 obtain ⟨ty, n, bd, hp⟩ := hd
 obtain ⟨g4, h2⟩ := and_t (show (_ && _) = true from h2)
 obtain ⟨g5, h2⟩ := and_t h2
 obtain ⟨g6, h2⟩ := and_t h2
 obtain ⟨e, h4, g6⟩ := onO_eq g6
 obtain ⟨g6, g7⟩ := and_t g6
 obtain ⟨g7, g8⟩ := and_t g7
 obtain ⟨st, h5, h2⟩ := onO_eq h2
 obtain ⟨g9, h2⟩ := and_t h2
 obtain ⟨re, h6, h2⟩ := onO_eq h2
 obtain ⟨g10, g11⟩ := and_t h2
 obtain ⟨v, hv⟩ := Option.isSome_iff_exists.mp g10
 have e4 : ty = some e := h4
 have e5 : n = none := Option.isNone_iff_eq_none.mp g5
 have e6 : bd = [st] := one_eq h5
 have e7 := u_ret g9
 rw [h6] at e7
 have e8 := t_name g6
 rw [e4, e5, e6, e7, e8]
 exact ⟨_, _, re, _, hp, v, rfl, g7, g8, g4, hv, g11⟩
theorem cs_try {b : Sts} {cs : List (Nat × Ex)} {t : Stmt} (h : ckS N sc (.try b cs) t = true) : ∃ body hd hs pos, t = .Try body (hd :: hs) [] [] pos ∧ ckSs N sc b body = true ∧ ckHs N sc cs (hd :: hs) = true := by
 obtain ⟨h1, h2⟩ := and_t (show (_ && _) = true from h)
 obtain ⟨g1, h2⟩ := and_t h2
 obtain ⟨g2, h2⟩ := and_t h2
 obtain ⟨g3, h2⟩ := and_t h2
 obtain ⟨g4, g5⟩ := and_t h2
 have e1 := u_try h1
 rw [nil_eq g1, nil_eq g2] at e1
 cases hh : (ptS t).hs with
 | nil =>
  rw [hh] at g5
  cases cs with
  | nil => cases g4
  | cons p r => cases g5
 | cons hd hs =>
  rw [hh] at g5 e1
  exact ⟨_, hd, hs, _, e1, g3, g5⟩
theorem cs_expr {e : Ex} {t : Stmt} (h : ckS N sc (.expr e) t = true) : ∃ v p, t = .Expr v p ∧ isComp v = false ∧ ckE N sc e v = true := by
 obtain ⟨h1, h2⟩ := and_t (show (_ && _) = true from h)
 obtain ⟨g1, g2⟩ := and_t h2
 exact ⟨_, _, u_expr h1, not_t g1, g2⟩
theorem cs_asg {tg : Tg} {e : Ex} {t : Stmt} (h : ckS N sc (.asg tg e) t = true) : ∃ x v p, t = .Assign [x] v p ∧ ckT N sc tg x = true ∧ ckE N sc e v = true := by
 obtain ⟨h1, h2⟩ := and_t (show (_ && _) = true from h)
 obtain ⟨x, h3, h2⟩ := onO_eq h2
 obtain ⟨g1, g2⟩ := and_t h2
 exact ⟨x, _, _, by rw [← one_eq h3] <;> exact u_asg h1, g1, g2⟩
theorem cs_ite {c : Ex} {a b : Sts} {t : Stmt} (h : ckS N sc (.ite c a b) t = true) : ∃ e x y p, t = .If e x y p ∧ ckE N sc c e = true ∧ ckSs N sc a x = true ∧ ckSs N sc b y = true := by
 obtain ⟨h1, h2⟩ := and_t (show (_ && _) = true from h)
 obtain ⟨g1, r1⟩ := and_t h2
 obtain ⟨g2, g3⟩ := and_t r1
 exact ⟨_, _, _, _, u_if h1, g1, g2, g3⟩
theorem cs_whl {c : Ex} {b : Sts} {t : Stmt} (h : ckS N sc (.whl c b) t = true) : ∃ e x p, t = .While e x [] p ∧ ckE N sc c e = true ∧ ckSs N sc b x = true := by
 obtain ⟨h1, h2⟩ := and_t (show (_ && _) = true from h)
 obtain ⟨g1, r1⟩ := and_t h2
 obtain ⟨g2, g3⟩ := and_t r1
 exact ⟨_, _, _, by rw [← nil_eq g1] <;> exact u_while h1, g2, g3⟩
theorem cs_ford {i : Nat} {e : Ex} {b : Sts} {t : Stmt} (h : ckS N sc (.ford i e b) t = true) : ∃ nm q it x p, t = .For (.Name nm q) it x [] p ∧ nameIs N i nm = true ∧ storable sc nm = true ∧ isSet it = false ∧ ckE N sc e it = true ∧ ckSs N sc b x = true := by
 obtain ⟨h1, h2⟩ := and_t (show (_ && _) = true from h)
 obtain ⟨g1, r1⟩ := and_t h2
 obtain ⟨g3, r3⟩ := and_t r1
 obtain ⟨g4, r4⟩ := and_t r3
 obtain ⟨g5, r5⟩ := and_t r4
 obtain ⟨g6, r6⟩ := and_t r5
 obtain ⟨g7, g8⟩ := and_t r6
 exact ⟨_, _, _, _, _, by rw [← nil_eq g3, ← t_name g1] <;> exact u_for h1, g4, g5, not_t g6, g7, g8⟩
theorem cs_for {tg : List Nat} {tup : Bool} {e : Ex} {b : Sts} {t : Stmt} (h : ckS N sc (.for tg tup e b) t = true) : ∃ i nm q it x p, tg = [i] ∧ tup = false ∧ t = .For (.Name nm q) it x [] p ∧ nameIs N i nm = true ∧ storable sc nm = true ∧ isSet it = false ∧ ckE N sc e it = true ∧ ckSs N sc b x = true := by
 obtain ⟨h1, h2⟩ := and_t (show (_ && _) = true from h)
 obtain ⟨i, h3, h2⟩ := onO_eq h2
 obtain ⟨g1, r1⟩ := and_t h2
 obtain ⟨g2, r2⟩ := and_t r1
 obtain ⟨g3, r3⟩ := and_t r2
 obtain ⟨g4, r4⟩ := and_t r3
 obtain ⟨g5, r5⟩ := and_t r4
 obtain ⟨g6, r6⟩ := and_t r5
 obtain ⟨g7, g8⟩ := and_t r6
 exact ⟨i, _, _, _, _, _, one_eq h3, not_t g2, by rw [← nil_eq g3, ← t_name g1] <;> exact u_for h1, g4, g5, not_t g6, g7, g8⟩
theorem cs_ret {e : Ex} {t : Stmt} (h : ckS N sc (.ret e) t = true) : ∃ v p, t = .Return (some v) p ∧ ckE N sc e v = true := by
 obtain ⟨h1, h2⟩ := and_t (show (_ && _) = true from h)
 obtain ⟨w, h3, h2⟩ := onO_eq h2
 exact ⟨w, _, by rw [← h3] <;> exact u_ret h1, h2⟩
theorem cs_ret0  {t : Stmt} (h : ckS N sc .ret0 t = true) : ∃ p, t = .Return none p := by
 obtain ⟨h1, h2⟩ := and_t (show (_ && _) = true from h)
 exact ⟨_, by rw [← Option.isNone_iff_eq_none.mp h2] <;> exact u_ret h1⟩
theorem ct_var {i : Nat} {t : Expr} (h : ckT N sc (.var i) t = true) : ∃ nm p, t = .Name nm p ∧ nameIs N i nm = true ∧ storable sc nm = true := by
 obtain ⟨h1, h2⟩ := and_t (show (_ && _) = true from h)
 obtain ⟨g1, g2⟩ := and_t h2
 exact ⟨_, _, t_name h1, g1, g2⟩
theorem ct_attr {o : Ex} {i : Nat} {t : Expr} (h : ckT N sc (.attr o i) t = true) : ∃ x nm p, t = .Attribute x nm p ∧ nameIs N i nm = true ∧ ckE N sc o x = true := by
 obtain ⟨h1, h2⟩ := and_t (show (_ && _) = true from h)
 obtain ⟨g1, g2⟩ := and_t h2
 exact ⟨_, _, _, t_attr h1, g1, g2⟩
theorem ct_sub {o i : Ex} {t : Expr} (h : ckT N sc (.sub o i) t = true) : ∃ x y p, t = .Subscript x y p ∧ ckE N sc o x = true ∧ ckE N sc i y = true := by
 obtain ⟨h1, h2⟩ := and_t (show (_ && _) = true from h)
 obtain ⟨g1, g2⟩ := and_t h2
 exact ⟨_, _, _, t_sub h1, g1, g2⟩
theorem cs_pass {t : Stmt} (h : ckS N sc .pass t = true) : ∃ p, t = .Pass p := ⟨_, u_pass h⟩
theorem comp_tag {v : Expr} (h : isComp v = true) : 8 ≤ tagE v ∧ tagE v ≤ 11 := by
 have h := and_t h
 exact ⟨Nat.le_of_ble_eq_true h.1, Nat.le_succ_of_le (Nat.le_of_ble_eq_true h.2)⟩
theorem comp_of {e : Ex} {v : Expr} (hc : isComp v = true) (h : ckE N sc e v = true) : ∃ elt tg tup it conds, e = .comp elt tg tup it conds := by
 have h1 := comp_tag hc
 rw [tag_of h] at h1
 cases e <;> first | exact ⟨_, _, _, _, _, rfl⟩ | exact absurd (show 8 ≤ 19 ∧ 19 ≤ 11 from h1) (by decide) | exact absurd (show 8 ≤ 23 ∧ 23 ≤ 11 from h1) (by decide) | exact absurd (show 8 ≤ 2 ∧ 2 ≤ 11 from h1) (by decide) | exact absurd (show 8 ≤ 3 ∧ 3 ≤ 11 from h1) (by decide) | exact absurd (show 8 ≤ 0 ∧ 0 ≤ 11 from h1) (by decide) | exact absurd (show 8 ≤ 15 ∧ 15 ≤ 11 from h1) (by decide) | exact absurd (show 8 ≤ 24 ∧ 24 ≤ 11 from h1) (by decide) | exact absurd (show 8 ≤ 25 ∧ 25 ≤ 11 from h1) (by decide) | exact absurd (show 8 ≤ 6 ∧ 6 ≤ 11 from h1) (by decide) | exact absurd (show 8 ≤ 20 ∧ 20 ≤ 11 from h1) (by decide) | exact absurd (show 8 ≤ 21 ∧ 21 ≤ 11 from h1) (by decide) | exact absurd (show 8 ≤ 16 ∧ 16 ≤ 11 from h1) (by decide)
end
theorem sm_kst {N : Nam} {sc : Scope} {r : Ex} {v : V} {re : Expr} (hv : kstV r = some v) (h : ckE N sc r re = true) (c' : Cx) : SM S c' [] VR (eval re c'.env) (X.pure v) := by
 cases r with
 | cnone => obtain ⟨k, p, rfl⟩ := ck_cnone h; cases hv; exact sm_const_none
 | cbool b => obtain ⟨k, p, rfl⟩ := ck_cbool h; cases hv; exact sm_const_bool
 | cstr s =>
  obtain ⟨k, p, rfl, h1⟩ := ck_cstr h
  have hv : (if okS s = true then some (V.str s) else none) = some v := hv
  rw [if_pos h1] at hv; cases hv
  exact sm_const_str h1
 | _ => cases hv
theorem bm_has (OK : SigOK S) {k c : Nat} {C D : Addr} (hC : S.ex k = some C) (hD : S.ex c = some D) : (Value.ref C :: bmOf S C).contains (.ref D) = decide (k = c ∨ c = S.P.xb) := by
 have b1 := OK.exb k C hC
 have b2 := OK.exb c D hD
 have vn : veL.contains (Value.ref D) = false := rfl
 have key : (Value.ref C :: bmOf S C).contains (.ref D) = decide (D = C ∨ D = S.xp) := by
  rw [List.contains_cons]
  have e1 : (Value.ref D == Value.ref C) = decide (D = C) := by
   by_cases h : D = C
   ·subst h; rw [decide_eq_true rfl]; exact beq_self_eq_true _
   ·rw [decide_eq_false h]; exact beq_eq_false_iff_ne.mpr fun e => h (Value.ref.inj e)
  rw [e1]
  unfold bmOf
  by_cases hx : C = S.xp
  ·rw [if_pos hx, vn, Bool.or_false]
   by_cases h : D = C
   ·rw [decide_eq_true h, decide_eq_true (.inl h)]
   ·rw [decide_eq_false h, decide_eq_false (by rintro (q | q); exact h q; exact h (q.trans hx.symm))]
  ·rw [if_neg hx, List.contains_cons, vn, Bool.or_false]
   have e2 : (Value.ref D == Value.ref S.xp) = decide (D = S.xp) := by
    by_cases h : D = S.xp
    ·rw [decide_eq_true h, h]; exact beq_self_eq_true _
    ·rw [decide_eq_false h]; exact beq_eq_false_iff_ne.mpr fun e => h (Value.ref.inj e)
   rw [e2, ← Bool.decide_or]
 rw [key]
 refine decide_eq_decide.mpr ⟨?_, ?_⟩
 ·rintro (h | h)
  ·subst h; exact .inl (OK.exi k c D hC hD)
  ·exact .inr (b2.mpr h)
 ·rintro (h | h)
  ·subst h; rw [hC] at hD; exact .inl (Option.some.inj hD).symm
  ·exact .inr (b2.mp h)
theorem sx_hand (OK : SigOK S) {d : Dx} {n : Nat} (K : ∀ m cs, CtxOK S n (d.cx m cs)) (SO : ScOK d.env.scope d.env) {k : Nat} {C : Addr} (hC : S.ex k = some C) {m₁ : Str → Option Value} {cs₁ os₁ : List (Addr × Obj)} {σ' : H} {s : Shared} {B : Heap} {outer : List Env} {a : Addr} {a0 : Value}
  (hB : d.h₀.StaysIn B) (hkB : ∀ p ∈ (d.cx m₁ cs₁).kp ++ os₁, B.get? p.1 = some p.2) {v : V} {Q : Flow → Shared → Prop} {E : Value → Shared → Prop} (L₅ : (d.cx m₁ cs₁).led S os₁ σ' s.heap) (fl₅ : Heap.FlyingW B (d.env :: outer) a (.ref C) a0 s.heap)
  (hQ : ∀ os₇ h₇ tk₇ w, adr os₁ <+: adr os₇ → (d.cx m₁ cs₁).led S os₇ σ' h₇ → VR (adr os₇) v w → Q (.ret w) { s with heap := h₇, toks := tk₇ }) :
  ∀ (cs : List (Nat × Ex)) (hs : List ExceptHandler), ckHs S.nam d.env.scope cs hs = true → catchX S.P k cs = some v → wpAny (model S.prog S.w) d.A (handleBy (.ref a) d.env hs) Q E s
 | [], _, _, h => nomatch h
 | (c, r) :: cs, [], h, _ => nomatch (show false = true from h)
 | (c, r) :: cs, hd :: hs, h, hv => by
  obtain ⟨h1, h2⟩ := and_t (show (_ && _) = true from h)
  obtain ⟨nm, np, re, rp, hp, v', rfl, g1, g2, g3, g4, g5⟩ := cs_h h1
  obtain ⟨D, hD⟩ := Option.isSome_iff_exists.mp g3
  obtain ⟨ob, hob, hobc⟩ := fl₅.there
  have KI := (K m₁ cs₁).kin.keeps L₅.fr.keep
  obtain ⟨_, _, _, c3⟩ := OK.exs k C hC
  obtain ⟨N, nm', qn, bs, hdct, sn, sub, ab, col, dd, k0, k1, k2, k3, k5, mN, hC', _⟩ := c3 _ KI
  obtain ⟨nmD, d1, d2, d3⟩ := OK.exs c D hD
  rw [T_eq g1] at d1; cases d1
  obtain ⟨N', nm'', qn', bs', hdct', sn', sub', ab', col', dd', k0', k1', k2', k3', k5', mN', hD', hN', hni', T'⟩ := d3 _ KI
  have hg' := Bool.and_eq_true_iff.mp g2
  obtain ⟨mg, mb, q1, q2, q3⟩ := (K m₁ cs₁).top
  refine wpAny_handleBy_cons (codeAny_handlers_test (Name_function_global (K m₁ cs₁).kind (SO.glob _ (of_decide_eq_true hg'.1)) (loadGlobal_global ((K m₁ cs₁).glob ▸ q1.keeps L₅.fr.keep) (mg_of (K m₁ cs₁).kin q1 d2) ?_) (by simpa using hg'.2))) (by intro q; cases q)
  refine excMatches_ref hC' hD' hob hobc (T'.hasType PySem.F.excBase_ValueError.hasBase) ?_
  rw [bm_has OK hC hD]
  by_cases hm : k = c ∨ c = S.P.xb
  ·rw [decide_eq_true hm]
   have hv : (if k = c ∨ c = S.P.xb then kstV r else catchX S.P k cs) = some v := hv
   rw [if_pos hm] at hv
   refine codeAny_handlers_suite ?_
   refine lands_againW fl₅ fun h₆ fl₆ sm₆ => ?_
   have L₆ := L₅.slots sm₆ (fun b o q => fl₆.1 b o (hB b o q)) fun p hp => fl₆.1 _ _ (hkB p hp)
   refine wpAny_execs_cons (wpAny_Return_some ?_)
   exact sm_kst hv g5 { d.cx m₁ cs₁ with A := d.A.mark (some (.ref a)) } os₁ σ' { s with heap := h₆, toks := s.toks } _ _ (List.nil_prefix) L₆ rfl _ _ fun os₇ h₇ tk₇ w k₇ l₇ hw => hQ os₇ h₇ tk₇ w k₇ l₇ hw
  ·rw [decide_eq_false hm]
   have hv : (if k = c ∨ c = S.P.xb then kstV r else catchX S.P k cs) = some v := hv
   rw [if_neg hm] at hv
   exact sx_hand OK K SO hC hB hkB L₅ fl₅ hQ cs hs h2 hv
theorem sx_try (OK : SigOK S) {d : Dx} {n : Nat} (K : ∀ m cs, CtxOK S n (d.cx m cs)) (TF : ∃ outer, d.A.frames = some (d.env :: outer) ∧ d.env.frame = some d.L) (SO : ScOK d.env.scope d.env)
  {x : XS} {body : List Stmt} (hx : SX S d d.env.scope (execs body d.env) x) {cs : List (Nat × Ex)} {hd : ExceptHandler} {hs : List ExceptHandler} (hck : ckHs S.nam d.env.scope cs (hd :: hs) = true) {pos : Pos} :
  SX S d d.env.scope (exec (.Try body (hd :: hs) [] [] pos) d.env) (fun loc h => tryX S.P (x loc h) cs) := by
 intro loc m cs' os σ s r' loc' σ' F e Q E hQ
 refine wpAny_Try_except ?_
 have e : tryX S.P (x loc σ) cs = some (r', loc', σ') := e
 cases hxx : x loc σ with
 | none => rw [hxx] at e; cases e
 | some p =>
  obtain ⟨rr, l₁, σ₁⟩ := p
  rw [hxx] at e
  refine hx loc m cs' os σ s rr l₁ σ₁ F hxx _ _ fun m₁ cs₁ os₁ h₁ tk₁ k₁ F₁ => ?_
  cases rr with
  | ok o =>
   cases e
   cases o with
   | none => exact wpAny_execs_nil (hQ m₁ cs₁ os₁ h₁ tk₁ k₁ F₁)
   | some w => exact hQ m₁ cs₁ os₁ h₁ tk₁ k₁ F₁
  | err k =>
   have e : (catchX S.P k cs).map (fun v => (R.ok (some v), l₁, σ₁)) = some (r', loc', σ') := e
   obtain ⟨v, hv, e⟩ := Option.map_eq_some_iff.mp e
   cases e
   rintro ev ⟨a, C', B, l, rfl, hC', hfr, FB, hB, hkB⟩
   obtain ⟨outer, t1, t2⟩ := TF
   obtain rfl : d.env :: outer = l := Option.some.inj (t1.symm.trans hfr)
   refine fly_note t1 t2 FB fun h₄ a0 held sm₄ => wpAny_landsW held fun h₅ fl₅ sm₅ => ?_
   have sm := sm₄.trans sm₅
   have L₅ := F₁.led.slots sm (fun b o q => fl₅.1 b o (hB b o q)) fun p hp => fl₅.1 _ _ (hkB p hp)
   exact sx_hand OK K SO hC' hB hkB (s := { s with heap := h₅, toks := tk₁ }) L₅ fl₅ (fun os₇ h₇ tk₇ w k₇ l₇ hw => hQ m₁ cs₁ os₇ h₇ tk₇ (k₁.trans k₇) ⟨F₁.vars.mono k₇, F₁.cells, l₇⟩ w hw) cs (hd :: hs) hck hv
mutual
theorem sx_st {S : Sig} (OK : SigOK S) {C : Calls} {n : Nat} (HC : CallsOK S C n) (fuel : Nat) (x : St) {d : Dx} {t : Stmt} (K : ∀ m cs, CtxOK S (n + 2) (d.cx m cs)) (TF : ∃ outer, d.A.frames = some (d.env :: outer) ∧ d.env.frame = some d.L) (SO : ScOK d.env.scope d.env) (h : ckS S.nam d.env.scope x t = true) :
  SX S d d.env.scope (exec t d.env) (ex S.P C fuel x) := by
 match x, h with
 | .expr e, h =>
  obtain ⟨v, p, rfl, h1, h2⟩ := cs_expr h
  exact sx_expr (K (fun _ => none) []).kind h1 fun m cs ρ loc V => sm_ev OK HC e (K m cs) SO V h2
 | .asg (.var i) e, h =>
  obtain ⟨tx, v, pos, rfl, h1, h2⟩ := cs_asg h
  obtain ⟨nm, px, rfl, h3, h4⟩ := ct_var h1
  obtain ⟨b, hb, hb'⟩ := swap_pure (v := v) (nm := nm) (p := px) (line := pos.line) (env := d.env)
  cases b with
  | false => exact sx_asg_var OK.tab.nodup SO (K (fun _ => none) []).kind (K (fun _ => none) []).locs (T_eq h3) (store_ok h4) hb fun m cs ρ loc V => sm_ev OK HC e (K m cs) SO V h2
  | true =>
   have hc : isComp v = true := by
    cases q : isComp v with
    | true => rfl
    | false => exact (Bool.false_ne_true (hb' q).symm).elim
   have hcomp := comp_of hc h2
   obtain ⟨elt, tg, tup, it, conds, rfl⟩ := hcomp
   obtain ⟨l, tgt, ite, ifs, sc', p, rfl, g1, g2, g3, g4, g5, g6⟩ := ck_comp h2
   exact sx_asg_used OK.tab.nodup SO K (T_eq h3) (store_ok h4) hb g1 g2 g3 (fun m cs ρ loc V => sm_ev OK HC it (K m cs) SO V g4)
    (fun c' ρ' loc' K' SO' V' => sm_conds OK HC conds K' SO' V' g6) (fun c' ρ' loc' K' SO' V' => sm_ev OK HC elt K' SO' V' g5)
 | .asg (.attr o i) e, h =>
  obtain ⟨tx, v, pos, rfl, h1, h2⟩ := cs_asg h
  obtain ⟨y, nm, px, rfl, h3, h4⟩ := ct_attr h1
  exact sx_asg_attr OK.tab K (T_eq h3) (fun m cs ρ loc V => sm_ev OK HC e (K m cs) SO V h2) fun m cs ρ loc V => sm_ev OK HC o (K m cs) SO V h4
 | .asg (.sub o i) e, h =>
  obtain ⟨tx, v, pos, rfl, h1, h2⟩ := cs_asg h
  obtain ⟨y, z, px, rfl, h3, h4⟩ := ct_sub h1
  exact sx_asg_sub (fun m cs ρ loc V => sm_ev OK HC e (K m cs) SO V h2) (fun m cs ρ loc V => sm_ev OK HC o (K m cs) SO V h3) fun m cs ρ loc V => sm_ev OK HC i (K m cs) SO V h4
 | .ite c a b, h =>
  obtain ⟨e, y, z, p, rfl, h1, h2, h3⟩ := cs_ite h
  exact sx_if (fun m cs ρ loc V => sm_tst OK HC c (K m cs) SO V h1 (sm_ev OK HC c (K m cs) SO V h1)) (sx_sts OK HC fuel a K TF SO h2) (sx_sts OK HC fuel b K TF SO h3)
 | .whl c b, h =>
  obtain ⟨e, y, p, rfl, h1, h2⟩ := cs_whl h
  exact sx_while (fun m cs ρ loc V => sm_tst OK HC c (K m cs) SO V h1 (sm_ev OK HC c (K m cs) SO V h1)) (sx_sts OK HC fuel b K TF SO h2)
 | .ford i e b, h =>
  obtain ⟨nm, q, it, y, p, rfl, h1, h2, h3, h4, h5⟩ := cs_ford h
  exact sx_ford OK.tab.nodup SO (K (fun _ => none) []).kind (K (fun _ => none) []).locs (K (fun _ => none) []).hand (T_eq h1) (store_ok h2) h3 (fun m cs ρ loc V => sm_ev OK HC e (K m cs) SO V h4)
   fun lk kp' => sx_sts (S := S.at lk) (OK.at lk) (HC.at lk) fuel b (d := { d with kp := kp' }) (fun m cs => (ctx_kp K kp' m cs).at lk) TF SO h5
 | .for tg tup e b, h =>
  obtain ⟨i, nm, q, it, y, p, rfl, rfl, rfl, h1, h2, h3, h4, h5⟩ := cs_for h
  exact sx_for OK.tab.nodup SO (K (fun _ => none) []).kind (K (fun _ => none) []).locs (K (fun _ => none) []).hand (T_eq h1) (store_ok h2) h3 (fun m cs ρ loc V => sm_ev OK HC e (K m cs) SO V h4)
   fun kp' => sx_sts OK HC fuel b (d := { d with kp := kp' }) (ctx_kp K kp') TF SO h5
 | .ret e, h =>
  obtain ⟨v, p, rfl, h1⟩ := cs_ret h
  exact sx_ret fun m cs ρ loc V => sm_ev OK HC e (K m cs) SO V h1
 | .ret0, h =>
  obtain ⟨p, rfl⟩ := cs_ret0 h
  exact sx_ret0
 | .pass, h =>
  obtain ⟨p, rfl⟩ := cs_pass h
  exact sx_pass
 | .rais c msg, h =>
  obtain ⟨nm, q, k, cp, p, pos, rfl, h1, h2, h3, h4⟩ := cs_rais h
  obtain ⟨C', hC⟩ := Option.isSome_iff_exists.mp h3
  exact sx_rais OK K SO hC (T_eq h1) h2 h4
 | .try b cs, h =>
  obtain ⟨body, hd, hs, pos, rfl, h1, h2⟩ := cs_try h
  exact sx_try OK K TF SO (sx_sts OK HC fuel b K TF SO h1) h2
termination_by structural x
theorem sx_sts {S : Sig} (OK : SigOK S) {C : Calls} {n : Nat} (HC : CallsOK S C n) (fuel : Nat) (x : Sts) {d : Dx} {t : List Stmt} (K : ∀ m cs, CtxOK S (n + 2) (d.cx m cs)) (TF : ∃ outer, d.A.frames = some (d.env :: outer) ∧ d.env.frame = some d.L) (SO : ScOK d.env.scope d.env) (h : ckSs S.nam d.env.scope x t = true) :
  SX S d d.env.scope (execs t d.env) (exs S.P C fuel x) := by
 match x, t, h with
 | .any, _, _ => exact fun _ _ _ _ _ _ _ _ _ _ e => nomatch (show none = some _ from e)
 | .nil, [], h => exact sx_nil
 | .cons s ss, a :: as, h =>
  have h := and_t (show (_ && _) = true from h)
  exact sx_cons (sx_st OK HC fuel s K TF SO h.1) (sx_sts OK HC fuel ss K TF SO h.2)
 | .nil, _ :: _, h => exact nomatch (show false = true from h)
 | .cons _ _, [], h => exact nomatch (show false = true from h)
termination_by structural x
end
end Mine.Internal
set_option autoImplicit false
namespace Mine.Internal
open PySem PySem.W PySem.Calls PyProof.Rows
variable {S : Sig}
theorem cellsFrom_has {nm : Str} : ∀ (l : List (Str × NameKind)) (n : Nat) (acc : List (Str × Addr)), ((nm, NameKind.cell) ∈ l ∨ ∃ a, (nm, a) ∈ acc) → ∃ a, (nm, a) ∈ cellsFrom n l acc
 | [], n, acc, h => by
  rcases h with h | h
  ·cases h
  ·exact h
 | (x, k) :: r, n, acc, h => by
  unfold cellsFrom
  split
  ·rename_i hk
   refine cellsFrom_has r (n + 1) _ ?_
   rcases h with h | ⟨a, h⟩
   ·rcases List.mem_cons.mp h with h | h
    ·cases h; exact .inr ⟨n, .head _⟩
    ·exact .inl h
   ·exact .inr ⟨a, .tail _ h⟩
  ·rename_i hk
   refine cellsFrom_has r n acc ?_
   rcases h with h | h
   ·rcases List.mem_cons.mp h with h | h
    ·cases h; exact absurd rfl hk
    ·exact .inl h
   ·exact .inr h
theorem lookup_of_mem {α : Type} {nm : Str} : ∀ {l : List (Str × α)}, (∃ a, (nm, a) ∈ l) → ∃ a, l.lookup nm = some a
 | [], h => by obtain ⟨_, h⟩ := h; cases h
 | (x, b) :: r, h => by
  rw [List.lookup_cons]
  split
  ·exact ⟨b, rfl⟩
  ·rename_i hx
   refine lookup_of_mem ?_
   obtain ⟨a, h⟩ := h
   rcases List.mem_cons.mp h with h | h
   ·cases h; simp at hx
   ·exact ⟨a, h⟩
theorem lookup_nodup {α : Type} : ∀ {l : List (Str × α)} {n : Str} {a : α}, (l.map (·.1)).Nodup → (n, a) ∈ l → l.lookup n = some a
 | [], _, _, _, h => by cases h
 | (x, b) :: r, n, a, nd, h => by
  rw [List.map_cons, List.nodup_cons] at nd
  rw [List.lookup_cons]
  rcases List.mem_cons.mp h with h | h
  ·cases h; simp
  ·have : (n == x) = false := by
    refine beq_eq_false_iff_ne.mpr fun q => nd.1 ?_
    rw [← q]; exact List.mem_map.mpr ⟨(n, a), h, rfl⟩
   rw [this]; exact lookup_nodup nd.2 h
theorem scOK_fn {env : Env} {n : Nat} (hcells : env.cells = cellsFrom n env.scope.names []) (hfree : ∀ x ∈ env.scope.names, x.2 ≠ .free) : ScOK env.scope env := by
 refine ⟨fun nm h => h, fun nm h => h, fun nm h => ?_⟩
 unfold isCell at h
 split at h
 ·rename_i e
  refine ⟨.inl e, ?_⟩
  rw [hcells]
  exact lookup_of_mem (cellsFrom_has _ _ _ (.inl (PySem.mem_of_lookup e)))
 ·rename_i e; exact absurd rfl (hfree _ (PySem.mem_of_lookup e))
 ·cases h
theorem loc_of {ps : List Nat} {xs : List V} {i : Nat} {v : V} : ∀ {l₀ : Loc}, (ps.zip xs).foldl (fun l p => l.upd p.1 p.2) l₀ i = some v → l₀ i = some v ∨ ∃ k : Nat, ps[k]? = some i ∧ xs[k]? = some v := by
 induction ps generalizing xs with
 | nil => intro l₀ h; exact .inl h
 | cons p ps ih =>
  intro l₀ h
  cases xs with
  | nil => exact .inl h
  | cons x xs =>
   simp only [List.zip_cons_cons, List.foldl_cons] at h
   rcases ih h with h | ⟨k, h1, h2⟩
   ·by_cases hp : i = p
    ·subst hp; rw [upd_eq] at h; exact .inr ⟨0, rfl, h⟩
    ·rw [upd_ne hp] at h; exact .inl h
   ·exact .inr ⟨k + 1, h1, h2⟩
theorem bindL_skip {kd : Str → Option NameKind} {nm : Str} : ∀ {bs : List (Str × Value)} {m : Str → Option Value}, (∀ p ∈ bs, p.1 ≠ nm) → bindL kd bs m nm = m nm
 | [], m, _ => rfl
 | (n, v) :: r, m, h => by
  unfold bindL
  rw [bindL_skip fun p hp => h p (.tail _ hp)]
  split
  ·exact if_neg (Ne.symm (h _ (.head _)))
  ·rfl
theorem bindC_skip {kd : Str → Option NameKind} {nm : Str} : ∀ {bs : List (Str × Value)} {m : Str → Option Value}, (∀ p ∈ bs, p.1 ≠ nm) → bindC kd bs m nm = m nm
 | [], m, _ => rfl
 | (n, v) :: r, m, h => by
  unfold bindC
  rw [bindC_skip fun p hp => h p (.tail _ hp)]
  split
  ·rfl
  ·exact if_neg (Ne.symm (h _ (.head _)))
theorem bindL_of {kd : Str → Option NameKind} {nm : Str} {x : Value} (hk : kd nm = some .local) : ∀ {bs : List (Str × Value)} {m : Str → Option Value}, (bs.map (·.1)).Nodup → (nm, x) ∈ bs → bindL kd bs m nm = some x
 | [], m, _, h => by cases h
 | (n, v) :: r, m, nd, h => by
  rw [List.map_cons, List.nodup_cons] at nd
  unfold bindL
  rcases List.mem_cons.mp h with h | h
  ·cases h
   rw [bindL_skip fun p hp q => nd.1 (List.mem_map.mpr ⟨p, hp, q⟩), if_pos hk]
   simp
  ·exact bindL_of hk nd.2 h
theorem bindC_of {kd : Str → Option NameKind} {nm : Str} {x : Value} (hk : kd nm = some .cell) : ∀ {bs : List (Str × Value)} {m : Str → Option Value}, (bs.map (·.1)).Nodup → (nm, x) ∈ bs → bindC kd bs m nm = some x
 | [], m, _, h => by cases h
 | (n, v) :: r, m, nd, h => by
  rw [List.map_cons, List.nodup_cons] at nd
  unfold bindC
  rcases List.mem_cons.mp h with h | h
  ·cases h
   rw [bindC_skip fun p hp q => nd.1 (List.mem_map.mpr ⟨p, hp, q⟩), if_neg (by rw [hk]; simp)]
   simp
  ·exact bindC_of hk nd.2 h
theorem cells_are {h : Heap} : ∀ (l : List (Str × Addr)), (∀ p ∈ l, ∃ o v, h.get? p.2 = some o ∧ o.data = .cell v) → ∃ cs : List (Addr × Obj), All2 (fun (p : Str × Addr) (q : Addr × Obj) => p.2 = q.1 ∧ ∃ v, q.2.data = .cell v) l cs ∧ ∀ q ∈ cs, h.get? q.1 = some q.2 ∧ ∃ p ∈ l, p.2 = q.1
 | [], _ => ⟨[], .nil, fun q hq => nomatch hq⟩
 | p :: r, hl => by
  obtain ⟨cs, h1, h2⟩ := cells_are r fun q hq => hl q (.tail _ hq)
  obtain ⟨o, v, ho, hv⟩ := hl p (.head _)
  refine ⟨(p.2, o) :: cs, .cons ⟨rfl, v, hv⟩ h1, fun q hq => ?_⟩
  rcases List.mem_cons.mp hq with rfl | hq
  ·exact ⟨ho, p, .head _, rfl⟩
  ·obtain ⟨g1, p', g2, g3⟩ := h2 q hq
   exact ⟨g1, p', .tail _ g2, g3⟩
theorem cells_adr {l : List (Str × Addr)} {cs : List (Addr × Obj)} (h : All2 (fun (p : Str × Addr) (q : Addr × Obj) => p.2 = q.1 ∧ ∃ v, q.2.data = .cell v) l cs) : l.map (·.2) = adr cs := by
 induction h with
 | nil => rfl
 | cons h1 _ ih => simp only [List.map_cons, adr, h1.1]; rw [ih]
structure FnOK (S : Sig) (A : Addr) (fd : FD) (fo : Obj) (name qual : Str) (params : Arguments) (body : List Stmt) (scope : Scope) (dV kV doc pm : Value) (an : Option Addr) (cdv ct : Value) (names : List Str) : Prop where
 look : S.K.lookup A = some fo
 data : fo.data = .func (fnX name qual params body scope [] dV kV doc pm an cdv ct)
 code : codeIn S.K cdv qual = true
 co : scope.isCoroutine = false
 gen : scope.isGenerator = false
 kind : scope.kind = .function
 bind : ∀ vs : List Value, vs.length = names.length → bindArgs (fnX name qual params body scope [] dV kV doc pm an cdv ct) ⟨vs, []⟩ = pure (names.zip vs)
 pars : All2 (fun i nm => S.T[i]? = some nm) fd.params names
 nd : names.Nodup
 stor : ∀ nm ∈ names, storable scope nm = true
 cells : ((cellsFrom 0 scope.names []).map (·.1)).Nodup
 free : ∀ x ∈ scope.names, x.2 ≠ .free
 ck : ckSs S.nam scope fd.body body = true
theorem FnOK.at {S : Sig} {A : Addr} {fd : FD} {fo : Obj} {name qual : Str} {params : Arguments} {body : List Stmt} {scope : Scope} {dV kV doc pm : Value} {an : Option Addr} {cdv ct : Value} {names : List Str} (O : FnOK S A fd fo name qual params body scope dV kV doc pm an cdv ct names) (lk : List (Nat × Addr × Obj)) : FnOK (S.at lk) A fd fo name qual params body scope dV kV doc pm an cdv ct names :=
 ⟨O.look, O.data, O.code, O.co, O.gen, O.kind, O.bind, O.pars, O.nd, O.stor, O.cells, O.free, O.ck⟩
inductive FnI (S : Sig) (A : Addr) (fd : FD) : Prop
 | mk (fo : Obj) (name qual : Str) (params : Arguments) (body : List Stmt) (scope : Scope) (dV kV doc pm : Value) (an : Option Addr) (cdv ct : Value) (names : List Str) (h : FnOK S A fd fo name qual params body scope dV kV doc pm an cdv ct names) : FnI S A fd
theorem zip_map_fst {names : List Str} : ∀ {vs : List Value}, vs.length = names.length → (names.zip vs).map (·.1) = names := by
 induction names with
 | nil => intro vs _; simp
 | cons n r ih =>
  intro vs h
  cases vs with
  | nil => simp at h
  | cons v vs => simp only [List.zip_cons_cons, List.map_cons]; rw [ih (by simpa using h)]
theorem body_ok (OK : SigOK S) {C : Calls} {n : Nat} (HC : CallsOK S C n) (fuel : Nat) {A : Addr} {fd : FD} {fo : Obj} {name qual : Str} {params : Arguments} {body : List Stmt} {scope : Scope} {dV kV doc pm : Value} {an : Option Addr} {cdv ct : Value} {names : List Str}
  (O : FnOK S A fd fo name qual params body scope dV kV doc pm an cdv ct names) {Ar : Around} {h₀ : Heap} {L : Addr} {fs : Fs} {kp os : List (Addr × Obj)} {σ σ' : H} {s : Shared} {xs : List V} {vs : List Value} {r : R (Option V)} {loc' : Loc}
  (K : ∀ m cs, CtxOK S (n + 2) ⟨Ar, envOfC qual scope L A cdv, h₀, L, m, fs, kp ++ cs⟩) (TF : ∃ outer, Ar.frames = some (envOfC qual scope L A cdv :: outer)) (hlen : xs.length = fd.params.length) (hvs : All2 (VR (adr os)) xs vs)
  (l : Led S h₀ L (bindL (envOfC qual scope L A cdv).kindOf (names.zip vs) fun _ => none) fs kp os σ s.heap)
  (hcell : ∀ nm a, (envOfC qual scope L A cdv).cells.lookup nm = some a → s.heap.IsCell a (bindC (envOfC qual scope L A cdv).kindOf (names.zip vs) (fun _ => none) nm))
  (apart : (envOfC qual scope L A cdv).cells.Pairwise fun x y => x.2 ≠ y.2) (hnew : ∀ nm a, (nm, a) ∈ (envOfC qual scope L A cdv).cells → L < a ∧ (∀ p ∈ kp ++ os, p.1 < a) ∧ ∀ f ∈ fs, f.1 < a)
  (he : exs S.P C fuel fd.body ((fd.params.zip xs).foldl (fun l p => l.upd p.1 p.2) fun _ => none) σ = some (r, loc', σ')) {Q : Flow → Shared → Prop} {E : Value → Shared → Prop}
  (hQ : ∀ (m' : Str → Option Value) (os' : List (Addr × Obj)) (h' : Heap) (tk : Nat), adr os <+: adr os' → Led S h₀ L m' fs kp os' σ' h' → ∀ o, r = .ok o → ∀ f, (match o with | none => f = Flow.next | some v => ∃ a, f = .ret a ∧ VR (adr os') v a) → Q f { s with heap := h', toks := tk })
  (hE : ∀ (m' : Str → Option Value) (cs' os' : List (Addr × Obj)) (h' : Heap) (tk : Nat), adr os <+: adr os' → Led S h₀ L m' fs kp os' σ' h' → ∀ k, r = .err k → ∀ e, Fly S ⟨Ar, envOfC qual scope L A cdv, h₀, L, m', fs, kp ++ cs'⟩ os' e k h' → E e { s with heap := h', toks := tk }) :
  wpAny (model S.prog S.w) Ar (execs body (envOfC qual scope L A cdv)) Q E s := by
 have hcn : ((envOfC qual scope L A cdv).cells.map (·.1)).Nodup := cellsFrom_names scope.names 0 (L + 1) [] [] rfl ▸ O.cells
 obtain ⟨cs, ca, cb⟩ := cells_are (h := s.heap) (envOfC qual scope L A cdv).cells fun p hp => by
  obtain ⟨o, ho, hd⟩ := hcell p.1 p.2 (lookup_nodup hcn hp)
  exact ⟨o, _, ho, hd⟩
 have hl2 := hvs.length
 have hl1 := O.pars.length
 have hvl : vs.length = names.length := by lia
 have nda : (adr cs).Nodup := by
  have e : (envOfC qual scope L A cdv).cells.map (·.2) = adr cs := cells_adr ca
  rw [← e]
  exact List.pairwise_map.mpr apart
 have top := l.room
 have Lc : Led S h₀ L (bindL (envOfC qual scope L A cdv).kindOf (names.zip vs) fun _ => none) fs (kp ++ cs) os σ s.heap := by
  refine l.kadds nda fun q hq => ?_
  obtain ⟨g1, ⟨pn, pa⟩, g2, g3⟩ := cb q hq
  dsimp only at g3
  subst g3
  obtain ⟨n1, n2, n3⟩ := hnew pn q.1 g2
  refine ⟨g1, Nat.ne_of_gt n1, ?_, fun hm => ?_, fun f hf => Nat.ne_of_lt (n3 f hf), ?_⟩
  ·cases e : h₀.get? q.1 with
   | none => rfl
   | some o => exact absurd (Heap.lt_size e) (Nat.not_lt.mpr (Nat.le_trans l.fr.above (Nat.le_of_lt n1)))
  ·obtain ⟨p, hp, e⟩ := List.mem_map.mp hm
   exact absurd e (Nat.ne_of_lt (n2 p hp))
  ·obtain ⟨o, ho⟩ := l.top
   exact Nat.lt_trans (Nat.lt_of_lt_of_le (Heap.lt_size ho) l.fr.above) n1
 let d : Dx := ⟨Ar, envOfC qual scope L A cdv, h₀, L, fs, kp⟩
 have CO : CellsOK d.env cs := ⟨ca, hcn⟩
 have SO : ScOK d.env.scope d.env := scOK_fn rfl O.free
 have Vs : VarsOK S (d.cx (bindL (envOfC qual scope L A cdv).kindOf (names.zip vs) fun _ => none) cs) d.env.scope (adr os) ((fd.params.zip xs).foldl (fun l p => l.upd p.1 p.2) fun _ => none) := by
  intro i v nm h1 h2 h3
  rcases loc_of h1 with h | ⟨k, k1, k2⟩
  ·cases h
  ·obtain ⟨nm', k3, k4⟩ := O.pars.get k1
   rw [h2] at k4; cases k4
   obtain ⟨x, k5, k6⟩ := hvs.get k2
   have hmem : (nm, x) ∈ names.zip vs := by
    refine List.mem_of_getElem? (i := k) ?_
    rw [List.getElem?_zip_eq_some]; exact ⟨k3, k5⟩
   have hnz : ((names.zip vs).map (·.1)).Nodup := by rw [zip_map_fst hvl]; exact O.nd
   have hst := O.stor nm (List.mem_of_getElem? k3)
   unfold storable at hst
   split at hst
   ·rename_i e
    exact ⟨x, .inl ⟨e, bindL_of e hnz hmem⟩, k6⟩
   ·rename_i e
    obtain ⟨a, ha⟩ := (SO.cell nm (by unfold isCell; rw [show d.env.scope.names.lookup nm = some .cell from e])).2
    obtain ⟨o, ho, hd⟩ := hcell nm a ha
    obtain ⟨p, o', v', p1, p2, p3⟩ := CO.at ha
    have hoo : o = o' := by
     have := (cb _ (List.mem_of_getElem? p2)).1
     dsimp only at this
     rw [ho] at this; cases this; rfl
    subst hoo
    refine ⟨x, .inr ⟨.inl e, a, o, ha, List.mem_append_right _ (List.mem_of_getElem? p2), ?_⟩, k6⟩
    rw [hd, bindC_of e hnz hmem]
   ·cases hst
 refine sx_sts OK HC fuel fd.body (d := d) K (let ⟨o, h⟩ := TF; ⟨o, h, rfl⟩) SO O.ck _ _ cs os σ s r loc' σ' ⟨Vs, CO, Lc⟩ he Q E fun m' cs' os' h' tk k F => ?_
 cases r with
 | err q => exact fun e f => hE m' cs' os' h' tk k (Led.kdrops (cs := cs') F.led) q rfl e f
 | ok o =>
  have fin := fun f hf => hQ m' os' h' tk k (Led.kdrops (cs := cs') F.led) o rfl f hf
  cases o with
  | none => exact fin .next rfl
  | some v => exact fun a ha => fin (.ret a) ⟨a, rfl, ha⟩
noncomputable def FnAll (S : Sig) : Prop :=
 (∀ f A, S.fn f = some A → ∃ fd, S.P.funs.lookup f = some fd ∧ FnI S A fd) ∧
 (∀ f A, S.me f = some A → ∃ fd, S.P.meths.lookup f = some fd ∧ FnI S A fd)
theorem call_ok (OK : SigOK S) {C : Calls} {n : Nat} (HC : CallsOK S C n) (fuel : Nat) {A : Addr} {fd : FD} {fo : Obj} {name qual : Str} {params : Arguments} {body : List Stmt} {scope : Scope} {dV kV doc pm : Value} {an : Option Addr} {cdv ct : Value} {names : List Str}
  (O : FnOK S A fd fo name qual params body scope dV kV doc pm an cdv ct names) {c : Cx} {ρ : List Addr} (K : CtxOK S (n + 5) c) {xs : List V} {vs : List Value} (hvs : All2 (VR ρ) xs vs) :
  SC S c ρ (.ref A) vs (fun h => if xs.length = fd.params.length then
    match exs S.P C fuel fd.body ((fd.params.zip xs).foldl (fun l p => l.upd p.1 p.2) (fun _ => none)) h with
    | none => none
    | some (.err c, _, h₁) => some (.err c, h₁)
    | some (.ok r, _, h₁) => some (.ok (r.getD .none), h₁)
   else none) := by
 intro os σ s r σ' hp hl hx R hR
 dsimp only at hx
 split at hx
 ·rename_i hlen
  have hl1 := O.pars.length
  have hl2 := hvs.length
  have hvl : vs.length = names.length := by lia
  cases hb : exs S.P C fuel fd.body ((fd.params.zip xs).foldl (fun l p => l.upd p.1 p.2) (fun _ => none)) σ with
  | none => rw [hb] at hx; cases hx
  | some p =>
   obtain ⟨rr, loc', σ₁⟩ := p
   rw [hb] at hx
   have KX := K.kin.keeps hl.fr.keep
   refine codeAny_call_function (by have := K.depth; lia) (KX _ _ O.look) O.data O.co O.gen rfl (codeRec_of KX O.code) (BindsTo.of_eq (s := s) (O.bind vs hvl) _ _ _ _ ?_)
   refine wpAny_newFunctionEnv_cells O.kind (fun x hx => ?_) fun env' he s' x => ?_
   ·have hm : x.1 ∈ names := by rw [← zip_map_fst hvl]; exact List.mem_map_of_mem hx
    have hst := O.stor x.1 hm
    unfold storable at hst
    split at hst
    ·rename_i e; exact .inl e
    ·rename_i e
     refine .inr ⟨e, ?_⟩
     obtain ⟨a, ha⟩ := lookup_of_mem (cellsFrom_has scope.names (s.heap.objs.size + 1) [] (.inl (PySem.mem_of_lookup e)))
     rw [ha]; rfl
    ·cases hst
   ·have he' : env' = envOfC qual scope s.heap.objs.size A cdv := he
    subst he'
    refine ⟨(K.lim.keeps hl.fr.keep).keeps x.toInCall.keep, codeAny_func ?_⟩
    obtain ⟨h₁, tk, rfl, hk₁⟩ := x.done
    have lE : Led S c.h₀ s.heap.objs.size (bindL (envOfC qual scope s.heap.objs.size A cdv).kindOf (names.zip vs) fun _ => none) ((c.L, c.m) :: c.fs) c.kp os σ h₁ := hl.enter x.toInCall.ns hk₁ (get_size _) (Nat.le_refl _)
    refine body_ok OK HC fuel O (s := { s with heap := h₁, toks := tk }) (Ar := c.A.deeper (envOfC qual scope s.heap.objs.size A cdv)) (fun m cs => ?_) (let ⟨l, h, _⟩ := K.frs; ⟨l, Around.frames_deeper h⟩) hlen (VRs.mono hp hvs) lE x.cell x.apart (fun nm a hm => ?_) hb (fun m' os' h' tk' k l' o ho f hf => ?_) fun m' cs' os' h' tk' k l' q hq e f => ?_
    ·refine ⟨⟨?_, ?_, K.kin, K.top, K.lim, O.kind, rfl, rfl, rfl, ?_⟩, K.hand⟩
     ·have := K.units; show c.A.units + 3 + _ + _ < _; lia
     ·have := K.depth; show c.A.depth + 1 + _ < _; lia
     ·obtain ⟨l, g1, g2⟩ := K.frs
      refine ⟨_, Around.frames_deeper g1, fun e he => ?_⟩
      rcases List.mem_cons.mp he with rfl | he
      ·exact ⟨by rw [show (envOfC qual scope s.heap.objs.size A cdv).scope.kind = .function from O.kind]; exact nofun, _, rfl, .head _⟩
      ·obtain ⟨g3, b, g4, g5⟩ := g2 e he
       exact ⟨g3, b, g4, .tail _ g5⟩
    ·have hlt : s.heap.objs.size < a := x.above nm a hm
     refine ⟨hlt, fun p hp' => Nat.lt_trans (Heap.lt_size (hl.news p hp').1) hlt, fun f hf => ?_⟩
     rcases List.mem_cons.mp hf with rfl | hf
     ·obtain ⟨oL, _, _, hL, _⟩ := hl.fr.ns
      exact Nat.lt_trans (Heap.lt_size hL) hlt
     ·obtain ⟨oL, _, _, hL, _⟩ := (hl.outs f hf).1
      exact Nat.lt_trans (Heap.lt_size hL) hlt
    ·subst ho
     cases hx
     have lB := l'.leave hl.fr.above (fun f hf => (hl.outs f hf).2.1) (h' := h') fun b o _ e => e
     cases o with
     | none => subst hf; exact hR os' h' tk' .none k lB rfl
     | some v => obtain ⟨a, rfl, ha⟩ := hf; exact hR os' h' tk' a k lB ha
    ·subst hq
     cases hx
     obtain ⟨a, C', B, l, rfl, hC, hfr, FB, hB, hkB⟩ := f
     obtain ⟨fr, g1, g2⟩ := K.frs
     obtain rfl : envOfC qual scope s.heap.objs.size A cdv :: fr = l := Option.some.inj ((Around.frames_deeper g1).symm.trans hfr)
     refine fly_leave (Around.frames_deeper g1) rfl FB fun h₂ F₂ sm₂ => ?_
     have kb : ∀ p ∈ c.kp ++ os', B.get? p.1 = some p.2 := fun p hp' => by
      rcases List.mem_append.mp hp' with hp' | hp'
      ·exact hkB p (List.mem_append_left _ (List.mem_append_left _ hp'))
      ·exact hkB p (List.mem_append_right _ hp')
     have lB := (l'.leave hl.fr.above (fun f hf => (hl.outs f hf).2.1) (h' := h') fun b o _ e => e).slots sm₂ (fun b o q => F₂.1 b o (hB b o q)) fun p hp' => F₂.1 _ _ (kb p hp')
     exact hR os' h₂ tk' _ k lB ⟨a, C', B, fr, rfl, hC, g1, F₂, hB, kb⟩
 ·cases hx
theorem run_ok (OK : SigOK S) (hA : FnAll S) (fuel : Nat) : ∀ d, CallsOK S (run S.P fuel d) (5 * d)
 | 0 => ⟨fun lk {c ρ f A xs vs} _ _ _ => (fun os σ s r σ' _ _ hx => by cases hx), fun lk {c ρ f A xs vs} _ _ _ => (fun os σ s r σ' _ _ hx => by cases hx)⟩
 | d + 1 => by
  have ih := run_ok OK hA fuel d
  refine ⟨fun lk {c ρ f A xs vs} K hf hvs => ?_, fun lk {c ρ f A xs vs} K hf hvs => ?_⟩
  ·obtain ⟨fd, hfd, fo, name, qual, params, body, scope, dV, kV, doc, pm, an, cdv, ct, names, O⟩ := hA.1 f A hf
   have := call_ok (S := S.at lk) (OK.at lk) (ih.at lk) fuel (O.at lk) (c := c) K hvs
   intro os σ s r σ' hp hl hx
   refine this os σ s r σ' hp hl ?_
   rw [← hx]
   have e : run S.P fuel (d + 1) false f xs σ = (match S.P.funs.lookup f with
    | none => none
    | some fd => if xs.length = fd.params.length then
      match exs S.P (run S.P fuel d) fuel fd.body ((fd.params.zip xs).foldl (fun l p => l.upd p.1 p.2) (fun _ => none)) σ with
      | none => none
      | some (.err c, _, h₁) => some (.err c, h₁)
      | some (.ok r, _, h₁) => some (.ok (r.getD .none), h₁)
     else none) := rfl
   rw [e, hfd]
  ·obtain ⟨fd, hfd, fo, name, qual, params, body, scope, dV, kV, doc, pm, an, cdv, ct, names, O⟩ := hA.2 f A hf
   have := call_ok (S := S.at lk) (OK.at lk) (ih.at lk) fuel (O.at lk) (c := c) K hvs
   intro os σ s r σ' hp hl hx
   refine this os σ s r σ' hp hl ?_
   rw [← hx]
   have e : run S.P fuel (d + 1) true f xs σ = (match S.P.meths.lookup f with
    | none => none
    | some fd => if xs.length = fd.params.length then
      match exs S.P (run S.P fuel d) fuel fd.body ((fd.params.zip xs).foldl (fun l p => l.upd p.1 p.2) (fun _ => none)) σ with
      | none => none
      | some (.err c, _, h₁) => some (.err c, h₁)
      | some (.ok r, _, h₁) => some (.ok (r.getD .none), h₁)
     else none) := rfl
   rw [e, hfd]
end Mine.Internal
set_option autoImplicit false
namespace Mine.Internal
open PySem PySem.W PySem.Calls PyProof.Rows
theorem lookup_zip {names : List Str} : ∀ {vs : List Value} {k : Nat} {nm : Str} {v : Value}, names.Nodup → names[k]? = some nm → vs[k]? = some v → (names.zip vs).lookup nm = some v := by
 induction names with
 | nil => intro vs k nm v _ h; simp at h
 | cons n r ih =>
  intro vs k nm v nd h1 h2
  rw [List.nodup_cons] at nd
  cases vs with
  | nil => simp at h2
  | cons x xs =>
   cases k with
   | zero => simp at h1 h2; subst h1 h2; simp
   | succ k =>
    simp only [List.getElem?_cons_succ] at h1 h2
    have : (nm == n) = false := beq_eq_false_iff_ne.mpr fun q => nd.1 (q ▸ List.mem_of_getElem? h1)
    simp only [List.zip_cons_cons, List.lookup_cons, this]
    exact ih nd.2 h1 h2
theorem filterMap_zip {names : List Str} : ∀ {vs : List Value} {f : Str → Option Value}, vs.length = names.length → (∀ (k : Nat) nm v, names[k]? = some nm → vs[k]? = some v → f nm = some v) → names.filterMap (fun n => (f n).map (n, ·)) = names.zip vs := by
 induction names with
 | nil => intro vs f _ _; simp
 | cons n r ih =>
  intro vs f h1 h2
  cases vs with
  | nil => simp at h1
  | cons x xs =>
   have e := h2 0 n x rfl rfl
   rw [List.filterMap_cons, e]
   simp only [Option.map_some, List.zip_cons_cons]
   rw [ih (by simpa using h1) fun k nm v a b => h2 (k + 1) nm v a b]
theorem ite_skip {α : Type} {c : Prop} [i : Decidable c] {A B R : α} (h : ¬c) (e : B = R) : ite c A B = R := (if_neg h).trans e
theorem drop_no (n : Nat) : List.drop n ((none : Option (Array Value)).getD #[]).toList = [] := List.drop_nil
theorem bind_core {fd : FuncData} {vs : List Value} {ns : List Str} {z : List (Str × Value)} (hn : ns = fd.params.args.map (·.arg)) (h1 : fd.params.posonlyargs = []) (h2 : fd.params.kwonlyargs = []) (h3 : fd.params.vararg = none) (h4 : fd.params.kwarg = none) (h5 : fd.defaults = .none)
  (hl : ¬ ns.length < vs.length) (mis : (ns.take ns.length).filter (fun n => ((ns.zip vs).lookup n).isNone) = []) (fm : ns.filterMap (fun n => ((ns.zip vs).lookup n).map (n, ·)) = z) : bindArgs fd ⟨vs, []⟩ = pure z := by
 obtain ⟨name, qual, ⟨po, args, va, ko, kwd, ka, df⟩, body, scope, g, clo, dd, kd⟩ := fd
 dsimp only at hn h1 h2 h3 h4 h5
 subst h1 h2 h3 h4 h5 hn
 refine ite_skip (c := (decide (vs.length > (([] : List Str) ++ args.map Arg.arg).length) && (none : Option Arg).isNone) = true) (fun q => ?_) ?_
 ·exact hl (of_decide_eq_true (Bool.and_eq_true_iff.mp q).1)
 ·rw [drop_no]
  refine ite_skip (c := (!List.isEmpty _) = true) (fun q => ?_) ?_
  ·exact Bool.false_ne_true ((congrArg (fun l => !List.isEmpty l) mis).symm.trans q)
  ·rw [List.zip_nil_right]
   exact congrArg (pure (f := Sem)) ((congrArg (fun l => List.filterMap _ l) (List.append_nil _)).trans fm)
theorem bind_plain {fd : FuncData} {vs : List Value} (h1 : fd.params.posonlyargs = []) (h2 : fd.params.kwonlyargs = []) (h3 : fd.params.vararg = none) (h4 : fd.params.kwarg = none) (h5 : fd.defaults = .none)
  (nd : (fd.params.args.map (·.arg)).Nodup) (hl : vs.length = (fd.params.args.map (·.arg)).length) : bindArgs fd ⟨vs, []⟩ = pure ((fd.params.args.map (·.arg)).zip vs) := by
 generalize hn : fd.params.args.map (·.arg) = ns at nd hl ⊢
 have look : ∀ k nm v, ns[k]? = some nm → vs[k]? = some v → (ns.zip vs).lookup nm = some v := fun k nm v a b => lookup_zip nd a b
 refine bind_core hn.symm h1 h2 h3 h4 h5 (fun q => absurd hl (Nat.ne_of_gt q)) ?_ (filterMap_zip (f := fun n => (ns.zip vs).lookup n) hl look)
 rw [List.filter_eq_nil_iff]
 intro nm hm
 rw [List.take_length] at hm
 obtain ⟨k, hk⟩ := List.getElem?_of_mem hm
 have hk' := (List.getElem?_eq_some_iff.mp hk).1
 rw [← hl] at hk'
 rw [look k nm vs[k] hk (List.getElem?_eq_getElem hk')]
 exact Bool.false_ne_true
noncomputable def vIs : V → Value → Bool
 | .none, .none => true
 | .bool b, .bool b' => b == b'
 | .int i, .int j _ => decide (i = j)
 | .str s, .str s' _ => decide (s = s') && okS s
 | _, _ => false
theorem vIs_vr {v : V} {x : Value} (h : vIs v x = true) (ρ : List Addr) : VR ρ v x := by
 cases v with
 | none => cases x <;> first | rfl | exact (Bool.false_ne_true h).elim
 | bool b => cases x <;> first | exact (Bool.false_ne_true h).elim | (have := beq_iff_eq.mp h; subst this; rfl)
 | int i => cases x <;> first | exact (Bool.false_ne_true h).elim | (have := of_decide_eq_true h; subst this; exact ⟨_, rfl⟩)
 | str s =>
  cases x with
  | str s' o =>
   have h : (decide (s = s') && okS s) = true := h
   simp only [Bool.and_eq_true, decide_eq_true_eq] at h
   obtain ⟨rfl, h2⟩ := h; exact ⟨_, rfl, h2⟩
  | _ => exact (Bool.false_ne_true h).elim
 | _ => exact (Bool.false_ne_true h).elim
noncomputable def isRef (x : Option (Option Value)) (A : Addr) : Bool := decide (x = some (some (.ref A)))
theorem isRef_eq {x : Option (Option Value)} {A : Addr} (h : isRef x A = true) : x = some (some (.ref A)) := of_decide_eq_true h
noncomputable def isNo {α : Type} (x : Option (Option α)) : Bool := match x with
 | some none => true
 | some (some _) => false
 | none => false
theorem isNo_eq {α : Type} {x : Option (Option α)} (h : isNo x = true) : x = some none := by
 rcases x with _ | _ | _
 ·exact (Bool.false_ne_true h).elim
 ·rfl
 ·exact (Bool.false_ne_true h).elim
noncomputable def isBi (x : Option (Option Value)) (id : String) : Bool := decide (x = some (some (.builtin id)))
theorem isBi_eq {x : Option (Option Value)} {id : String} (h : isBi x id = true) : x = some (some (.builtin id)) := of_decide_eq_true h
noncomputable def isTy (x : Option Value) (id : String) : Bool := decide (x = some (.type id))
theorem isTy_eq {x : Option Value} {id : String} (h : isTy x id = true) : x = some (.type id) := of_decide_eq_true h
set_option backward.match.sparseCases true in
noncomputable def nsObOk (o : Obj) : Bool := match o.data with
 | .dict es _ => es.all (fun e => match e.key with | .str _ _ => true | _ => false) && (nsFind es "__init__").isNone
 | _ => false
set_option backward.match.sparseCases true in
theorem ns_of {K : Frag} {h : Heap} {N : Addr} (X : K.In h) (e : onO (K.lookup N) nsObOk = true) : ∃ mN, h.Ns N mN ∧ mN "__init__" = none := by
 obtain ⟨o, hk, e⟩ := onO_eq e
 have ho := X _ _ hk
 unfold nsObOk at e
 cases hd : o.data with
 | dict es n =>
  rw [hd] at e
  obtain ⟨e1, e2⟩ := and_t e
  refine ⟨h.nsMap N, .of_isNs ?_, ?_⟩
  ·unfold Heap.isNs; rw [ho]; dsimp only; rw [hd]; exact e1
  ·unfold Heap.nsMap; rw [ho]; dsimp only; rw [hd]; exact Option.isNone_iff_eq_none.mp e2
 | _ => rw [hd] at e; exact (Bool.false_ne_true e).elim
noncomputable def clsD (o : Obj) : Option ClassData := match o.data with
 | .cls cd => some cd
 | _ => none
theorem clsD_eq {o : Obj} {cd : ClassData} (h : clsD o = some cd) : o.data = .cls cd := by
 unfold clsD at h
 cases hd : o.data with
 | cls c => rw [hd] at h; cases h; rfl
 | _ => rw [hd] at h; cases h
noncomputable def exOne (K : Frag) (C : Addr) (bm : List Value) : Bool := onO (K.lookup C) fun o => onO (clsD o) fun cd =>
 decide (o.cls = .type "type") && (decide (cd.mro = .ref C :: bm) && (!cd.hasDel && (decide (o.slots.size = 6) && (decide (o.slots[4]? = some (some (.builtin "ValueError.__new__"))) && onO (K.lookup cd.ns) nsObOk))))
noncomputable def exIn (K : Frag) (P C : Addr) : Bool := exOne K C (if C = P then veL else .ref P :: veL) && exOne K P veL
theorem six {α : Type} : ∀ {l : List α}, l.length = 6 → ∃ a b c d e f, l = [a, b, c, d, e, f]
 | [a, b, c, d, e, f], _ => ⟨a, b, c, d, e, f, rfl⟩
theorem exc_eq {o : Obj} {cd : ClassData} {C : Addr} {bm : List Value} (hd : o.data = .cls cd) (m1 : o.cls = .type "type") (m2 : cd.mro = .ref C :: bm) (m3 : cd.hasDel = false) (m4 : o.slots.size = 6) (m5 : o.slots[4]? = some (some (.builtin "ValueError.__new__"))) :
  ∃ k0 k1 k2 k3 k5, o = excClassObj cd.name cd.qualname C cd.ns cd.bases bm cd.hasDict cd.slotNames cd.subclasses cd.abstract cd.collection o.dict k0 k1 k2 k3 k5 "ValueError.__new__" := by
 obtain ⟨c, dd, dt, ⟨l⟩⟩ := o
 obtain ⟨nm, bs, mro, ns, qn, hdc, sn, sub, ab, col, del⟩ := cd
 cases hd
 cases m1
 cases m2
 cases m3
 obtain ⟨k0, k1, k2, k3, k4, k5, rfl⟩ := six m4
 cases m5
 exact ⟨k0, k1, k2, k3, k5, rfl⟩
theorem exOne_of {K : Frag} {h : Heap} {C : Addr} {bm : List Value} (X : K.In h) (e : exOne K C bm = true) (T : OwnTail h veL bm) : ExOb h C bm := by
 obtain ⟨o, hC, e⟩ := onO_eq e
 obtain ⟨cd, hd, e⟩ := onO_eq e
 have ⟨g1, e⟩ := and_t e
 have ⟨g2, e⟩ := and_t e
 have ⟨g3, e⟩ := and_t e
 have ⟨g4, e⟩ := and_t e
 have ⟨g5, g6⟩ := and_t e
 have ⟨mN, n1, n2⟩ := ns_of X g6
 have ⟨k0, k1, k2, k3, k5, eo⟩ := exc_eq (clsD_eq hd) (dec_t g1) (dec_t g2) (not_t g3) (dec_t g4) (dec_t g5)
 exact ⟨_, _, _, _, _, _, _, _, _, _, k0, k1, k2, k3, k5, mN, (X _ _ hC).trans (congrArg some eo), n1, n2, T⟩
theorem exOb_of {K : Frag} {h : Heap} {C P : Addr} (X : K.In h) (e : exIn K P C = true) : ExOb h C (if C = P then veL else .ref P :: veL) := by
 have ⟨e1, e2⟩ := and_t e
 refine exOne_of X e1 ?_
 split
 ·exact .base
 ·obtain ⟨N, nm, q, bs, hdct, sn, sub, ab, col, dd, k0, k1, k2, k3, k5, mN, hC, hN, hni, _⟩ := exOne_of X e2 .base
  exact .own hC hN hni .base
noncomputable def ckAttr (K : Frag) (C : Addr) (nm : Str) : Bool :=
 plainGet K C nm && hasDictIn K C && isNo (findIn K (.ref C) nm) && isBi (findIn K (.ref C) "__setattr__") "object.__setattr__" && plainOver K C && isNo (takerIn K C nm)
theorem attr_ok {S : Sig} {C : Addr} {nm : Str} (h : ckAttr S.K C nm = true) : AttrOK S C nm := by
 have ⟨h, h6⟩ := and_t h
 have ⟨h, h5⟩ := and_t h
 have ⟨h, h4⟩ := and_t h
 have ⟨h, h3⟩ := and_t h
 have ⟨h1, h2⟩ := and_t h
 exact ⟨h1, h2, isNo_eq h3, isBi_eq h4, h5, isNo_eq h6⟩
noncomputable def fdOf (o : Obj) : Option FuncData := match o.data with
 | .func f => some f
 | _ => none
theorem fdOf_eq {o : Obj} {f : FuncData} (h : fdOf o = some f) : o.data = .func f := by
 unfold fdOf at h
 cases e : o.data with
 | func g => rw [e] at h; cases h; rfl
 | _ => rw [e] at h; cases h
noncomputable def stmtsOf : FuncBody → Option (List Stmt)
 | .stmts b => some b
 | _ => none
theorem stmtsOf_eq {b : FuncBody} {l : List Stmt} (h : stmtsOf b = some l) : b = .stmts l := by
 cases b <;> cases h; rfl
noncomputable def noV : Value → Bool
 | .none => true
 | _ => false
theorem noV_eq {v : Value} (h : noV v = true) : v = .none := by
 cases v with
 | none => rfl
 | _ => exact (Bool.false_ne_true h).elim
noncomputable def ckFn (N : Nam) (K : Frag) (A : Addr) (fd : FD) : Bool := onO (K.lookup A) fun o => onO (fdOf o) fun f => onO (stmtsOf f.body) fun body =>
 nil? f.params.posonlyargs && (nil? f.params.kwonlyargs && (f.params.vararg.isNone && (f.params.kwarg.isNone && (nil? f.closure && (noV f.defaults && (decide (f.globals = mainGlobals) && (decide (f.builtins = builtinsNs) &&
  (codeIn K f.code f.qualname && (!f.scope.isCoroutine && (!f.scope.isGenerator && (decide (f.scope.kind = .function) && (decide (fd.params.map (fun i => N.T[i]?) = (f.params.args.map (·.arg)).map some) &&
  (decide (f.params.args.map (·.arg)).Nodup && ((f.params.args.map (·.arg)).all (storable f.scope) && (decide ((cellsFrom 0 f.scope.names []).map (·.1)).Nodup && (f.scope.names.all (fun x => decide (x.2 ≠ .free)) && ckSs N f.scope fd.body body))))))))))))))))
theorem all2_map {T : List Str} : ∀ {ps : List Nat} {ns : List Str}, ps.map (fun i => T[i]?) = ns.map some → All2 (fun i nm => T[i]? = some nm) ps ns
 | [], [], _ => .nil
 | [], _ :: _, h => by simp at h
 | _ :: _, [], h => by simp at h
 | p :: ps, n :: ns, h => by
  simp only [List.map_cons, List.cons.injEq] at h
  exact .cons h.1 (all2_map h.2)
theorem fn_mk {f : FuncData} {body : List Stmt} (e1 : f.closure = []) (e2 : f.globals = mainGlobals) (e3 : f.builtins = builtinsNs) (e4 : f.body = .stmts body) :
  f = fnX f.name f.qualname f.params body f.scope [] f.defaults f.kwdefaults f.doc f.pyModule f.annotations f.code f.closureTuple := by
 cases f; cases e1; cases e2; cases e3; cases e4; rfl
theorem fn_ok {S : Sig} {A : Addr} {fd : FD} (h : ckFn S.nam S.K A fd = true) : FnI S A fd := by
 obtain ⟨o, hk, h⟩ := onO_eq h
 obtain ⟨f, hf, h⟩ := onO_eq h
 obtain ⟨body, hb, h⟩ := onO_eq h
 exact ⟨o, f.name, f.qualname, f.params, body, f.scope, f.defaults, f.kwdefaults, f.doc, f.pyModule, f.annotations, f.code, f.closureTuple, f.params.args.map Arg.arg,
  hk, (fdOf_eq hf).trans (congrArg _ (fn_mk (nil_eq (and_t (and_t (and_t (and_t (and_t h).2).2).2).2).1) (of_decide_eq_true (and_t (and_t (and_t (and_t (and_t (and_t (and_t h).2).2).2).2).2).2).1) (of_decide_eq_true (and_t (and_t (and_t (and_t (and_t (and_t (and_t (and_t h).2).2).2).2).2).2).2).1) (stmtsOf_eq hb))), (and_t (and_t (and_t (and_t (and_t (and_t (and_t (and_t (and_t h).2).2).2).2).2).2).2).2).1, (Bool.not_eq_true' _).mp (and_t (and_t (and_t (and_t (and_t (and_t (and_t (and_t (and_t (and_t h).2).2).2).2).2).2).2).2).2).1, (Bool.not_eq_true' _).mp (and_t (and_t (and_t (and_t (and_t (and_t (and_t (and_t (and_t (and_t (and_t h).2).2).2).2).2).2).2).2).2).2).1, of_decide_eq_true (and_t (and_t (and_t (and_t (and_t (and_t (and_t (and_t (and_t (and_t (and_t (and_t h).2).2).2).2).2).2).2).2).2).2).2).1,
  fun vs hl => bind_plain (fd := fnX f.name f.qualname f.params body f.scope [] f.defaults f.kwdefaults f.doc f.pyModule f.annotations f.code f.closureTuple) (nil_eq (and_t h).1) (nil_eq (and_t (and_t h).2).1) (Option.isNone_iff_eq_none.mp (and_t (and_t (and_t h).2).2).1) (Option.isNone_iff_eq_none.mp (and_t (and_t (and_t (and_t h).2).2).2).1) (noV_eq (and_t (and_t (and_t (and_t (and_t (and_t h).2).2).2).2).2).1) (of_decide_eq_true (and_t (and_t (and_t (and_t (and_t (and_t (and_t (and_t (and_t (and_t (and_t (and_t (and_t (and_t h).2).2).2).2).2).2).2).2).2).2).2).2).2).1) hl,
  all2_map (T := S.nam.T) (of_decide_eq_true (and_t (and_t (and_t (and_t (and_t (and_t (and_t (and_t (and_t (and_t (and_t (and_t (and_t h).2).2).2).2).2).2).2).2).2).2).2).2).1), of_decide_eq_true (and_t (and_t (and_t (and_t (and_t (and_t (and_t (and_t (and_t (and_t (and_t (and_t (and_t (and_t h).2).2).2).2).2).2).2).2).2).2).2).2).2).1, List.all_eq_true.mp (and_t (and_t (and_t (and_t (and_t (and_t (and_t (and_t (and_t (and_t (and_t (and_t (and_t (and_t (and_t h).2).2).2).2).2).2).2).2).2).2).2).2).2).2).1, of_decide_eq_true (and_t (and_t (and_t (and_t (and_t (and_t (and_t (and_t (and_t (and_t (and_t (and_t (and_t (and_t (and_t (and_t h).2).2).2).2).2).2).2).2).2).2).2).2).2).2).2).1, fun x hx => of_decide_eq_true (List.all_eq_true.mp (and_t (and_t (and_t (and_t (and_t (and_t (and_t (and_t (and_t (and_t (and_t (and_t (and_t (and_t (and_t (and_t (and_t h).2).2).2).2).2).2).2).2).2).2).2).2).2).2).2).2).1 x hx), (and_t (and_t (and_t (and_t (and_t (and_t (and_t (and_t (and_t (and_t (and_t (and_t (and_t (and_t (and_t (and_t (and_t h).2).2).2).2).2).2).2).2).2).2).2).2).2).2).2).2).2⟩
noncomputable abbrev mkSig (prog : Program) (w : World) (K : Frag) (T : List Str) (P : Prog) (clsL fnL meL exL : List (Nat × Addr)) (xP : Addr) (fz : List (Addr × Obj)) : Sig :=
 { prog := prog, w := w, K := K, T := T, P := P, cls := fun i => clsL.lookup i, fn := fun i => fnL.lookup i, me := fun i => meL.lookup i, ex := fun i => exL.lookup i, xp := xP, fz := fz, lk := [] }
noncomputable abbrev mkNam (T : List Str) (clsL fnL meL exL : List (Nat × Addr)) : Nam := ⟨T, fun i => fnL.lookup i, fun i => meL.lookup i, fun i => clsL.lookup i, fun i => exL.lookup i⟩
noncomputable def allBi : List Bi := [.len, .sorted, .list, .range, .min]
noncomputable abbrev clsK : List Nat := [0, 1, 2, 3, 4]
noncomputable def ckTop (K : Frag) (T : List Str) (P : Prog) (clsL fnL meL exL : List (Nat × Addr)) (xP : Addr) : Bool :=
 decide T.Nodup && P.attrs.all (fun n => onO T[n]? fun nm => clsL.all fun q => ckAttr K q.2 nm) &&
 P.globs.all (fun q => onO T[q.1]? fun nm => onO (nsIn K mainGlobals nm) fun y => onO y fun x => vIs q.2 x) && ([] : List Nat).isEmpty &&
 fnL.all (fun q => onO T[q.1]? fun nm => isRef (nsIn K mainGlobals nm) q.2 && keepIn K (.ref q.2)) &&
 allBi.all (fun b => isNo (nsIn K mainGlobals (biName b))) && isNo (nsIn K mainGlobals "isinstance") && clsK.all (fun k => isNo (nsIn K mainGlobals (clsName k))) &&
 meL.all (fun q => onO T[q.1]? fun nm => !P.attrs.contains q.1 && keepIn K (.ref q.2) && isFn K (.ref q.2) && clsL.all (fun r => plainGet K r.2 nm && isRef (findIn K (.ref r.2) nm) q.2)) &&
 clsL.all (fun q => onO T[q.1]? fun nm => isRef (nsIn K mainGlobals nm) q.2 && keepIn K (.ref q.2) && makesIn K q.2) &&
 (onO (meL.lookup P.init) fun fI => isTy (typeIn K (.ref fI)) "function" && clsL.all (fun r => isRef (findIn K (.ref r.2) "__init__") fI)) &&
 decide (T[idAppend]? = some ("append" : Str)) && decide (T[idPop]? = some ("pop" : Str)) && decide (T[idClear]? = some ("clear" : Str)) &&
 (exL.all (fun q => (onO T[q.1]? fun nm => isRef (nsIn K mainGlobals nm) q.2 && exIn K xP q.2) && decide (q.1 = P.xb ↔ q.2 = xP)) && decide ((exL.map (·.2)).Nodup))
noncomputable def ckFuns (K : Frag) (T : List Str) (P : Prog) (clsL fnL meL exL : List (Nat × Addr)) : Bool :=
 fnL.all (fun q => onO (P.funs.lookup q.1) fun fd => ckFn (mkNam T clsL fnL meL exL) K q.2 fd) &&
 meL.all (fun q => onO (P.meths.lookup q.1) fun fd => ckFn (mkNam T clsL fnL meL exL) K q.2 fd)
theorem snd_inj : ∀ {l : List (Nat × Addr)} {i j : Nat} {C : Addr}, (l.map (·.2)).Nodup → (i, C) ∈ l → (j, C) ∈ l → i = j
 | p :: r, i, j, C, nd, hi, hj => by
  have nd := List.nodup_cons.mp nd
  rcases List.mem_cons.mp hi with e1 | h1 <;> rcases List.mem_cons.mp hj with e2 | h2
  ·rw [← e1] at e2; exact (Prod.mk.inj e2).1.symm
  ·exact absurd (show p.2 ∈ r.map (·.2) by rw [← e1]; exact List.mem_map.mpr ⟨_, h2, rfl⟩) nd.1
  ·exact absurd (show p.2 ∈ r.map (·.2) by rw [← e2]; exact List.mem_map.mpr ⟨_, h1, rfl⟩) nd.1
  ·exact snd_inj nd.2 h1 h2
theorem mem_lookup {α : Type} : ∀ {l : List (Nat × α)} {i : Nat} {a : α}, l.lookup i = some a → (i, a) ∈ l
 | [], _, _, h => by simp at h
 | (k, b) :: r, i, a, h => by
  rw [List.lookup_cons] at h
  split at h
  ·rename_i e; cases h; rw [beq_iff_eq.mp e]; exact .head _
  ·exact .tail _ (mem_lookup h)
section
variable {prog : Program} {w : World} {K : Frag} {T : List Str} {P : Prog} {clsL fnL meL exL : List (Nat × Addr)} {xP : Addr} {fz : List (Addr × Obj)}
theorem funs_ok (h : ckFuns K T P clsL fnL meL exL = true) : FnAll (mkSig prog w K T P clsL fnL meL exL xP fz) := by
 have h := and_t h
 refine ⟨fun f A hf => ?_, fun f A hf => ?_⟩
 ·obtain ⟨fd, hfd, this⟩ := onO_eq (List.all_eq_true.mp h.1 _ (mem_lookup hf))
  exact ⟨fd, hfd, fn_ok (S := mkSig prog w K T P clsL fnL meL exL xP fz) this⟩
 ·obtain ⟨fd, hfd, this⟩ := onO_eq (List.all_eq_true.mp h.2 _ (mem_lookup hf))
  exact ⟨fd, hfd, fn_ok (S := mkSig prog w K T P clsL fnL meL exL xP fz) this⟩
theorem top_ok (h : ckTop K T P clsL fnL meL exL xP = true) : SigOK (mkSig prog w K T P clsL fnL meL exL xP fz) := by
 refine ⟨⟨of_decide_eq_true (and_t (and_t (and_t (and_t (and_t (and_t (and_t (and_t (and_t (and_t (and_t (and_t (and_t (and_t h).1).1).1).1).1).1).1).1).1).1).1).1).1).1, fun n hn => ?_⟩, fun i v hv => ?_, List.isEmpty_iff.mp (and_t (and_t (and_t (and_t (and_t (and_t (and_t (and_t (and_t (and_t (and_t (and_t h).1).1).1).1).1).1).1).1).1).1).1).2, fun i A hA => ?_, fun b => ?_, isNo_eq (and_t (and_t (and_t (and_t (and_t (and_t (and_t (and_t (and_t h).1).1).1).1).1).1).1).1).2, fun k hk => ?_, fun i A hA => ?_, fun i C hC => ?_, ?_, of_decide_eq_true (and_t (and_t (and_t (and_t h).1).1).1).2, of_decide_eq_true (and_t (and_t (and_t h).1).1).2, of_decide_eq_true (and_t (and_t h).1).2, fun i C hC => ?_, fun i j C hi hj => ?_, fun i C hC => ?_⟩
 ·obtain ⟨nm, e, this⟩ := onO_eq (List.all_eq_true.mp (and_t (and_t (and_t (and_t (and_t (and_t (and_t (and_t (and_t (and_t (and_t (and_t (and_t (and_t h).1).1).1).1).1).1).1).1).1).1).1).1).1).2 n hn)
  refine ⟨nm, e, fun k C hC => attr_ok (S := mkSig prog w K T P clsL fnL meL exL xP fz) ?_⟩
  exact (List.all_eq_true.mp this) _ (mem_lookup hC)
 ·obtain ⟨nm, e, this⟩ := onO_eq (List.all_eq_true.mp (and_t (and_t (and_t (and_t (and_t (and_t (and_t (and_t (and_t (and_t (and_t (and_t (and_t h).1).1).1).1).1).1).1).1).1).1).1).1).2 _ (mem_lookup hv))
  obtain ⟨y, e2, this⟩ := onO_eq this
  obtain ⟨x, rfl, this⟩ := onO_eq this
  exact ⟨nm, x, e, e2, vIs_vr this⟩
 ·obtain ⟨nm, e, this⟩ := onO_eq (List.all_eq_true.mp (and_t (and_t (and_t (and_t (and_t (and_t (and_t (and_t (and_t (and_t (and_t h).1).1).1).1).1).1).1).1).1).1).2 _ (mem_lookup hA))
  have this := and_t this
  exact ⟨nm, e, isRef_eq this.1, this.2⟩
 ·exact isNo_eq (List.all_eq_true.mp (and_t (and_t (and_t (and_t (and_t (and_t (and_t (and_t (and_t (and_t h).1).1).1).1).1).1).1).1).1).2 b (by cases b <;> decide))
 ·have : k ∈ clsK := by
   match k, hk with
   | 0, _ => decide
   | 1, _ => decide
   | 2, _ => decide
   | 3, _ => decide
   | 4, _ => decide
  exact isNo_eq (List.all_eq_true.mp (and_t (and_t (and_t (and_t (and_t (and_t (and_t (and_t h).1).1).1).1).1).1).1).2 k this)
 ·obtain ⟨nm, e, this⟩ := onO_eq (List.all_eq_true.mp (and_t (and_t (and_t (and_t (and_t (and_t (and_t h).1).1).1).1).1).1).2 _ (mem_lookup hA))
  have ⟨this, g4⟩ := and_t this
  have ⟨this, g3⟩ := and_t this
  have ⟨g1, g2⟩ := and_t this
  refine ⟨nm, e, fun hm => ?_, g2, g3, fun k C hC => ?_⟩
  ·have : P.attrs.contains i = true := List.contains_iff_mem.mpr hm
   rw [this] at g1; exact (Bool.false_ne_true g1).elim
  ·have := and_t (List.all_eq_true.mp g4 _ (mem_lookup hC))
   exact ⟨this.1, isRef_eq this.2⟩
 ·obtain ⟨nm, e, this⟩ := onO_eq (List.all_eq_true.mp (and_t (and_t (and_t (and_t (and_t (and_t h).1).1).1).1).1).2 _ (mem_lookup hC))
  have ⟨this, g3⟩ := and_t this
  have ⟨g1, g2⟩ := and_t this
  exact ⟨nm, e, isRef_eq g1, g2, g3⟩
 ·obtain ⟨fI, e, this⟩ := onO_eq (and_t (and_t (and_t (and_t (and_t h).1).1).1).1).2
  have this := and_t this
  exact ⟨fI, e, fun i C hC => ⟨isRef_eq (List.all_eq_true.mp this.2 _ (mem_lookup hC)), isTy_eq this.1⟩⟩
 ·have this := and_t (List.all_eq_true.mp (and_t (and_t h).2).1 _ (mem_lookup hC))
  obtain ⟨nm, e, this⟩ := onO_eq this.1
  have this := and_t this
  exact ⟨nm, e, isRef_eq this.1, fun h X => exOb_of X this.2⟩
 ·have nd : (exL.map (·.2)).Nodup := dec_t (and_t (and_t h).2).2
  exact snd_inj nd (mem_lookup hi) (mem_lookup hj)
 ·exact dec_t (and_t (List.all_eq_true.mp (and_t (and_t h).2).1 _ (mem_lookup hC))).2
end
end Mine.Internal
set_option autoImplicit false
namespace Mine.Internal
open PySem PySem.W PySem.Calls PyProof.Rows
noncomputable def noList (K : Frag) : Bool := K.all fun p => match p.2.cls with | .type s => !(s == "list") | _ => true
theorem noList_of {K : Frag} (h : noList K = true) {a : Addr} {o : Obj} (e : K.lookup a = some o) : o.cls ≠ .type "list" := by
 intro q
 have := (List.all_eq_true.mp h) (a, o) (mem_lookup e)
 dsimp only at this
 rw [q] at this
 simp at this
theorem ns_hide {h : Heap} {a A : Addr} {m : Str → Option Value} {vs : Array Value} {n : Nat} (x : h.Ns a m) (hA : h.get? A = some (W.listOf vs n)) : (hideAll h [A]).Ns a m ∧ a ≠ A := by
 obtain ⟨o, es, ep, h1, h2, h3⟩ := x
 have hne : a ≠ A := fun q => by
  subst q; rw [hA] at h1; cases h1; cases h2
 exact ⟨⟨o, es, ep, hideAll_get _ h1 (by simpa using hne), h2, h3⟩, hne⟩
theorem ints_vr {ρ : List Addr} {vs : List Value} {ns : List Int} (h : IntsAre vs ns) : All2 (VR ρ) (ns.map V.int) vs := by
 induction h with
 | nil => exact .nil
 | cons n t _ ih => exact .cons ⟨t, rfl⟩ ih
theorem law_main {prog : Program} {w : World} {K : Frag} {T : List Str} {P : Prog} {clsL fnL meL exL : List (Nat × Addr)} {xP : Addr} (hT : ckTop K T P clsL fnL meL exL xP = true) (hF : ckFuns K T P clsL fnL meL exL = true) (hN : noList K = true) (hnf : P.nf = 1)
  {lid : Nat} {fa : Addr} (hfa : fnL.lookup lid = some fa) {s₁ : Shared} (KX : K.In s₁.heap) {mg mb : Str → Option Value} (hmg : s₁.heap.Ns mainGlobals mg) (hmb : s₁.heap.Ns builtinsNs mb) (hbt : ∀ x : Str, x ≠ "__name__" → mb x = bootBuiltins x) (hlim : s₁.heap.NoLimit)
  {A : Addr} {vs : List Value} {ns : List Int} (hL : s₁.heap.get? A = some (W.listOf vs.toArray 0)) (hA : (A == sysModules) = false) (hI : IntsAre vs ns) (hlen : ns.length ≤ lim) {fuel d : Nat} (hd : d ≤ 50) {σ' : H}
  (hrun : run P fuel (d + 1) false lid [.ref 0] [.list (ns.map .int)] = some (.ok (.bool true), σ')) {R : Result → Shared → Prop}
  (hR : ∀ h' tk, (∀ b o, s₁.heap.get? b = some o → h'.get? b = some o) → R (.ok (.ret (.bool true))) { s₁ with heap := h', toks := tk }) :
  codeAny (model prog w) callerA (.call (.ref fa) ⟨[.ref A], []⟩) R s₁ := by
 let S : Sig := mkSig prog w K T P clsL fnL meL exL xP [(A, W.listOf vs.toArray 0)]
 have OK : SigOK S := top_ok hT
 have FA : FnAll S := funs_ok hF
 have HC : CallsOK S (run P fuel d) (5 * d) := run_ok (S := S) OK FA fuel d
 obtain ⟨fd, hfd, fo, name, qual, params, body, scope, dV, kV, doc, pm, an, cdv, ct, names, O⟩ := FA.1 lid fa hfa
 have e : run P fuel (d + 1) false lid [.ref 0] [.list (ns.map .int)] = (match P.funs.lookup lid with
    | none => none
    | some fd => if [V.ref 0].length = fd.params.length then
      match exs P (run P fuel d) fuel fd.body ((fd.params.zip [V.ref 0]).foldl (fun l p => l.upd p.1 p.2) (fun _ => none)) [.list (ns.map .int)] with
      | none => none
      | some (.err c, _, h₁) => some (.err c, h₁)
      | some (.ok r, _, h₁) => some (.ok (r.getD .none), h₁)
     else none) := rfl
 rw [e, hfd] at hrun
 dsimp only at hrun
 split at hrun
 ·rename_i hpl
  cases hb : exs P (run P fuel d) fuel fd.body ((fd.params.zip [V.ref 0]).foldl (fun l p => l.upd p.1 p.2) (fun _ => none)) [.list (ns.map .int)] with
  | none => rw [hb] at hrun; cases hrun
  | some p =>
   obtain ⟨rr, loc', σ₁⟩ := p
   rw [hb] at hrun
   cases rr with
   | err q => cases hrun
   | ok ov =>
    simp only [Option.some.injEq, Prod.mk.injEq, Mine.Internal.R.ok.injEq] at hrun
    obtain ⟨hov, rfl⟩ := hrun
    have hov : ov = some (.bool true) := by
     cases ov with
     | none => cases hov
     | some v => exact congrArg some hov
    subst hov
    have hl1 := O.pars.length
    have hvl : [Value.ref A].length = names.length := by rw [← hl1, ← hpl]; rfl
    refine codeAny_call_function (by decide) (KX _ _ O.look) O.data O.co O.gen rfl (codeRec_of KX O.code) (BindsTo.of_eq (s := s₁) (O.bind [.ref A] hvl) _ _ _ _ ?_)
    refine wpAny_newFunctionEnv_cells O.kind (fun x hx => ?_) fun env' he s' x => ?_
    ·have hm : x.1 ∈ names := by rw [← zip_map_fst hvl]; exact List.mem_map_of_mem hx
     have hst := O.stor x.1 hm
     unfold storable at hst
     split at hst
     ·rename_i e; exact .inl e
     ·rename_i e
      refine .inr ⟨e, ?_⟩
      obtain ⟨a, ha⟩ := lookup_of_mem (cellsFrom_has scope.names (s₁.heap.objs.size + 1) [] (.inl (PySem.mem_of_lookup e)))
      rw [ha]; rfl
     ·cases hst
    ·have he' : env' = envOfC qual scope s₁.heap.objs.size fa cdv := he
     subst he'
     refine ⟨hlim.keeps x.toInCall.keep, codeAny_func ?_⟩
     obtain ⟨h₁, tk, rfl, hk₁⟩ := x.done
     have g1 := ns_hide hmg hL
     have g2 := ns_hide hmb hL
     obtain ⟨mc, hc1, hc2⟩ := hlim
     have g3 := ns_hide hc1 hL
     have hlt := Heap.lt_size hL
     have hv0 : VR (adr [(A, W.listOf vs.toArray 0)]) (.ref 0) (.ref A) := ⟨A, rfl, rfl⟩
     have lE : Led S (hideAll s₁.heap [A]) s₁.heap.objs.size (bindL (envOfC qual scope s₁.heap.objs.size fa cdv).kindOf (names.zip [.ref A]) fun _ => none) [] [] [(A, W.listOf vs.toArray 0)] [.list (ns.map .int)] h₁ := by
      refine ⟨⟨x.toInCall.ns, fun b o q => hk₁ b o (of_hideAll _ q), Nat.le_of_eq (hideAll_size _ _)⟩, fun p hp => ?_, by simp [adr], .one ⟨vs, 0, rfl, ints_vr hI, by simpa using hlen⟩, (fun f hf => nomatch hf), ?_, fun b hb => ?_, ⟨List.prefix_rfl, by show 1 ≤ P.nf; rw [hnf]; exact Nat.le_refl _⟩, fun p hp => nomatch hp⟩
      ·simp only [List.nil_append, List.mem_singleton] at hp
       subst hp
       exact ⟨hk₁ _ _ hL, Nat.ne_of_lt hlt, hideAll_none _ (by simp)⟩
      ·obtain ⟨o, _, _, q, _⟩ := g1.1; exact ⟨o, q⟩
      ·simp [adr] at hb; subst hb; exact hA
     refine body_ok (S := S) OK HC fuel O (s := { s₁ with heap := h₁, toks := tk }) (Ar := callerA.deeper (envOfC qual scope s₁.heap.objs.size fa cdv)) (fun m cs => ?_) ⟨[], rfl⟩ hpl (.one hv0) lE x.cell x.apart (fun nm a hm => ?_) hb (fun m' os' h' tk' k l' o ho f hf => ?_) fun _ _ _ _ _ _ _ q hq => nomatch hq
     ·refine ⟨⟨?_, ?_, fun a o q => ?_, ⟨mg, mb, g1.1, g2.1, hbt⟩, ⟨mc, g3.1, hc2⟩, O.kind, rfl, rfl, rfl, _, rfl, fun e he => ?_⟩, rfl⟩
      ·show 4 + 3 + 2 * (5 * d + 2) + 200 < 9900; lia
      ·show 1 + 300 + 1 + (5 * d + 2) < 1000; lia
      ·refine hideAll_get _ (KX a o q) ?_
       simp only [List.mem_singleton]
       intro qq; subst qq
       have := KX _ _ q
       rw [hL] at this; cases this
       exact noList_of hN q rfl
      ·obtain rfl := List.mem_singleton.mp he
       exact ⟨by rw [show (envOfC qual scope s₁.heap.objs.size fa cdv).scope.kind = .function from O.kind]; exact nofun, _, rfl, .head _⟩
     ·have hlt' : s₁.heap.objs.size < a := x.above nm a hm
      refine ⟨hlt', fun p hp => ?_, (fun f hf => nomatch hf)⟩
      simp only [List.nil_append, List.mem_singleton] at hp
      subst hp
      exact Nat.lt_trans hlt hlt'
     ·cases ho
      obtain ⟨a, rfl, ha⟩ := hf
      cases ha
      refine hR h' tk' fun b ob q => ?_
      by_cases hbA : b = A
      ·subst hbA
       obtain ⟨t, ht⟩ := l'.frz.1
       have hm : (b, W.listOf vs.toArray 0) ∈ os' := by rw [← ht]; exact List.mem_append_left _ (.head _)
       rw [hL] at q; cases q
       exact (l'.news _ hm).1
      ·exact l'.fr.keep b ob (hideAll_get _ q (by simpa using hbA))
 ·cases hrun
end Mine.Internal
set_option autoImplicit false
namespace Mine.Internal
open PySem (Str PyData)
noncomputable def okR {α : Type} (Q : α → H → Prop) : Option (R α × H) → Prop
 | some (.ok a, σ) => Q a σ
 | _ => False
noncomputable def Ok {α : Type} (x : X α) (σ : H) (Q : α → H → Prop) : Prop := okR Q (x σ)
noncomputable def okL (Q : Option V → Loc → H → Prop) : Option (R (Option V) × Loc × H) → Prop
 | some (.ok a, l, σ) => Q a l σ
 | _ => False
noncomputable def OkS (x : Option (R (Option V) × Loc × H)) (Q : Option V → Loc → H → Prop) : Prop := okL Q x
theorem ok_iff {α : Type} {x : X α} {σ : H} {Q : α → H → Prop} : Ok x σ Q ↔ ∃ a σ', x σ = some (.ok a, σ') ∧ Q a σ' := by
 unfold Ok
 constructor
 ·intro h
  cases e : x σ with
  | none => rw [e] at h; exact h.elim
  | some p => obtain ⟨r, σ'⟩ := p; rw [e] at h; cases r with | ok a => exact ⟨a, σ', rfl, h⟩ | err c => exact h.elim
 ·rintro ⟨a, σ', h, q⟩; rw [h]; exact q
theorem oks_iff {x : Option (R (Option V) × Loc × H)} {Q : Option V → Loc → H → Prop} : OkS x Q ↔ ∃ r l σ', x = some (.ok r, l, σ') ∧ Q r l σ' := by
 unfold OkS
 constructor
 ·intro h
  cases x with
  | none => exact h.elim
  | some p => obtain ⟨r, l, σ'⟩ := p; cases r with | ok a => exact ⟨a, l, σ', rfl, h⟩ | err c => exact h.elim
 ·rintro ⟨a, l, σ', h, q⟩; rw [h]; exact q
noncomputable def bindK {α β : Type} (f : α → X β) (Q : β → H → Prop) : α → H → Prop := fun a σ => Ok (f a) σ Q
theorem qG {α β : Type} {f : α → X β} {Q : β → H → Prop} {a : α} {σ : H} : bindK f Q a σ = Ok (f a) σ Q := rfl
theorem qF {α β : Type} {x : X α} {f : α → X β} {σ : H} {Q : β → H → Prop} : Ok (X.bind x f) σ Q = Ok x σ (bindK f Q) := by
 unfold Ok X.bind
 cases x σ with
 | none => rfl
 | some p => obtain ⟨r, σ₁⟩ := p; cases r <;> rfl
theorem qH {α β : Type} {a : α} {f : α → X β} : X.bind (X.pure a) f = f a := rfl
theorem qI {α β : Type} {a : α} {f : α → X β} : X.bind (X.lift (some a)) f = f a := rfl
theorem qJ {α : Type} {a : α} {σ : H} {Q : α → H → Prop} : Ok (X.pure a) σ Q = Q a σ := rfl
theorem qK {α : Type} {a : α} {σ : H} {Q : α → H → Prop} : Ok (X.lift (some a)) σ Q = Q a σ := rfl
theorem ok_some {α : Type} {x : X α} {σ σ' : H} {a : α} {Q : α → H → Prop} (h : x σ = some (.ok a, σ')) : Ok x σ Q = Q a σ' := by unfold Ok; rw [h]; rfl
theorem zb {P : Prog} {C : Calls} {F : Nat} {loc : Loc} {σ : H} {Q : Option V → Loc → H → Prop} : OkS (exs P C F .nil loc σ) Q = Q none loc σ := rfl
noncomputable def andThen (P : Prog) (C : Calls) (F : Nat) (ss : Sts) (Q : Option V → Loc → H → Prop) : Option V → Loc → H → Prop := fun r l σ => match r with
 | none => OkS (exs P C F ss l σ) Q
 | some v => Q (some v) l σ
theorem qO {α β : Type} {a : α} {b : β} {l : List α} {r : List β} : (a :: l).zip (b :: r) = (a, b) :: l.zip r := rfl
theorem qP {α β : Type} {l : List α} : l.zip ([] : List β) = [] := List.zip_nil_right
theorem qQ {α β : Type} {l : List β} : ([] : List α).zip l = [] := rfl
theorem qR {α β : Type} {f : β → α → β} {b : β} {a : α} {l : List α} : (a :: l).foldl f b = l.foldl f (f b a) := rfl
theorem qS {α β : Type} {f : β → α → β} {b : β} : ([] : List α).foldl f b = b := rfl
theorem qT : (false = true) = False := Bool.false_eq_true
theorem qU : (¬False) = True := not_false_eq_true
theorem qV : (¬True) = False := not_true_eq_false
theorem qW : (!true) = false := rfl
theorem qX : (!false) = true := rfl
theorem za {P : Prog} {C : Calls} {F : Nat} {s : St} {ss : Sts} {loc : Loc} {σ : H} {Q : Option V → Loc → H → Prop} : OkS (exs P C F (.cons s ss) loc σ) Q = OkS (ex P C F s loc σ) (andThen P C F ss Q) := by
 show OkS (match ex P C F s loc σ with | some (.ok none, l₁, h₁) => exs P C F ss l₁ h₁ | r => r) Q = _
 cases ex P C F s loc σ with
 | none => rfl
 | some p =>
  obtain ⟨rr, l₁, σ₁⟩ := p
  cases rr with
  | err k => rfl
  | ok o => cases o <;> rfl
theorem zc {P : Prog} {C : Calls} {F : Nat} {ss : Sts} {Q : Option V → Loc → H → Prop} {l : Loc} {σ : H} : andThen P C F ss Q none l σ = OkS (exs P C F ss l σ) Q := rfl
theorem zd {P : Prog} {C : Calls} {F : Nat} {ss : Sts} {Q : Option V → Loc → H → Prop} {l : Loc} {σ : H} {v : V} : andThen P C F ss Q (some v) l σ = Q (some v) l σ := rfl
theorem oks_step {P : Prog} {C : Calls} {F : Nat} {t : Sts} {s : St} {ss : Sts} {loc : Loc} {σ : H} {Q : Option V → Loc → H → Prop} (h : t = .cons s ss) (k : OkS (ex P C F s loc σ) (andThen P C F ss Q)) : OkS (exs P C F t loc σ) Q := by
 subst h; exact za.mpr k
theorem then_step {P : Prog} {C : Calls} {F : Nat} {t : Sts} {s : St} {ss : Sts} {loc : Loc} {σ : H} {Q : Option V → Loc → H → Prop} (h : t = .cons s ss) (k : OkS (ex P C F s loc σ) (andThen P C F ss Q)) : andThen P C F t Q none loc σ := oks_step h k
noncomputable def onK {α : Type} (f : α → H → Option (R (Option V) × Loc × H)) (Q : Option V → Loc → H → Prop) : α → H → Prop := fun a σ => OkS (f a σ) Q
theorem oks_on {α : Type} {m : X α} {loc : Loc} {f : α → H → Option (R (Option V) × Loc × H)} {σ : H} {Q : Option V → Loc → H → Prop} : OkS (onX m loc f σ) Q = Ok m σ (onK f Q) := by
 unfold Ok onX
 cases m σ with
 | none => rfl
 | some p => obtain ⟨r, σ₁⟩ := p; cases r <;> rfl
section
variable {P : Prog} {C : Calls} {F : Nat} {loc : Loc} {σ : H} {Q : Option V → Loc → H → Prop}
noncomputable def exprK {α : Type} (loc : Loc) (Q : Option V → Loc → H → Prop) : α → H → Prop := fun _ σ => Q none loc σ
theorem zf {α : Type} {a : α} : exprK loc Q a σ = Q none loc σ := rfl
theorem ze {e : Ex} : OkS (ex P C F (.expr e) loc σ) Q = Ok (ev P C e loc) σ (exprK loc Q) := oks_on
noncomputable def varK (i : Nat) (loc : Loc) (Q : Option V → Loc → H → Prop) : V → H → Prop := fun v σ => Q none (loc.upd i v) σ
theorem zh {i : Nat} {v : V} : varK i loc Q v σ = Q none (loc.upd i v) σ := rfl
theorem zg {i : Nat} {e : Ex} : OkS (ex P C F (.asg (.var i) e) loc σ) Q = Ok (ev P C e loc) σ (varK i loc Q) := oks_on
noncomputable def attrK2 (P : Prog) (n : Nat) (v : V) (loc : Loc) (Q : Option V → Loc → H → Prop) : V → H → Prop := fun ov σ => Ok (setAttr P ov n v) σ (exprK loc Q)
theorem zk {n : Nat} {v ov : V} : attrK2 P n v loc Q ov σ = Ok (setAttr P ov n v) σ (exprK loc Q) := rfl
noncomputable def attrK (P : Prog) (C : Calls) (o : Ex) (n : Nat) (loc : Loc) (Q : Option V → Loc → H → Prop) : V → H → Prop := fun v σ => Ok (ev P C o loc) σ (attrK2 P n v loc Q)
theorem zj {o : Ex} {n : Nat} {v : V} : attrK P C o n loc Q v σ = Ok (ev P C o loc) σ (attrK2 P n v loc Q) := rfl
theorem zi {o e : Ex} {n : Nat} : OkS (ex P C F (.asg (.attr o n) e) loc σ) Q = Ok (ev P C e loc) σ (attrK P C o n loc Q) := by
 refine oks_on.trans (congrArg _ ?_); funext v σ₁; refine oks_on.trans (congrArg _ ?_); funext ov σ₂; exact oks_on
noncomputable def subK3 (P : Prog) (ov v : V) (loc : Loc) (Q : Option V → Loc → H → Prop) : V → H → Prop := fun iv σ => Ok (setItem P ov iv v) σ (exprK loc Q)
theorem zo {ov v iv : V} : subK3 P ov v loc Q iv σ = Ok (setItem P ov iv v) σ (exprK loc Q) := rfl
noncomputable def subK2 (P : Prog) (C : Calls) (i : Ex) (v : V) (loc : Loc) (Q : Option V → Loc → H → Prop) : V → H → Prop := fun ov σ => Ok (ev P C i loc) σ (subK3 P ov v loc Q)
theorem zn {i : Ex} {v ov : V} : subK2 P C i v loc Q ov σ = Ok (ev P C i loc) σ (subK3 P ov v loc Q) := rfl
noncomputable def subK (P : Prog) (C : Calls) (o i : Ex) (loc : Loc) (Q : Option V → Loc → H → Prop) : V → H → Prop := fun v σ => Ok (ev P C o loc) σ (subK2 P C i v loc Q)
theorem zm {o i : Ex} {v : V} : subK P C o i loc Q v σ = Ok (ev P C o loc) σ (subK2 P C i v loc Q) := rfl
theorem zl {o i e : Ex} : OkS (ex P C F (.asg (.sub o i) e) loc σ) Q = Ok (ev P C e loc) σ (subK P C o i loc Q) := by
 refine oks_on.trans (congrArg _ ?_); funext v σ₁; refine oks_on.trans (congrArg _ ?_); funext ov σ₂; refine oks_on.trans (congrArg _ ?_); funext iv σ₂; exact oks_on
noncomputable def iteK (P : Prog) (C : Calls) (F : Nat) (a b : Sts) (loc : Loc) (Q : Option V → Loc → H → Prop) : Bool → H → Prop := fun t σ => bif t then OkS (exs P C F a loc σ) Q else OkS (exs P C F b loc σ) Q
theorem zr {a b : Sts} : iteK P C F a b loc Q true σ = OkS (exs P C F a loc σ) Q := rfl
theorem zs {a b : Sts} : iteK P C F a b loc Q false σ = OkS (exs P C F b loc σ) Q := rfl
theorem zq {c : Ex} {a b : Sts} : OkS (ex P C F (.ite c a b) loc σ) Q = Ok (tst P C c loc (ev P C c loc)) σ (iteK P C F a b loc Q) := by
 refine oks_on.trans (congrArg _ ?_); funext t σ₁; cases t <;> rfl
noncomputable def retK (loc : Loc) (Q : Option V → Loc → H → Prop) : V → H → Prop := fun v σ => Q (some v) loc σ
theorem zu {v : V} : retK loc Q v σ = Q (some v) loc σ := rfl
theorem zt {e : Ex} : OkS (ex P C F (.ret e) loc σ) Q = Ok (ev P C e loc) σ (retK loc Q) := oks_on
theorem zv : OkS (ex P C F .ret0 loc σ) Q = Q (some .none) loc σ := rfl
end
noncomputable def runK (Q : V → H → Prop) : Option V → Loc → H → Prop := fun r _ σ => Q (r.getD .none) σ
theorem zw {Q : V → H → Prop} {v : V} {l : Loc} {σ : H} : runK Q (some v) l σ = Q v σ := rfl
theorem zx {Q : V → H → Prop} {l : Loc} {σ : H} : runK Q none l σ = Q .none σ := rfl
theorem ok_run {P : Prog} {F d f : Nat} {m : Bool} {fd : FD} {args : List V} {σ : H} {Q : V → H → Prop} (h : (if m then P.meths else P.funs).lookup f = some fd) (hl : args.length = fd.params.length) :
  Ok (run P F (d + 1) m f args) σ Q = OkS (exs P (run P F d) F fd.body ((fd.params.zip args).foldl (fun l p => l.upd p.1 p.2) (fun _ => none)) σ) (runK Q) := by
 unfold Ok run
 simp only [h, hl, if_true]
 cases exs P (run P F d) F fd.body ((fd.params.zip args).foldl (fun l p => l.upd p.1 p.2) (fun _ => none)) σ with
 | none => rfl
 | some p => obtain ⟨r, l, σ₁⟩ := p; cases r <;> rfl
/- the heap -/
theorem get_put_ne {σ : H} {a b : Nat} {o : O} (h : a ≠ b) : (H.put σ a o).get b = σ.get b := List.getElem?_set_ne h
theorem get_put_eq {σ : H} {a : Nat} {o : O} (h : a < σ.length) : (H.put σ a o).get a = some o := List.getElem?_set_self h
theorem get_push_lt {σ : H} {a : Nat} {o : O} (h : a < σ.length) : (H.push σ o).get a = σ.get a := List.getElem?_append_left h
theorem get_push_eq {σ : H} {o : O} : (H.push σ o).get σ.length = some o := List.getElem?_concat_length
theorem len_put {σ : H} {a : Nat} {o : O} : (H.put σ a o).length = σ.length := List.length_set
theorem len_push {σ : H} {o : O} : (H.push σ o).length = σ.length + 1 := List.length_append
noncomputable def methX (P : Prog) (C : Calls) (ax : X (List V)) (i : Nat) (ov : V) : X V := fun h => match kdOf ov h with
 | .inst => if i ≤ 12 then none else X.bind ax (fun vs => C true i (ov :: vs)) h
 | .list => if i = idAppend ∨ i = idPop ∨ i = idClear then X.bind ax (fun vs => listMeth P ov i vs) h else none
 | .dict => if i = idPop then X.bind ax (fun vs => dictMeth P ov i vs) h else none
 | _ => none
noncomputable def compX (tg : List Nat) (tup : Bool) (t : Loc → X Bool) (e : Loc → X V) (loc : Loc) (v : V) : X V := fun h => match iterOf v h with
 | none => none
 | some vs => X.bind (compL v tg tup t e loc h vs) (fun ws => alloc (.list ws)) h
section
variable {P : Prog} {C : Calls} {loc : Loc}
theorem qM {α : Type} {a b : α} : (bif true then a else b) = a := rfl
theorem qN {α : Type} {a b : α} : (bif false then a else b) = b := rfl
theorem qL {l : Loc} {i j : Nat} {v : V} : l.upd i v j = bif j == i then some v else l j := rfl
theorem zT : ev P C .cnone loc = X.pure .none := rfl
theorem zU {b : Bool} : ev P C (.cbool b) loc = X.pure (.bool b) := rfl
theorem zV {i : Int} : ev P C (.cint i) loc = X.pure (.int i) := rfl
theorem zW {s : Str} : ev P C (.cstr s) loc = X.pure (.str s) := rfl
theorem zX {i : Nat} : ev P C (.loc i) loc = X.lift (loc i) := rfl
noncomputable def binF (P : Prog) (C : Calls) (op : PySem.Operator) (b : Ex) (loc : Loc) : V → X V := fun x => X.bind (ev P C b loc) (binop op x)
theorem zZ {op : PySem.Operator} {b : Ex} {x : V} : binF P C op b loc x = X.bind (ev P C b loc) (binop op x) := rfl
theorem zY {op : PySem.Operator} {a b : Ex} : ev P C (.bin op a b) loc = X.bind (ev P C a loc) (binF P C op b loc) := rfl
noncomputable def notF2 : Bool → X V := fun t => X.pure (.bool (!t))
theorem z4 : notF2 false = X.pure (.bool true) := rfl
noncomputable def notF : V → X V := fun x => X.bind (truth x) notF2
theorem z3 {x : V} : notF x = X.bind (truth x) notF2 := rfl
theorem z0 {a : Ex} : ev P C (.not a) loc = X.bind (ev P C a loc) notF := rfl
theorem z9 {es : Exs} : ev P C (.band es) loc = evAnd P C es loc := rfl
noncomputable def cmpF (P : Prog) (C : Calls) (op : PySem.CmpOp) (b : Ex) (loc : Loc) : V → X V := fun x => X.bind (ev P C b loc) (cmpop P op x)
theorem qc {op : PySem.CmpOp} {b : Ex} {x : V} : cmpF P C op b loc x = X.bind (ev P C b loc) (cmpop P op x) := rfl
theorem qb {op : PySem.CmpOp} {a b : Ex} : ev P C (.cmp op a b) loc = X.bind (ev P C a loc) (cmpF P C op b loc) := rfl
noncomputable def cmpG (P : Prog) (C : Calls) (o2 : PySem.CmpOp) (c : Ex) (loc : Loc) (y r : V) : Bool → X V := fun t => bif t then X.bind (ev P C c loc) (cmpop P o2 y) else X.pure r
theorem qe {o2 : PySem.CmpOp} {c : Ex} {y r : V} : cmpG P C o2 c loc y r true = X.bind (ev P C c loc) (cmpop P o2 y) := rfl
theorem qd {o1 o2 : PySem.CmpOp} {a b c : Ex} : ev P C (.cmp2 o1 o2 a b c) loc = X.bind (ev P C a loc) fun x => X.bind (ev P C b loc) fun y => X.bind (cmpop P o1 x y) fun r => X.bind (truth r) (cmpG P C o2 c loc y r) := by
 show (X.bind _ fun x => X.bind _ fun y => X.bind _ fun r => X.bind _ fun t => _) = _
 refine congrArg _ (funext fun x => congrArg _ (funext fun y => congrArg _ (funext fun r => congrArg _ (funext fun t => ?_))))
 cases t <;> rfl
noncomputable def listF : List V → X V := fun vs => alloc (.list vs)
theorem qg {vs : List V} : listF vs = alloc (.list vs) := rfl
theorem qf {es : Exs} : ev P C (.list es) loc = X.bind (evs P C es loc) listF := rfl
noncomputable def tupF : List V → X V := fun vs => alloc (.tup vs)
theorem qi {vs : List V} : tupF vs = alloc (.tup vs) := rfl
theorem qh {es : Exs} : ev P C (.tup es) loc = X.bind (evs P C es loc) tupF := rfl
theorem qj : ev P C (.dict .nil .nil) loc = alloc (.dict []) := rfl
noncomputable def attrF (n : Nat) : V → X V := fun o => getAttr o n
theorem ql {n : Nat} {o : V} : attrF n o = getAttr o n := rfl
theorem qk {a : Ex} {n : Nat} : ev P C (.attr a n) loc = X.bind (ev P C a loc) (attrF n) := rfl
noncomputable def subF (P : Prog) (C : Calls) (i : Ex) (loc : Loc) : V → X V := fun o => X.bind (ev P C i loc) (getItem P o)
theorem qo {i : Ex} {o : V} : subF P C i loc o = X.bind (ev P C i loc) (getItem P o) := rfl
theorem qm {a i : Ex} : ev P C (.sub a i) loc = X.bind (ev P C a loc) (subF P C i loc) := rfl
noncomputable def slF2 (P : Prog) (C : Calls) (u : Ex) (loc : Loc) (o : V) : V → X V := fun l => X.bind (ev P C u loc) (getSlice o l)
theorem slF2_at {u : Ex} {o l : V} : slF2 P C u loc o l = X.bind (ev P C u loc) (getSlice o l) := rfl
noncomputable def slF (P : Prog) (C : Calls) (l u : Ex) (loc : Loc) : V → X V := fun o => X.bind (ev P C l loc) (slF2 P C u loc o)
theorem slF_at {l u : Ex} {o : V} : slF P C l u loc o = X.bind (ev P C l loc) (slF2 P C u loc o) := rfl
theorem qp {a l u : Ex} : ev P C (.slice a l u) loc = X.bind (ev P C a loc) (slF P C l u loc) := rfl
theorem qr {f : Nat} {args : Exs} : ev P C (.call f args) loc = X.bind (evs P C args loc) (C false f) := rfl
theorem qt {o : Ex} {i : Nat} {args : Exs} : ev P C (.meth o i args) loc = X.bind (ev P C o loc) (methX P C (evs P C args loc) i) := rfl
theorem qw {b : Bi} {args : Exs} : ev P C (.bi b args) loc = X.bind (evs P C args loc) (builtin b) := rfl
noncomputable def boolF : Bool → X V := fun b => X.pure (.bool b)
theorem qz {b : Bool} : boolF b = X.pure (.bool b) := rfl
noncomputable def isiF (P : Prog) (cs : List Nat) : V → X V := fun v => X.bind (isinsts P v cs) boolF
theorem qy {cs : List Nat} {v : V} : isiF P cs v = X.bind (isinsts P v cs) boolF := rfl
theorem qx {a : Ex} {cs : List Nat} : ev P C (.isi a cs) loc = X.bind (ev P C a loc) (isiF P cs) := rfl
theorem qA {elt it : Ex} {tg : List Nat} {tup : Bool} {conds : Exs} : ev P C (.comp elt tg tup it conds) loc = X.bind (ev P C it loc) (compX tg tup (tstAnd P C conds) (ev P C elt) loc) := rfl
theorem qB : evs P C .nil loc = X.pure [] := rfl
noncomputable def consF2 (v : V) : List V → X (List V) := fun vs => X.pure (v :: vs)
theorem qE {v : V} {vs : List V} : consF2 v vs = X.pure (v :: vs) := rfl
noncomputable def consF (P : Prog) (C : Calls) (es : Exs) (loc : Loc) : V → X (List V) := fun v => X.bind (evs P C es loc) (consF2 v)
theorem qD {es : Exs} {v : V} : consF P C es loc v = X.bind (evs P C es loc) (consF2 v) := rfl
theorem qC {e : Ex} {es : Exs} : evs P C (.cons e es) loc = X.bind (ev P C e loc) (consF P C es loc) := rfl
noncomputable def eandF (P : Prog) (C : Calls) (es : Exs) (loc : Loc) (v : V) : Bool → X V := fun t => bif t then evAnd P C es loc else X.pure v
theorem eandF_t {es : Exs} {v : V} : eandF P C es loc v true = evAnd P C es loc := rfl
theorem ea_one {e : Ex} : evAnd P C (.cons e .nil) loc = ev P C e loc := rfl
theorem ea_cons {e e' : Ex} {es : Exs} : evAnd P C (.cons e (.cons e' es)) loc = X.bind (ev P C e loc) fun v => X.bind (truth v) (eandF P C (.cons e' es) loc v) := by
 show (X.bind _ fun v => X.bind _ fun t => _) = _
 refine congrArg _ (funext fun v => congrArg _ (funext fun t => ?_)); cases t <;> rfl
/- tests -/
section
variable {w : X V}
noncomputable def tnotF : Bool → X Bool := fun t => X.pure (!t)
theorem zK : tnotF true = X.pure false := rfl
theorem zL : tnotF false = X.pure true := rfl
theorem zA {a : Ex} : tst P C (.not a) loc w = X.bind (tst P C a loc (ev P C a loc)) tnotF := rfl
theorem zB {es : Exs} : tst P C (.band es) loc w = tstAnd P C es loc := rfl
theorem zC {es : Exs} : tst P C (.bor es) loc w = tstOr P C es loc := rfl
theorem zE {i : Nat} : tst P C (.loc i) loc w = X.bind w truth := rfl
theorem zG {op : PySem.CmpOp} {a b : Ex} : tst P C (.cmp op a b) loc w = X.bind w truth := rfl
theorem zH {o1 o2 : PySem.CmpOp} {a b c : Ex} : tst P C (.cmp2 o1 o2 a b c) loc w = X.bind w truth := rfl
theorem zI {f : Nat} {args : Exs} : tst P C (.call f args) loc w = X.bind w truth := rfl
theorem zJ {a : Ex} {cs : List Nat} : tst P C (.isi a cs) loc w = X.bind w truth := rfl
noncomputable def andF (P : Prog) (C : Calls) (es : Exs) (loc : Loc) : Bool → X Bool := fun t => bif t then tstAnd P C es loc else X.pure false
theorem zO {es : Exs} : andF P C es loc true = tstAnd P C es loc := rfl
theorem zP {es : Exs} : andF P C es loc false = X.pure false := rfl
theorem zM : tstAnd P C .nil loc = X.pure true := rfl
theorem zN {e : Ex} {es : Exs} : tstAnd P C (.cons e es) loc = X.bind (tst P C e loc (ev P C e loc)) (andF P C es loc) := by
 show (X.bind _ fun t => _) = _
 refine congrArg _ (funext fun t => ?_); cases t <;> rfl
noncomputable def orF (P : Prog) (C : Calls) (es : Exs) (loc : Loc) : Bool → X Bool := fun t => bif t then X.pure true else tstOr P C es loc
theorem zS {es : Exs} : orF P C es loc false = tstOr P C es loc := rfl
theorem zQ : tstOr P C .nil loc = X.pure false := rfl
theorem zR {e : Ex} {es : Exs} : tstOr P C (.cons e es) loc = X.bind (tst P C e loc (ev P C e loc)) (orF P C es loc) := by
 show (X.bind _ fun t => _) = _
 refine congrArg _ (funext fun t => ?_); cases t <;> rfl
end
end
section
variable {P : Prog} {C : Calls} {σ : H} {ax : X (List V)} {Q : V → H → Prop}
theorem ok_of_eq {α : Type} {x y : X α} {Q : α → H → Prop} (h : x σ = y σ) : Ok x σ Q = Ok y σ Q := by unfold Ok; rw [h]
noncomputable def methF (C : Calls) (i : Nat) (ov : V) : List V → X V := fun vs => C true i (ov :: vs)
theorem qu {i : Nat} {ov : V} {vs : List V} : methF C i ov vs = C true i (ov :: vs) := rfl
theorem mx_inst {i p c d : Nat} {es : List (Nat × V)} (h1 : σ.get p = some (.inst c d)) (h2 : σ.get d = some (.attrs es)) (hi : 12 < i) : Ok (methX P C ax i (.ref p)) σ Q = Ok ax σ (bindK (methF C i (.ref p)) Q) := by
 rw [← qF]
 refine ok_of_eq ?_
 have hk : kdOf (.ref p) σ = .inst := by unfold kdOf; simp only [h1, h2]
 unfold methX
 rw [hk]
 exact if_neg (Nat.not_le_of_lt hi)
theorem mx_list {i a : Nat} {xs : List V} (h1 : σ.get a = some (.list xs)) (hi : i = 6 ∨ i = 7 ∨ i = 8) : Ok (methX P C ax i (.ref a)) σ Q = Ok ax σ (bindK (listMeth P (.ref a) i) Q) := by
 rw [← qF]
 refine ok_of_eq ?_
 have hk : kdOf (.ref a) σ = .list := by unfold kdOf; simp only [h1]
 unfold methX
 rw [hk]
 exact if_pos hi
theorem is7 : (7 : Nat) = 6 ∨ (7 : Nat) = 7 ∨ (7 : Nat) = 8 := .inr (.inl rfl)
theorem mx_dict {a : Nat} {es : List (V × V)} (h1 : σ.get a = some (.dict es)) : Ok (methX P C ax 7 (.ref a)) σ Q = Ok ax σ (bindK (dictMeth P (.ref a) 7) Q) := by
 rw [← qF]
 refine ok_of_eq ?_
 have hk : kdOf (.ref a) σ = .dict := by unfold kdOf; simp only [h1]
 unfold methX
 rw [hk]
 exact if_pos rfl
end
noncomputable def OkW (P : Prog) (C : Calls) (F n : Nat) (c : Ex) (b : Sts) (loc : Loc) (σ : H) (Q : Option V → Loc → H → Prop) : Prop := OkS (whileL (fun l => tst P C c l (ev P C c l)) (exs P C F b) n loc σ) Q
noncomputable def OkF (P : Prog) (C : Calls) (F : Nat) (v : V) (tg : List Nat) (tup : Bool) (b : Sts) (h₀ : H) (vs : List V) (loc : Loc) (σ : H) (Q : Option V → Loc → H → Prop) : Prop := OkS (forL v tg tup (exs P C F b) h₀ vs loc σ) Q
section
variable {P : Prog} {C : Calls} {F : Nat} {loc : Loc} {σ : H} {Q : Option V → Loc → H → Prop}
theorem s_whl {c : Ex} {b : Sts} : OkS (ex P C F (.whl c b) loc σ) Q = OkW P C F F c b loc σ Q := rfl
noncomputable def turnK (P : Prog) (C : Calls) (F n : Nat) (c : Ex) (b : Sts) (Q : Option V → Loc → H → Prop) : Option V → Loc → H → Prop := fun r l σ => match r with | none => OkW P C F n c b l σ Q | some v => Q (some v) l σ
noncomputable def whlK (P : Prog) (C : Calls) (F n : Nat) (c : Ex) (b : Sts) (loc : Loc) (Q : Option V → Loc → H → Prop) : Bool → H → Prop := fun t σ => bif t then OkS (exs P C F b loc σ) (turnK P C F n c b Q) else Q none loc σ
theorem w_step {n : Nat} {c : Ex} {b : Sts} : OkW P C F (n + 1) c b loc σ Q = Ok (tst P C c loc (ev P C c loc)) σ (whlK P C F n c b loc Q) := by
 unfold OkW Ok whileL
 cases tst P C c loc (ev P C c loc) σ with
 | none => rfl
 | some p =>
  obtain ⟨tr, σ₁⟩ := p
  cases tr with
  | err k => rfl
  | ok t =>
   cases t with
   | false => rfl
   | true =>
    show OkS (afterX (exs P C F b loc σ₁) _) Q = OkS (exs P C F b loc σ₁) _
    cases exs P C F b loc σ₁ with
    | none => rfl
    | some p₂ => obtain ⟨rr, l₂, σ₂⟩ := p₂; cases rr with
     | err k => rfl
     | ok o => cases o <;> rfl
noncomputable def forK (P : Prog) (C : Calls) (F : Nat) (tg : List Nat) (tup : Bool) (b : Sts) (loc : Loc) (Q : Option V → Loc → H → Prop) : V → H → Prop := fun v σ => ∃ vs, iterOf v σ = some vs ∧ OkF P C F v tg tup b σ vs loc σ Q
theorem zy {tg : List Nat} {tup : Bool} {b : Sts} {v : V} : forK P C F tg tup b loc Q v σ = ∃ vs, iterOf v σ = some vs ∧ OkF P C F v tg tup b σ vs loc σ Q := rfl
theorem s_for {tg : List Nat} {tup : Bool} {e : Ex} {b : Sts} : OkS (ex P C F (.for tg tup e b) loc σ) Q = Ok (ev P C e loc) σ (forK P C F tg tup b loc Q) := by
 refine oks_on.trans (congrArg _ ?_)
 funext v σ₁
 refine propext ⟨fun h => ?_, ?_⟩
 ·unfold onK at h
  dsimp only at h
  cases hi : iterOf v σ₁ with
  | none => rw [hi] at h; exact h.elim
  | some vs => rw [hi] at h; exact ⟨vs, hi, h⟩
 ·rintro ⟨vs, hi, h⟩
  unfold onK; dsimp only; rw [hi]; exact h
theorem f_nil {v : V} {tg : List Nat} {tup : Bool} {b : Sts} {h₀ : H} : OkF P C F v tg tup b h₀ [] loc σ Q = Q none loc σ := rfl
theorem f_inv {v : V} {i : Nat} {b : Sts} {h₀ : H} {vs : List V} (I : Nat → Loc → H → Prop) (h0 : I 0 loc σ)
  (step : ∀ j l s y, vs[j]? = some y → I j l s → OkS (exs P C F b (l.upd i y) s) (fun r l' s' => r = none ∧ still v h₀ s' = true ∧ I (j + 1) l' s')) (fin : ∀ l s, I vs.length l s → Q none l s) : OkF P C F v [i] false b h₀ vs loc σ Q := by
 have key : ∀ (rest : List V) (j : Nat) (l : Loc) (s : H), j ≤ vs.length → vs.drop j = rest → I j l s → OkF P C F v [i] false b h₀ rest l s Q := by
  intro rest
  induction rest with
  | nil =>
   intro j l s hle hd hI
   rw [f_nil]
   have hj : vs.length ≤ j := List.drop_eq_nil_iff.mp hd
   have hje : j = vs.length := Nat.le_antisymm hle hj
   subst hje; exact fin l s hI
  | cons y ys ih =>
   intro j l s hle hd hI
   have hj : vs[j]? = some y := by
    have : (vs.drop j)[0]? = some y := by rw [hd]; rfl
    simpa using this
   obtain ⟨r, l', s', hb, rfl, hst, hI'⟩ := oks_iff.mp (step j l s y hj hI)
   have hd' : vs.drop (j + 1) = ys := by
    have : (vs.drop j).drop 1 = ys := by rw [hd]; rfl
    simpa [Nat.add_comm] using this
   have h2 := ih (j + 1) l' s' (List.getElem?_eq_some_iff.mp hj).1 hd' hI'
   unfold OkF forL
   have hbt : bindTg [i] false y l s = some (l.upd i y) := rfl
   rw [hbt]
   dsimp only
   rw [hb]
   dsimp only [afterX]
   rw [if_pos hst]
   exact h2
 exact key vs 0 loc σ (Nat.zero_le _) rfl h0
theorem compL_pure {v : V} {i : Nat} {t : Loc → X Bool} {e : Loc → X V} {h₀ : H} (p : V → Bool) (g : V → V) (hst : still v h₀ σ = true) : ∀ vs : List V, (∀ y ∈ vs, t (loc.upd i y) σ = some (.ok (p y), σ)) → (∀ y ∈ vs, p y = true → e (loc.upd i y) σ = some (.ok (g y), σ)) →
  compL v [i] false t e loc h₀ vs σ = some (.ok ((vs.filter p).map g), σ)
 | [], _, _ => rfl
 | y :: ys, h1, h2 => by
  have ih := compL_pure p g hst ys (fun z hz => h1 z (.tail _ hz)) (fun z hz => h2 z (.tail _ hz))
  unfold compL
  have hbt : bindTg [i] false y loc σ = some (loc.upd i y) := rfl
  rw [hbt]
  dsimp only
  rw [h1 y (.head _)]
  cases hp : p y with
  | false => dsimp only; rw [if_pos hst, ih, List.filter_cons, hp]; rfl
  | true => dsimp only; rw [h2 y (.head _) hp]; dsimp only; rw [if_pos hst, ih, List.filter_cons, hp]; rfl
theorem c_pure {v : V} {i : Nat} {t : Loc → X Bool} {e : Loc → X V} {vs : List V} {Q : V → H → Prop} (p : V → Bool) (g : V → V) (hi : iterOf v σ = some vs) (h1 : ∀ y ∈ vs, t (loc.upd i y) σ = some (.ok (p y), σ)) (h2 : ∀ y ∈ vs, p y = true → e (loc.upd i y) σ = some (.ok (g y), σ))
  (hl : ((vs.filter p).map g).length ≤ lim) : Ok (compX [i] false t e loc v) σ Q = Q (.ref σ.length) (σ.push (.list ((vs.filter p).map g))) := by
 refine ok_some ?_
 unfold compX
 rw [hi]
 have hst : still v σ σ = true := by cases v <;> simp [still]
 dsimp only
 unfold X.bind
 rw [compL_pure p g hst vs h1 h2]
 dsimp only
 unfold alloc
 rw [if_pos (by simpa [okO] using hl)]
theorem ok_alloc {o : O} {Q : V → H → Prop} (h : okO o = true) : Ok (alloc o) σ Q = Q (.ref σ.length) (σ.push o) := ok_some (by unfold alloc; rw [if_pos h])
theorem ok_eq {α : Type} {x : X α} {a : α} {σ' : H} (h : Ok x σ (fun b s => b = a ∧ s = σ')) : x σ = some (.ok a, σ') := by
 obtain ⟨b, s, h', rfl, rfl⟩ := ok_iff.mp h; exact h'
theorem it_list {a : Nat} {xs : List V} (h : σ.get a = some (.list xs)) : iterOf (.ref a) σ = some xs := by unfold iterOf; simp [h]
theorem it_range {a : Nat} {n : Int} (h : σ.get a = some (.rng 0 n 1)) (h0 : 0 ≤ n) (h1 : n ≤ 1000000) : iterOf (.ref a) σ = some ((List.range n.toNat).map fun (k : Nat) => V.int (k : Int)) := by
 unfold iterOf
 simp only [h]
 have c1 : small' 0 = true := by decide
 have c2 : small' n = true := by unfold small'; simp; lia
 have c3 : small' 1 = true := by decide
 rw [c1, c2, c3, if_pos (by simp [lim]; lia)]
 congr 1
 unfold rangeList
 rw [if_pos (by decide)]
 by_cases hn : 0 < n
 ·rw [if_pos hn]
  have : ((n - 0 - 1) / 1 + 1).toNat = n.toNat := by lia
  rw [this, List.map_map]
  apply List.map_congr_left
  intro k _
  simp
 ·have : n = 0 := by lia
  subst this; rfl
theorem still_get {a : Nat} {h h' : H} (e : h'.get a = h.get a) : still (.ref a) h h' = true := by simp [still, e]
noncomputable def Ext (σ σ' : H) : Prop := ∀ a o, σ.get a = some o → σ'.get a = some o
theorem Ext.refl (σ : H) : Ext σ σ := fun _ _ h => h
theorem Ext.trans {σ σ' σ'' : H} (h : Ext σ σ') (k : Ext σ' σ'') : Ext σ σ'' := fun a o e => k a o (h a o e)
theorem Ext.push {σ σ' : H} (h : Ext σ σ') (x : O) : Ext σ (σ'.push x) := fun a o e => by rw [get_push_lt (List.getElem?_eq_some_iff.mp (h a o e)).1]; exact h a o e
theorem Ext.still {v : V} {σ σ' : H} {vs : List V} (h : Ext σ σ') (hi : iterOf v σ = some vs) : still v σ σ' = true := by
 cases v with
 | ref a =>
  refine still_get ?_
  cases e : σ.get a with
  | none => simp [iterOf, e] at hi
  | some o => exact h a o e
 | _ => rfl
end
end Mine.Internal
set_option autoImplicit false
namespace Mine.Internal.PP
open PySem Mine.Internal
noncomputable def m___init___5 : Sts := .cons (.asg (.attr (.loc 46) 51) (.cint 0)) .nil
noncomputable def m___init___4 : Sts := .cons (.asg (.attr (.loc 46) 50) (.dict .nil .nil)) m___init___5
noncomputable def m___init___3 : Sts := .cons (.asg (.attr (.loc 46) 49) (.dict .nil .nil)) m___init___4
noncomputable def m___init___2 : Sts := .cons (.asg (.attr (.loc 46) 48) (.dict .nil .nil)) m___init___3
noncomputable def m___init___1 : Sts := .cons (.asg (.attr (.loc 46) 47) (.comp .cnone [14] false (.bi .range (.cons (.glo 21) .nil)) .nil)) m___init___2
noncomputable def m___init__ : FD := ⟨[46], m___init___1⟩
noncomputable def m_need_hand : FD := ⟨[46, 52],
 (.cons (.ite (.not (.cmp2 .LtE .Lt (.cint 0) (.loc 52) (.glo 21)))
  (.cons (.rais 17 (.ofString "no such hand"))
  .nil)
  .nil)
 .nil)⟩
noncomputable def m_need_box : FD := ⟨[46, 53],
 (.cons (.ite (.cmp .NotIn (.loc 53) (.attr (.loc 46) 48))
  (.cons (.rais 20 (.ofString "no such box"))
  .nil)
  .nil)
 .nil)⟩
noncomputable def m_box_with_slot : FD := ⟨[46, 52, 54],
 (.cons (.asg (.var 53) (.sub (.attr (.loc 46) 47) (.loc 52)))
 (.cons (.ite (.cmp .Is (.loc 53) .cnone)
  (.cons (.rais 20 (.ofString "the hand holds none"))
  .nil)
  .nil)
 (.cons (.ite (.not (.cmp2 .LtE .Lt (.cint 0) (.loc 54) (.bi .len (.cons (.sub (.attr (.loc 46) 48) (.loc 53)) .nil))))
  (.cons (.rais 85 (.ofString "no such slot"))
  .nil)
  .nil)
 (.cons (.ret (.loc 53))
 .nil))))⟩
noncomputable def m_counted : FD := ⟨[46, 53],
 (.cons (.ite (.cmp .IsNot (.loc 53) .cnone)
  (.cons (.asg (.sub (.attr (.loc 46) 49) (.loc 53)) (.bin .Add (.sub (.attr (.loc 46) 49) (.loc 53)) (.cint 1)))
  .nil)
  .nil)
 .nil)⟩
noncomputable def m_let_go_5 : Sts := .cons (.ret (.loc 55)) .nil
noncomputable def m_let_go_4w_3 : Sts := .cons (.asg (.var 56) (.bin .Add (.loc 56) (.cint 1))) .nil
noncomputable def m_let_go_4w_2f_1 : Sts := .cons (.expr (.meth (.loc 46) 31 (.cons (.loc 60) (.cons (.loc 55) .nil)))) .nil
noncomputable def m_let_go_4w_2 : Sts := .cons (.for [60] false (.loc 62) m_let_go_4w_2f_1) m_let_go_4w_3
noncomputable def m_let_go_4w_1 : Sts := .cons (.asg (.var 62) (.meth (.attr (.loc 46) 48) 7 (.cons (.sub (.loc 55) (.loc 56)) .nil))) m_let_go_4w_2
noncomputable def m_let_go_4 : Sts := .cons (.whl (.cmp .Lt (.loc 56) (.bi .len (.cons (.loc 55) .nil))) m_let_go_4w_1) m_let_go_5
noncomputable def m_let_go_3 : Sts := .cons (.asg (.var 56) (.cint 0)) m_let_go_4
noncomputable def m_let_go_2 : Sts := .cons (.expr (.meth (.loc 46) 31 (.cons (.loc 53) (.cons (.loc 55) .nil)))) m_let_go_3
noncomputable def m_let_go_1 : Sts := .cons (.asg (.var 55) (.list .nil)) m_let_go_2
noncomputable def m_let_go : FD := ⟨[46, 53], m_let_go_1⟩
noncomputable def m_lighter : FD := ⟨[46, 53, 55],
 (.cons (.ite (.cmp .Is (.loc 53) .cnone)
  (.cons .ret0
  .nil)
  .nil)
 (.cons (.asg (.sub (.attr (.loc 46) 49) (.loc 53)) (.bin .Sub (.sub (.attr (.loc 46) 49) (.loc 53)) (.cint 1)))
 (.cons (.ite (.cmp .Gt (.sub (.attr (.loc 46) 49) (.loc 53)) (.cint 0))
  (.cons (.asg (.sub (.attr (.loc 46) 50) (.loc 53)) (.cbool true))
  (.cons .ret0
  .nil))
  .nil)
 (.cons (.expr (.meth (.attr (.loc 46) 49) 7 (.cons (.loc 53) .nil)))
 (.cons (.expr (.meth (.attr (.loc 46) 50) 7 (.cons (.loc 53) (.cons (.cbool false) .nil))))
 (.cons (.expr (.meth (.loc 55) 6 (.cons (.loc 53) .nil)))
 .nil))))))⟩
noncomputable def m_handed_4 : Sts := .cons (.ret (.meth (.loc 46) 30 (.cons (.loc 57) .nil))) .nil
noncomputable def m_handed_3 : Sts := .cons (.asg (.sub (.attr (.loc 46) 47) (.loc 52)) (.loc 53)) m_handed_4
noncomputable def m_handed_2 : Sts := .cons (.asg (.var 57) (.sub (.attr (.loc 46) 47) (.loc 52))) m_handed_3
noncomputable def m_handed_1 : Sts := .cons (.expr (.meth (.loc 46) 29 (.cons (.loc 53) .nil))) m_handed_2
noncomputable def m_handed : FD := ⟨[46, 52, 53], m_handed_1⟩
noncomputable def m_pointed_4 : Sts := .cons (.ret (.meth (.loc 46) 30 (.cons (.loc 57) .nil))) .nil
noncomputable def m_pointed_3 : Sts := .cons (.asg (.sub (.sub (.attr (.loc 46) 48) (.loc 58)) (.loc 54)) (.loc 53)) m_pointed_4
noncomputable def m_pointed_2 : Sts := .cons (.asg (.var 57) (.sub (.sub (.attr (.loc 46) 48) (.loc 58)) (.loc 54))) m_pointed_3
noncomputable def m_pointed_1 : Sts := .cons (.expr (.meth (.loc 46) 29 (.cons (.loc 53) .nil))) m_pointed_2
noncomputable def m_pointed : FD := ⟨[46, 58, 54, 53], m_pointed_1⟩
noncomputable def m_make_8 : Sts := .cons (.ret (.meth (.loc 46) 32 (.cons (.loc 52) (.cons (.loc 53) .nil)))) .nil
noncomputable def m_make_7 : Sts := .cons (.asg (.sub (.attr (.loc 46) 49) (.loc 53)) (.cint 0)) m_make_8
noncomputable def m_make_6 : Sts := .cons (.asg (.sub (.attr (.loc 46) 48) (.loc 53)) (.comp .cnone [14] false (.bi .range (.cons (.loc 59) .nil)) .nil)) m_make_7
noncomputable def m_make_5 : Sts := .cons (.asg (.attr (.loc 46) 51) (.bin .Add (.loc 53) (.cint 1))) m_make_6
noncomputable def m_make_4 : Sts := .cons (.asg (.var 53) (.attr (.loc 46) 51)) m_make_5
noncomputable def m_make_3a_1 : Sts := .cons (.rais 19 (.ofString "as many boxes as may be are alive")) .nil
noncomputable def m_make_3 : Sts := .cons (.ite (.cmp .Eq (.bi .len (.cons (.attr (.loc 46) 48) .nil)) (.glo 23)) m_make_3a_1 .nil) m_make_4
noncomputable def m_make_2a_1 : Sts := .cons (.rais 18 (.ofString "no such size")) .nil
noncomputable def m_make_2 : Sts := .cons (.ite (.not (.cmp2 .LtE .LtE (.cint 0) (.loc 59) (.glo 22))) m_make_2a_1 .nil) m_make_3
noncomputable def m_make_1 : Sts := .cons (.expr (.meth (.loc 46) 26 (.cons (.loc 52) .nil))) m_make_2
noncomputable def m_make : FD := ⟨[46, 52, 59], m_make_1⟩
noncomputable def m_hold : FD := ⟨[46, 52, 60],
 (.cons (.expr (.meth (.loc 46) 26 (.cons (.loc 52) .nil)))
 (.cons (.expr (.meth (.loc 46) 26 (.cons (.loc 60) .nil)))
 (.cons (.ret (.meth (.loc 46) 32 (.cons (.loc 52) (.cons (.sub (.attr (.loc 46) 47) (.loc 60)) .nil))))
 .nil)))⟩
noncomputable def m_drop : FD := ⟨[46, 52],
 (.cons (.expr (.meth (.loc 46) 26 (.cons (.loc 52) .nil)))
 (.cons (.ret (.meth (.loc 46) 32 (.cons (.loc 52) (.cons .cnone .nil))))
 .nil))⟩
noncomputable def m_put : FD := ⟨[46, 52, 54, 60],
 (.cons (.expr (.meth (.loc 46) 26 (.cons (.loc 52) .nil)))
 (.cons (.expr (.meth (.loc 46) 26 (.cons (.loc 60) .nil)))
 (.cons (.asg (.var 58) (.meth (.loc 46) 28 (.cons (.loc 52) (.cons (.loc 54) .nil))))
 (.cons (.ret (.meth (.loc 46) 33 (.cons (.loc 58) (.cons (.loc 54) (.cons (.sub (.attr (.loc 46) 47) (.loc 60)) .nil)))))
 .nil))))⟩
noncomputable def m_empty : FD := ⟨[46, 52, 54],
 (.cons (.expr (.meth (.loc 46) 26 (.cons (.loc 52) .nil)))
 (.cons (.asg (.var 58) (.meth (.loc 46) 28 (.cons (.loc 52) (.cons (.loc 54) .nil))))
 (.cons (.ret (.meth (.loc 46) 33 (.cons (.loc 58) (.cons (.loc 54) (.cons .cnone .nil)))))
 .nil)))⟩
noncomputable def m_take : FD := ⟨[46, 52, 60, 54],
 (.cons (.expr (.meth (.loc 46) 26 (.cons (.loc 52) .nil)))
 (.cons (.expr (.meth (.loc 46) 26 (.cons (.loc 60) .nil)))
 (.cons (.asg (.var 58) (.meth (.loc 46) 28 (.cons (.loc 60) (.cons (.loc 54) .nil))))
 (.cons (.ret (.meth (.loc 46) 32 (.cons (.loc 52) (.cons (.sub (.sub (.attr (.loc 46) 48) (.loc 58)) (.loc 54)) .nil))))
 .nil))))⟩
noncomputable def m_swept_4 : Sts := .cons (.asg (.attr (.loc 46) 50) (.dict .nil .nil)) .nil
noncomputable def m_swept_3f_1f_1a_1 : Sts := .cons (.asg (.sub (.attr (.loc 46) 49) (.loc 60)) (.bin .Sub (.sub (.attr (.loc 46) 49) (.loc 60)) (.cint 1))) .nil
noncomputable def m_swept_3f_1f_1 : Sts := .cons (.ite (.cmp .In (.loc 60) (.attr (.loc 46) 49)) m_swept_3f_1f_1a_1 .nil) .nil
noncomputable def m_swept_3f_1 : Sts := .cons (.for [60] false (.loc 62) m_swept_3f_1f_1) .nil
noncomputable def m_swept_3 : Sts := .cons (.for [62] false (.loc 98) m_swept_3f_1) m_swept_4
noncomputable def m_swept_2f_1 : Sts := .cons (.expr (.meth (.attr (.loc 46) 49) 7 (.cons (.loc 53) .nil))) .nil
noncomputable def m_swept_2 : Sts := .cons (.for [53] false (.loc 61) m_swept_2f_1) m_swept_3
noncomputable def m_swept_1 : Sts := .cons (.asg (.var 98) (.comp (.meth (.attr (.loc 46) 48) 7 (.cons (.loc 53) .nil)) [53] false (.loc 61) .nil)) m_swept_2
noncomputable def m_swept : FD := ⟨[46, 61], m_swept_1⟩
noncomputable def m_holds : FD := ⟨[46, 52],
 (.cons (.expr (.meth (.loc 46) 26 (.cons (.loc 52) .nil)))
 (.cons (.ret (.sub (.attr (.loc 46) 47) (.loc 52)))
 .nil))⟩
noncomputable def m_points : FD := ⟨[46, 53],
 (.cons (.expr (.meth (.loc 46) 27 (.cons (.loc 53) .nil)))
 (.cons (.ret (.bi .list (.cons (.sub (.attr (.loc 46) 48) (.loc 53)) .nil)))
 .nil))⟩
noncomputable def m_weighs : FD := ⟨[46, 53],
 (.cons (.expr (.meth (.loc 46) 27 (.cons (.loc 53) .nil)))
 (.cons (.ret (.sub (.attr (.loc 46) 49) (.loc 53)))
 .nil))⟩
noncomputable def m_alive : FD := ⟨[46],
 (.cons (.ret (.bi .sorted (.cons (.attr (.loc 46) 48) .nil)))
 .nil)⟩
noncomputable def m_suspects : FD := ⟨[46],
 (.cons (.ret (.bi .sorted (.cons (.attr (.loc 46) 50) .nil)))
 .nil)⟩
noncomputable def f__law_whole : FD := ⟨[67],
 (.cons (.ret (.band (.cons (.isi (.loc 67) [0]) (.cons (.not (.isi (.loc 67) [1])) .nil))))
 .nil)⟩
noncomputable def f__law_cell_at : FD := ⟨[70, 71],
 (.cons (.ite (.cmp .Lt (.loc 71) (.bi .len (.cons (.loc 70) .nil)))
  (.cons (.ret (.sub (.loc 70) (.loc 71)))
  .nil)
  .nil)
 (.cons (.ret (.cint 0))
 .nil))⟩
noncomputable def f__law_numbers : FD := ⟨[67, 73],
 (.cons (.ite (.bor (.cons (.not (.isi (.loc 67) [2])) (.cons (.cmp .NotEq (.bi .len (.cons (.loc 67) .nil)) (.bi .len (.cons (.loc 73) .nil))) .nil)))
  .any
  .nil)
 (.cons (.for [71] false (.bi .range (.cons (.bi .len (.cons (.loc 73) .nil)) .nil))
  (.cons (.ite (.cmp .Is (.sub (.loc 73) (.loc 71)) .cnone)
   (.cons (.ite (.cmp .IsNot (.sub (.loc 67) (.loc 71)) .cnone)
    .any
    .nil)
   .nil)
   (.cons (.ite (.bor (.cons (.not (.call 66 (.cons (.sub (.loc 67) (.loc 71)) .nil))) (.cons (.cmp .NotEq (.sub (.loc 67) (.loc 71)) (.sub (.loc 73) (.loc 71))) .nil)))
    .any
    .nil)
   .nil))
  .nil))
 (.cons (.ret (.cbool true))
 .nil)))⟩
end Mine.Internal.PP
set_option autoImplicit false
namespace Mine.Internal
open PySem (Str PyData)
theorem upd_at {l : Loc} {i : Nat} {v : V} : l.upd i v i = some v := by rw [qL, beq_self_eq_true]; rfl
theorem upd_no {l : Loc} {i j : Nat} {v : V} (h : j ≠ i) : l.upd i v j = l j := by rw [qL, beq_eq_false_iff_ne.mpr h]; rfl
section
variable {P : Prog} {σ : H}
theorem ok_getAttr {p d n : Nat} {c : Nat} {es : List (Nat × V)} {v : V} {Q : V → H → Prop} (h1 : σ.get p = some (.inst c d)) (h2 : σ.get d = some (.attrs es)) (h3 : aget es n = some v) : Ok (getAttr (.ref p) n) σ Q = Q v σ :=
 ok_some (by unfold getAttr; simp [h1, h2, h3])
theorem ok_is {a : V} {Q : V → H → Prop} : Ok (cmpop P .Is a .none) σ Q = Q (.bool (decide (a = .none))) σ := rfl
theorem ok_isNot {a : V} {Q : V → H → Prop} : Ok (cmpop P .IsNot a .none) σ Q = Q (.bool (decide (a ≠ .none))) σ := rfl
theorem ok_gt {a b : Int} {Q : V → H → Prop} : Ok (cmpop P .Gt (.int a) (.int b)) σ Q = Q (.bool (decide (a > b))) σ := rfl
theorem ok_lt {a b : Int} {Q : V → H → Prop} : Ok (cmpop P .Lt (.int a) (.int b)) σ Q = Q (.bool (decide (a < b))) σ := rfl
theorem ok_le {a b : Int} {Q : V → H → Prop} : Ok (cmpop P .LtE (.int a) (.int b)) σ Q = Q (.bool (decide (a ≤ b))) σ := rfl
theorem eqv_int {a b : Int} : PyData.eqv (.int a) (.int b) = decide (a = b) := rfl
theorem ok_eqI {a b : Int} {Q : V → H → Prop} : Ok (cmpop P .Eq (.int a) (.int b)) σ Q = Q (.bool (decide (a = b))) σ := ok_some (by
 show some (R.ok (V.bool (PyData.eqv (.int a) (.int b))), σ) = _
 rw [eqv_int])
theorem ok_neI {a b : Int} {Q : V → H → Prop} : Ok (cmpop P .NotEq (.int a) (.int b)) σ Q = Q (.bool (!decide (a = b))) σ := ok_some (by
 show some (R.ok (V.bool (!PyData.eqv (.int a) (.int b))), σ) = _
 rw [eqv_int])
theorem ok_truthb {b : Bool} {Q : Bool → H → Prop} : Ok (truth (.bool b)) σ Q = Q b σ := rfl
theorem ok_add {a b : Int} {Q : V → H → Prop} : Ok (binop .Add (.int a) (.int b)) σ Q = Q (.int (a + b)) σ := rfl
theorem ok_sub {a b : Int} {Q : V → H → Prop} : Ok (binop .Sub (.int a) (.int b)) σ Q = Q (.int (a - b)) σ := rfl
theorem ok_getDict {a : Nat} {es : List (V × V)} {k v : V} {Q : V → H → Prop} (h1 : σ.get a = some (.dict es)) (hk : isKey k = true) (h3 : dget es k = some v) : Ok (getItem P (.ref a) k) σ Q = Q v σ :=
 ok_some (by unfold getItem; cases k <;> simp_all [isKey])
theorem ok_getList {a : Nat} {xs : List V} {k : Int} {v : V} {Q : V → H → Prop} (h1 : σ.get a = some (.list xs)) (hk : 0 ≤ k) (h3 : xs[k.toNat]? = some v) : Ok (getItem P (.ref a) (.int k)) σ Q = Q v σ := by
 refine ok_some ?_
 have : k < xs.length := by have := (List.getElem?_eq_some_iff.mp h3).1; lia
 unfold getItem idx; simp only [h1, hk, this, and_self, if_true, Option.bind_some, h3, Option.map_some]
theorem ok_getTup {a : Nat} {xs : List V} {k : Int} {v : V} {Q : V → H → Prop} (h1 : σ.get a = some (.tup xs)) (hk : 0 ≤ k) (h3 : xs[k.toNat]? = some v) : Ok (getItem P (.ref a) (.int k)) σ Q = Q v σ := by
 refine ok_some ?_
 have : k < xs.length := by have := (List.getElem?_eq_some_iff.mp h3).1; lia
 unfold getItem idx; simp only [h1, hk, this, and_self, if_true, Option.bind_some, h3, Option.map_some]
theorem getM_of {a : Nat} {o : O} (h1 : σ.get a = some o) (ha : P.nf ≤ a) : σ.getM P a = some o := by unfold H.getM; rw [if_pos ha]; exact h1
theorem ok_setDict {a : Nat} {es : List (V × V)} {k v : V} {Q : Unit → H → Prop} (h1 : σ.get a = some (.dict es)) (ha : P.nf ≤ a) (hk : isKey k = true) (h3 : (dset es k v).length ≤ lim) : Ok (setItem P (.ref a) k v) σ Q = Q () (σ.put a (.dict (dset es k v))) :=
 ok_some (by
  have := getM_of h1 ha
  unfold setItem; cases k <;> simp_all [isKey, okO])
theorem ok_setList {a : Nat} {xs : List V} {k : Int} {v : V} {Q : Unit → H → Prop} (h1 : σ.get a = some (.list xs)) (ha : P.nf ≤ a) (hk : 0 ≤ k) (h3 : k < xs.length) : Ok (setItem P (.ref a) (.int k) v) σ Q = Q () (σ.put a (.list (xs.set k.toNat v))) :=
 ok_some (by
  have := getM_of h1 ha
  unfold setItem idx; simp [this, hk, h3])
theorem ok_append {a : Nat} {xs : List V} {v : V} {Q : V → H → Prop} (h1 : σ.get a = some (.list xs)) (ha : P.nf ≤ a) (h3 : (xs ++ [v]).length ≤ lim) : Ok (listMeth P (.ref a) 6 [v]) σ Q = Q .none (σ.put a (.list (xs ++ [v]))) :=
 ok_some (by
  have := getM_of h1 ha
  unfold listMeth; simp only [this]
  show grow a (.list (xs ++ [v])) .none σ = _
  unfold grow; rw [if_pos (by simpa [okO] using h3)])
theorem ok_setAttr {p d n : Nat} {c : Nat} {es : List (Nat × V)} {v : V} {Q : Unit → H → Prop} (h1 : σ.get p = some (.inst c d)) (h2 : σ.get d = some (.attrs es)) (hd : P.nf ≤ d) (ha : P.attrs.contains n = true) (hl : (aset es n v).length ≤ 100) : Ok (setAttr P (.ref p) n v) σ Q = Q () (σ.put d (.attrs (aset es n v))) :=
 ok_some (by
  have : σ.getM P d = some (.attrs es) := by unfold H.getM; rw [if_pos hd]; exact h2
  unfold setAttr; simp only [h1, this]; rw [if_pos (by rw [ha]; simpa using hl)])
theorem ok_lenL {a : Nat} {xs : List V} {Q : V → H → Prop} (h : σ.get a = some (.list xs)) : Ok (builtin .len [.ref a]) σ Q = Q (.int xs.length) σ := ok_some (by show biLen (.ref a) σ = _; unfold biLen; simp [h])
theorem ok_lenD {a : Nat} {xs : List (V × V)} {Q : V → H → Prop} (h : σ.get a = some (.dict xs)) : Ok (builtin .len [.ref a]) σ Q = Q (.int xs.length) σ := ok_some (by show biLen (.ref a) σ = _; unfold biLen; simp [h])
theorem ok_range1 {n : Int} {Q : V → H → Prop} : Ok (builtin .range [.int n]) σ Q = Q (.ref σ.length) (σ.push (.rng 0 n 1)) := rfl
theorem ok_sortedD {a : Nat} {es : List (V × V)} {ns : List Int} {Q : V → H → Prop} (h1 : σ.get a = some (.dict es)) (h2 : intsOf (es.map (·.1)) = some ns) (h3 : ns.length < 64) : Ok (builtin .sorted [.ref a]) σ Q = Q (.ref σ.length) (σ.push (.list ((sortI ns).map .int))) := ok_some (by
 show biSorted (.ref a) σ = _; simp [biSorted, onRef, sortedI, h1, h2, h3])
theorem ok_listL {a : Nat} {xs : List V} {Q : V → H → Prop} (h1 : σ.get a = some (.list xs)) (hl : xs.length ≤ lim) : Ok (builtin .list [.ref a]) σ Q = Q (.ref σ.length) (σ.push (.list xs)) := ok_some (by
 show biList (.ref a) σ = _; simp only [biList, onRef, h1]; unfold alloc; rw [if_pos (by simpa [okO] using hl)])
theorem ok_notInD {a : Nat} {es : List (V × V)} {k : V} {Q : V → H → Prop} (h1 : σ.get a = some (.dict es)) (hk : isKey k = true) : Ok (cmpop P .NotIn k (.ref a)) σ Q = Q (.bool (!(dget es k).isSome)) σ := ok_some (by
 unfold cmpop contains X.bind; simp [h1, hk, X.pure])
theorem ok_dpop1 {a : Nat} {es : List (V × V)} {k v : V} {Q : V → H → Prop} (h1 : σ.get a = some (.dict es)) (ha : P.nf ≤ a) (hk : isKey k = true) (h3 : dget es k = some v) : Ok (dictMeth P (.ref a) 7 [k]) σ Q = Q v (σ.put a (.dict (ddel es k))) :=
 ok_some (by
  have := getM_of h1 ha
  unfold dictMeth; simp [this, hk, h3, idPop])
theorem ok_dpop2 {a : Nat} {es : List (V × V)} {k d : V} {Q : V → H → Prop} (h1 : σ.get a = some (.dict es)) (ha : P.nf ≤ a) (hk : isKey k = true) (h3 : dget es k = none) : Ok (dictMeth P (.ref a) 7 [k, d]) σ Q = Q d σ :=
 ok_some (by
  have := getM_of h1 ha
  unfold dictMeth; simp [this, hk, h3, idPop])
theorem put_same {a : Nat} {o : O} (h : σ.get a = some o) : σ.put a o = σ := by
 unfold H.put H.get at *
 apply List.ext_getElem?
 intro i
 rw [List.getElem?_set]
 split
 ·rename_i e; subst e; split
  ·exact h.symm
  ·rename_i hl; exact absurd (List.getElem?_eq_some_iff.mp h).1 hl
 ·rfl
end
theorem ddel_none {es : List (V × V)} {k : V} (h : dget es k = none) : ddel es k = es := by
 induction es with
 | nil => rfl
 | cons p r ih =>
  obtain ⟨a, b⟩ := p
  simp only [dget, ddel] at h ⊢
  split at h
  ·cases h
  ·rename_i e; rw [if_neg e, ih h]
theorem ok_dpopD {P : Prog} {σ : H} {a : Nat} {es : List (V × V)} {k d : V} {Q : V → H → Prop} (h1 : σ.get a = some (.dict es)) (ha : P.nf ≤ a) (hk : isKey k = true) (h : ∀ v, Q v (σ.put a (.dict (ddel es k)))) : Ok (dictMeth P (.ref a) 7 [k, d]) σ Q := by
 cases hd : dget es k with
 | none =>
  rw [ok_dpop2 h1 ha hk hd]
  have := h d
  rwa [ddel_none hd, put_same h1] at this
 | some v =>
  refine (ok_some (σ' := σ.put a (.dict (ddel es k))) (a := v) ?_).mpr (h v)
  have := getM_of h1 ha
  unfold dictMeth; simp [this, hk, hd, idPop]
noncomputable def ov : Option Nat → V
 | none => .none
 | some k => .int (k : Int)
theorem get_lt {σ : H} {a : Nat} {o : O} (h : σ.get a = some o) : a < σ.length := (List.getElem?_eq_some_iff.mp h).1
structure LawP (P : Prog) : Prop where
 f66 : P.funs.lookup 66 = some PP.f__law_whole
 f69 : P.funs.lookup 69 = some PP.f__law_cell_at
 f72 : P.funs.lookup 72 = some PP.f__law_numbers
section
variable {P : Prog} {σ : H}
theorem ok_isi {x : V} {k : Nat} {b : Bool} {Q : Bool → H → Prop} (h : isinsts P x [k] σ = some (.ok b, σ)) : Ok (isinsts P x [k]) σ Q = Q b σ := ok_some h
theorem isi_int {i : Int} : isinsts P (.int i) [0] σ = some (.ok true, σ) := rfl
theorem isi_intb {i : Int} : isinsts P (.int i) [1] σ = some (.ok false, σ) := rfl
theorem isi_list {a : Nat} {xs : List V} (h : σ.get a = some (.list xs)) : isinsts P (.ref a) [2] σ = some (.ok true, σ) := by
 show (if 2 ≤ 4 then isinst P (.ref a) 2 else X.none) σ = _
 rw [if_pos (by decide)]
 unfold isinst; simp [h, idList]
theorem whole_ok (hL : LawP P) {d : Nat} {i : Int} {Q : V → H → Prop} (h : Q (.bool true) σ) : Ok (run P 1000 (d + 1) false 66 [.int i]) σ Q := by
 rw [ok_run (fd := PP.f__law_whole) hL.f66 rfl]
 simp (disch := decide) only [PP.f__law_whole, ea_cons, ea_one, eandF_t, ok_isi isi_int, ok_isi isi_intb, ok_truthb, za, zd, zt, zu, zw, zX, z0, z3, z4, z9, qx, qy, qz, qF, qG, qI, qJ, List.zip_cons_cons, List.zip_nil_right, List.foldl_cons, List.foldl_nil, qL, Nat.reduceBEq, qM]
 exact h
theorem rng_at {n : Int} {j : Nat} {y : V} (h : ((List.range n.toNat).map fun (k : Nat) => V.int (k : Int))[j]? = some y) : (j : Int) < n ∧ y = .int (j : Int) := by
 rw [List.getElem?_map] at h
 obtain ⟨q, hq, rfl⟩ := Option.map_eq_some_iff.mp h
 obtain ⟨q1, q2⟩ := List.getElem?_eq_some_iff.mp hq
 simp at q1 q2
 subst q2
 exact ⟨by lia, rfl⟩
theorem numbers_ok (hL : LawP P) {d a b : Nat} {xs : List V} {Q : V → H → Prop} (ha : σ.get a = some (.list xs)) (hb : σ.get b = some (.list xs)) (hx : ∀ x ∈ xs, x = V.none ∨ ∃ i, x = V.int i) (hl : xs.length ≤ 1000) (h : Q (.bool true) (σ.push (.rng 0 xs.length 1))) :
  Ok (run P 1000 (d + 2) false 72 [.ref a, .ref b]) σ Q := by
 have alt := get_lt ha
 have blt := get_lt hb
 rw [ok_run (fd := PP.f__law_numbers) hL.f72 rfl]
 simp (disch := decide) only [PP.f__law_numbers, ok_isi (isi_list ha), ok_truthb, ok_lenL ha, ok_lenL hb, ok_neI, ok_range1, s_for, za, zb, zc, zq, zs, zy, zA, zC, zG, zJ, zK, zQ, zR, zS, zX, z0, qb, qc, qw, qx, qy, qz, qB, qC, qD, qE, qF, qG, qH, qI, qJ, List.zip_cons_cons, List.zip_nil_right, List.foldl_cons, List.foldl_nil, qL, Nat.reduceBEq, qM, qN, decide_true, Bool.not_true]
 have ha1 : (σ.push (.rng 0 xs.length 1)).get a = some (.list xs) := by rw [get_push_lt alt]; exact ha
 have hb1 : (σ.push (.rng 0 xs.length 1)).get b = some (.list xs) := by rw [get_push_lt blt]; exact hb
 refine ⟨_, it_range get_push_eq (by lia) (by lia), f_inv (fun _ l s => s = σ.push (.rng 0 xs.length 1) ∧ l 67 = some (.ref a) ∧ l 73 = some (.ref b)) ⟨rfl, rfl, rfl⟩ (fun j l s y hy ⟨e, e1, e2⟩ => ?_) fun l s ⟨e, e1, e2⟩ => ?_⟩
 ·subst e
  have hj := rng_at hy
  obtain ⟨hj, rfl⟩ := hj
  have hj : j < xs.length := by lia
  have hg : xs[(j : Int).toNat]? = some xs[j] := by simp
  rcases hx xs[j] (List.getElem_mem hj) with hn | ⟨i, hi⟩
  ·rw [hn] at hg
   simp (disch := decide) only [e1, e2, ok_getList hb1 (Int.natCast_nonneg j) hg, ok_getList ha1 (Int.natCast_nonneg j) hg, ok_is, ok_isNot, ok_truthb, za, zb, zc, zq, zr, zs, zG, zT, zX, qb, qc, qm, qo, qF, qG, qH, qI, qL, Nat.reduceBEq, qM, qN, ne_eq, not_true_eq_false, decide_true, decide_false]
   exact ⟨trivial, still_get rfl, trivial, trivial, trivial⟩
  ·rw [hi] at hg
   simp (disch := decide) only [e1, e2, ok_getList hb1 (Int.natCast_nonneg j) hg, ok_getList ha1 (Int.natCast_nonneg j) hg, ok_is, ok_truthb, za, zq, zs, zA, zC, zG, zI, zR, zT, zX, z0, qb, qc, qm, qo, qr, qB, qC, qD, qE, qF, qG, qH, qI, qJ, qL, Nat.reduceBEq, qM, qN, reduceCtorEq, decide_false]
   refine whole_ok hL ?_
   simp (disch := decide) only [e1, e2, ok_getList hb1 (Int.natCast_nonneg j) hg, ok_getList ha1 (Int.natCast_nonneg j) hg, ok_neI, ok_truthb, zb, zc, zs, zG, zK, zQ, zR, zS, zX, qb, qc, qm, qo, qF, qG, qI, qJ, qL, Nat.reduceBEq, qM, qN, decide_true, Bool.not_true]
   exact ⟨trivial, still_get rfl, trivial, trivial, trivial⟩
 ·subst e
  simp (disch := decide) only [za, zc, zd, zt, zu, zw, zU, qJ]
  exact h
noncomputable def cellAt (ns : List Int) (k : Nat) : Int := (ns[k]?).getD 0
theorem cell_ok (hL : LawP P) {d k : Nat} {ns : List Int} {Q : V → H → Prop} (hz : σ.get 0 = some (.list (ns.map .int))) (h : Q (.int (cellAt ns k)) σ) : Ok (run P 1000 (d + 1) false 69 [.ref 0, .int (k : Int)]) σ Q := by
 rw [ok_run (fd := PP.f__law_cell_at) hL.f69 rfl]
 by_cases hk : k < ns.length
 ·have hlt : (k : Int) < ((ns.map V.int).length : Int) := by rw [List.length_map]; lia
  have hg : (ns.map V.int)[((k : Int)).toNat]? = some (.int (cellAt ns k)) := by simp [cellAt, hk]
  simp (disch := decide) only [PP.f__law_cell_at, ok_lenL hz, ok_lt, hlt, ok_truthb, ok_getList hz (Int.natCast_nonneg _) hg, za, zd, zq, zr, zt, zu, zw, zG, zX, qb, qc, qm, qo, qw, qB, qC, qD, qE, qF, qG, qH, qI, List.zip_cons_cons, List.zip_nil_right, List.foldl_cons, List.foldl_nil, qL, Nat.reduceBEq, qM, qN, decide_true]
  exact h
 ·have hlt : ¬ ((k : Int) < ((ns.map V.int).length : Int)) := by rw [List.length_map]; lia
  have hg : cellAt ns k = 0 := by unfold cellAt; rw [List.getElem?_eq_none (by lia)]; rfl
  rw [hg] at h
  simp (disch := decide) only [PP.f__law_cell_at, ok_lenL hz, ok_lt, hlt, ok_truthb, za, zb, zc, zd, zq, zs, zt, zu, zw, zG, zV, zX, qb, qc, qw, qB, qC, qD, qE, qF, qG, qH, qI, qJ, List.zip_cons_cons, List.zip_nil_right, List.foldl_cons, List.foldl_nil, qL, Nat.reduceBEq, qM, qN, decide_false]
  exact h
theorem ok_mod {a b : Int} {Q : V → H → Prop} (h : b ≠ 0) : Ok (binop .Mod (.int a) (.int b)) σ Q = Q (.int (Int.fmod a b)) σ := ok_some (by simp [binop, twoInts, onInt, h])
theorem ok_div {a b : Int} {Q : V → H → Prop} (h : b ≠ 0) (hs : small b = true) : Ok (binop .FloorDiv (.int a) (.int b)) σ Q = Q (.int (Int.fdiv a b)) σ := ok_some (by simp [binop, twoInts, onInt, h, hs])
theorem fmod_range {a b : Int} (h : 0 < b) : 0 ≤ Int.fmod a b ∧ Int.fmod a b < b := ⟨Int.fmod_nonneg_of_pos _ h, Int.fmod_lt_of_pos _ h⟩
theorem fmod_nat {a b : Int} (h : 0 < b) : ∃ k : Nat, Int.fmod a b = (k : Int) ∧ (k : Int) < b := by
 obtain ⟨h1, h2⟩ := fmod_range (a := a) h
 exact ⟨(Int.fmod a b).toNat, by lia, by lia⟩
end
end Mine.Internal
set_option autoImplicit false
namespace Mine.Internal.L09
open PySem Mine.Internal
noncomputable def f_reached_5 : Sts := .cons (.ret (.bi .sorted (.cons (.loc 101) .nil))) .nil
noncomputable def f_reached_4w_2a_2f_1a_1 : Sts := .cons (.expr (.meth (.loc 102) 6 (.cons (.loc 60) .nil))) .nil
noncomputable def f_reached_4w_2a_2f_1 : Sts := .cons (.ite (.cmp .IsNot (.loc 60) .cnone) f_reached_4w_2a_2f_1a_1 .nil) .nil
noncomputable def f_reached_4w_2a_2 : Sts := .cons (.for [60] false (.meth (.loc 100) 42 (.cons (.loc 53) .nil)) f_reached_4w_2a_2f_1) .nil
noncomputable def f_reached_4w_2a_1 : Sts := .cons (.asg (.sub (.loc 101) (.loc 53)) (.cbool true)) f_reached_4w_2a_2
noncomputable def f_reached_4w_2 : Sts := .cons (.ite (.cmp .NotIn (.loc 53) (.loc 101)) f_reached_4w_2a_1 .nil) .nil
noncomputable def f_reached_4w_1 : Sts := .cons (.asg (.var 53) (.meth (.loc 102) 7 .nil)) f_reached_4w_2
noncomputable def f_reached_4 : Sts := .cons (.whl (.cmp .Gt (.bi .len (.cons (.loc 102) .nil)) (.cint 0)) f_reached_4w_1) f_reached_5
noncomputable def f_reached_3f_1 : Sts := .cons (.expr (.meth (.loc 100) 27 (.cons (.loc 53) .nil))) .nil
noncomputable def f_reached_3 : Sts := .cons (.for [53] false (.loc 102) f_reached_3f_1) f_reached_4
noncomputable def f_reached_2 : Sts := .cons (.asg (.var 102) (.bi .list (.cons (.loc 61) .nil))) f_reached_3
noncomputable def f_reached_1 : Sts := .cons (.asg (.var 101) (.dict .nil .nil)) f_reached_2
noncomputable def f_reached : FD := ⟨[100, 61], f_reached_1⟩
noncomputable def f_trials_5 : Sts := .cons (.ret (.comp (.tup (.cons (.loc 53) (.cons (.sub (.loc 105) (.loc 53)) .nil))) [53] false (.loc 104) .nil)) .nil
noncomputable def f_trials_4f_1f_1a_1 : Sts := .cons (.asg (.sub (.loc 105) (.loc 60)) (.bin .Sub (.sub (.loc 105) (.loc 60)) (.cint 1))) .nil
noncomputable def f_trials_4f_1f_1 : Sts := .cons (.ite (.cmp .IsNot (.loc 60) .cnone) f_trials_4f_1f_1a_1 .nil) .nil
noncomputable def f_trials_4f_1 : Sts := .cons (.for [60] false (.meth (.loc 100) 42 (.cons (.loc 53) .nil)) f_trials_4f_1f_1) .nil
noncomputable def f_trials_4 : Sts := .cons (.for [53] false (.loc 104) f_trials_4f_1) f_trials_5
noncomputable def f_trials_3f_1 : Sts := .cons (.asg (.sub (.loc 105) (.loc 53)) (.meth (.loc 100) 43 (.cons (.loc 53) .nil))) .nil
noncomputable def f_trials_3 : Sts := .cons (.for [53] false (.loc 104) f_trials_3f_1) f_trials_4
noncomputable def f_trials_2 : Sts := .cons (.asg (.var 105) (.dict .nil .nil)) f_trials_3
noncomputable def f_trials_1 : Sts := .cons (.asg (.var 104) (.call 99 (.cons (.loc 100) (.cons (.meth (.loc 100) 45 .nil) .nil)))) f_trials_2
noncomputable def f_trials : FD := ⟨[100], f_trials_1⟩
noncomputable def f_tidy_5 : Sts := .cons (.ret (.loc 98)) .nil
noncomputable def f_tidy_4 : Sts := .cons (.expr (.meth (.loc 100) 40 (.cons (.loc 98) .nil))) f_tidy_5
noncomputable def f_tidy_3 : Sts := .cons (.asg (.var 98) (.comp (.sub (.loc 109) (.cint 0)) [109] false (.loc 107) (.cons (.cmp .NotIn (.sub (.loc 109) (.cint 0)) (.loc 108)) .nil))) f_tidy_4
noncomputable def f_tidy_2 : Sts := .cons (.asg (.var 108) (.call 99 (.cons (.loc 100) (.cons (.comp (.sub (.loc 109) (.cint 0)) [109] false (.loc 107) (.cons (.cmp .Gt (.sub (.loc 109) (.cint 1)) (.cint 0)) .nil)) .nil)))) f_tidy_3
noncomputable def f_tidy_1 : Sts := .cons (.asg (.var 107) (.call 103 (.cons (.loc 100) .nil))) f_tidy_2
noncomputable def f_tidy : FD := ⟨[100], f_tidy_1⟩
noncomputable def f_done_8 : Sts := .cons (.ret (.call 106 (.cons (.loc 100) .nil))) .nil
noncomputable def f_done_7a_1 : Sts := .cons (.ret (.meth (.loc 100) 39 (.cons (.sub (.loc 119) (.cint 1)) (.cons (.sub (.loc 119) (.cint 2)) (.cons (.sub (.loc 119) (.cint 3)) .nil))))) .nil
noncomputable def f_done_7 : Sts := .cons (.ite (.cmp .Eq (.loc 113) (.cstr (.ofString "take"))) f_done_7a_1 .nil) f_done_8
noncomputable def f_done_6a_1 : Sts := .cons (.ret (.meth (.loc 100) 38 (.cons (.sub (.loc 119) (.cint 1)) (.cons (.sub (.loc 119) (.cint 2)) .nil)))) .nil
noncomputable def f_done_6 : Sts := .cons (.ite (.cmp .Eq (.loc 113) (.cstr (.ofString "empty"))) f_done_6a_1 .nil) f_done_7
noncomputable def f_done_5a_1 : Sts := .cons (.ret (.meth (.loc 100) 37 (.cons (.sub (.loc 119) (.cint 1)) (.cons (.sub (.loc 119) (.cint 2)) (.cons (.sub (.loc 119) (.cint 3)) .nil))))) .nil
noncomputable def f_done_5 : Sts := .cons (.ite (.cmp .Eq (.loc 113) (.cstr (.ofString "put"))) f_done_5a_1 .nil) f_done_6
noncomputable def f_done_4a_1 : Sts := .cons (.ret (.meth (.loc 100) 36 (.cons (.sub (.loc 119) (.cint 1)) .nil))) .nil
noncomputable def f_done_4 : Sts := .cons (.ite (.cmp .Eq (.loc 113) (.cstr (.ofString "drop"))) f_done_4a_1 .nil) f_done_5
noncomputable def f_done_3a_1 : Sts := .cons (.ret (.meth (.loc 100) 35 (.cons (.sub (.loc 119) (.cint 1)) (.cons (.sub (.loc 119) (.cint 2)) .nil)))) .nil
noncomputable def f_done_3 : Sts := .cons (.ite (.cmp .Eq (.loc 113) (.cstr (.ofString "hold"))) f_done_3a_1 .nil) f_done_4
noncomputable def f_done_2a_1 : Sts := .cons (.ret (.meth (.loc 100) 34 (.cons (.sub (.loc 119) (.cint 1)) (.cons (.sub (.loc 119) (.cint 2)) .nil)))) .nil
noncomputable def f_done_2 : Sts := .cons (.ite (.cmp .Eq (.loc 113) (.cstr (.ofString "make"))) f_done_2a_1 .nil) f_done_3
noncomputable def f_done_1 : Sts := .cons (.asg (.var 113) (.sub (.loc 119) (.cint 0))) f_done_2
noncomputable def f_done : FD := ⟨[100, 119], f_done_1⟩
noncomputable def f_come_to_2 : Sts := .cons (.ret (.call 99 (.cons (.loc 100) (.cons (.comp (.loc 53) [53] false (.loc 125) (.cons (.cmp .IsNot (.loc 53) .cnone) .nil)) .nil)))) .nil
noncomputable def f_come_to_1 : Sts := .cons (.asg (.var 125) (.comp (.meth (.loc 100) 41 (.cons (.loc 52) .nil)) [52] false (.bi .range (.cons (.glo 21) .nil)) .nil)) f_come_to_2
noncomputable def f_come_to : FD := ⟨[100], f_come_to_1⟩
noncomputable def f__law_deed_by_13 : Sts := .cons (.ret (.tup (.cons (.loc 134) .nil))) .nil
noncomputable def f__law_deed_by_12a_1 : Sts := .cons (.ret (.tup (.cons (.loc 134) (.cons (.loc 79) (.cons (.loc 92) (.cons (.loc 96) .nil)))))) .nil
noncomputable def f__law_deed_by_12 : Sts := .cons (.ite (.cmp .Eq (.loc 134) (.cstr (.ofString "take"))) f__law_deed_by_12a_1 .nil) f__law_deed_by_13
noncomputable def f__law_deed_by_11a_1 : Sts := .cons (.ret (.tup (.cons (.loc 134) (.cons (.loc 79) (.cons (.loc 96) (.cons (.loc 92) .nil)))))) .nil
noncomputable def f__law_deed_by_11 : Sts := .cons (.ite (.cmp .Eq (.loc 134) (.cstr (.ofString "put"))) f__law_deed_by_11a_1 .nil) f__law_deed_by_12
noncomputable def f__law_deed_by_10a_1 : Sts := .cons (.ret (.tup (.cons (.loc 134) (.cons (.loc 79) (.cons (.loc 96) .nil))))) .nil
noncomputable def f__law_deed_by_10 : Sts := .cons (.ite (.cmp .Eq (.loc 134) (.cstr (.ofString "empty"))) f__law_deed_by_10a_1 .nil) f__law_deed_by_11
noncomputable def f__law_deed_by_9a_1 : Sts := .cons (.ret (.tup (.cons (.loc 134) (.cons (.loc 79) .nil)))) .nil
noncomputable def f__law_deed_by_9 : Sts := .cons (.ite (.cmp .Eq (.loc 134) (.cstr (.ofString "drop"))) f__law_deed_by_9a_1 .nil) f__law_deed_by_10
noncomputable def f__law_deed_by_8a_1 : Sts := .cons (.ret (.tup (.cons (.loc 134) (.cons (.loc 79) (.cons (.loc 92) .nil))))) .nil
noncomputable def f__law_deed_by_8 : Sts := .cons (.ite (.cmp .Eq (.loc 134) (.cstr (.ofString "hold"))) f__law_deed_by_8a_1 .nil) f__law_deed_by_9
noncomputable def f__law_deed_by_7a_1 : Sts := .cons (.ret (.tup (.cons (.loc 134) (.cons (.loc 79) (.cons (.loc 80) .nil))))) .nil
noncomputable def f__law_deed_by_7 : Sts := .cons (.ite (.cmp .Eq (.loc 134) (.cstr (.ofString "make"))) f__law_deed_by_7a_1 .nil) f__law_deed_by_8
noncomputable def f__law_deed_by_6 : Sts := .cons (.asg (.var 96) (.bin .Mod (.loc 80) (.sub (.list (.cons (.cint 3) (.cons (.cint 8) .nil))) (.bin .Mod (.bin .FloorDiv (.bin .FloorDiv (.loc 83) (.cint 11)) (.loc 132)) (.cint 2))))) f__law_deed_by_7
noncomputable def f__law_deed_by_5 : Sts := .cons (.asg (.var 80) (.bin .Mod (.bin .FloorDiv (.loc 131) (.loc 132)) (.cint 8))) f__law_deed_by_6
noncomputable def f__law_deed_by_4 : Sts := .cons (.asg (.var 92) (.bin .Mod (.loc 131) (.loc 132))) f__law_deed_by_5
noncomputable def f__law_deed_by_3 : Sts := .cons (.asg (.var 79) (.bin .Mod (.bin .FloorDiv (.loc 83) (.cint 11)) (.loc 132))) f__law_deed_by_4
noncomputable def f__law_deed_by_2 : Sts := .cons (.asg (.var 134) (.sub (.loc 133) (.bin .Mod (.loc 83) (.cint 11)))) f__law_deed_by_3
noncomputable def f__law_deed_by_1 : Sts := .cons (.asg (.var 133) (.list (.cons (.cstr (.ofString "make")) (.cons (.cstr (.ofString "put")) (.cons (.cstr (.ofString "take")) (.cons (.cstr (.ofString "hold")) (.cons (.cstr (.ofString "drop")) (.cons (.cstr (.ofString "put")) (.cons (.cstr (.ofString "make")) (.cons (.cstr (.ofString "empty")) (.cons (.cstr (.ofString "take")) (.cons (.cstr (.ofString "tidy")) (.cons (.cstr (.ofString "put")) .nil))))))))))))) f__law_deed_by_2
noncomputable def f__law_deed_by : FD := ⟨[83, 131, 132], f__law_deed_by_1⟩
noncomputable def f__law_done_1t_1 : Sts := .cons (.ret (.call 118 (.cons (.loc 75) (.cons (.loc 87) .nil)))) .nil
noncomputable def f__law_done_1 : Sts := .cons (.try f__law_done_1t_1 [(16, .cnone)]) .nil
noncomputable def f__law_done : FD := ⟨[75, 87], f__law_done_1⟩
noncomputable def f__law_ring_6a_3 : Sts := .cons (.expr (.meth (.loc 75) 36 (.cons (.cint 3) .nil))) .nil
noncomputable def f__law_ring_6a_2 : Sts := .cons (.expr (.meth (.loc 75) 36 (.cons (.cint 1) .nil))) f__law_ring_6a_3
noncomputable def f__law_ring_6a_1 : Sts := .cons (.expr (.meth (.loc 75) 37 (.cons (.cint 0) (.cons (.cint 0) (.cons (.cint 1) .nil))))) f__law_ring_6a_2
noncomputable def f__law_ring_6 : Sts := .cons (.ite (.loc 136) f__law_ring_6a_1 .nil) .nil
noncomputable def f__law_ring_5 : Sts := .cons (.expr (.meth (.loc 75) 36 (.cons (.cint 2) .nil))) f__law_ring_6
noncomputable def f__law_ring_4f_5 : Sts := .cons (.expr (.meth (.loc 75) 35 (.cons (.cint 1) (.cons (.cint 2) .nil)))) .nil
noncomputable def f__law_ring_4f_4a_1 : Sts := .cons (.expr (.meth (.loc 75) 35 (.cons (.cint 3) (.cons (.cint 1) .nil)))) .nil
noncomputable def f__law_ring_4f_4 : Sts := .cons (.ite (.cmp .Eq (.bin .Mod (.loc 71) (.cint 5)) (.cint 3)) f__law_ring_4f_4a_1 .nil) f__law_ring_4f_5
noncomputable def f__law_ring_4f_3a_1 : Sts := .cons (.expr (.meth (.loc 75) 37 (.cons (.cint 2) (.cons (.cint 0) (.cons (.cint 3) .nil))))) .nil
noncomputable def f__law_ring_4f_3 : Sts := .cons (.ite (.cmp .Gt (.bin .Mod (.loc 71) (.cint 6)) (.cint 0)) f__law_ring_4f_3a_1 .nil) f__law_ring_4f_4
noncomputable def f__law_ring_4f_2 : Sts := .cons (.expr (.meth (.loc 75) 37 (.cons (.cint 2) (.cons (.bin .Mod (.loc 71) (.cint 6)) (.cons (.cint 1) .nil))))) f__law_ring_4f_3
noncomputable def f__law_ring_4f_1 : Sts := .cons (.expr (.meth (.loc 75) 34 (.cons (.cint 2) (.cons (.bin .Add (.cint 1) (.bin .Mod (.loc 71) (.cint 6))) .nil)))) f__law_ring_4f_2
noncomputable def f__law_ring_4 : Sts := .cons (.for [71] false (.bi .range (.cons (.loc 90) .nil)) f__law_ring_4f_1) f__law_ring_5
noncomputable def f__law_ring_3 : Sts := .cons (.expr (.meth (.loc 75) 35 (.cons (.cint 3) (.cons (.cint 0) .nil)))) f__law_ring_4
noncomputable def f__law_ring_2 : Sts := .cons (.expr (.meth (.loc 75) 35 (.cons (.cint 1) (.cons (.cint 0) .nil)))) f__law_ring_3
noncomputable def f__law_ring_1 : Sts := .cons (.expr (.meth (.loc 75) 34 (.cons (.cint 0) (.cons (.cint 1) .nil)))) f__law_ring_2
noncomputable def f__law_ring : FD := ⟨[75, 90, 136], f__law_ring_1⟩
noncomputable def f__law_star_6a_3 : Sts := .cons (.expr (.meth (.loc 75) 36 (.cons (.cint 1) .nil))) .nil
noncomputable def f__law_star_6a_2 : Sts := .cons (.expr (.meth (.loc 75) 36 (.cons (.cint 0) .nil))) f__law_star_6a_3
noncomputable def f__law_star_6a_1 : Sts := .cons (.expr (.meth (.loc 75) 37 (.cons (.cint 0) (.cons (.cint 5) (.cons (.cint 1) .nil))))) f__law_star_6a_2
noncomputable def f__law_star_6 : Sts := .cons (.ite (.loc 136) f__law_star_6a_1 .nil) .nil
noncomputable def f__law_star_5 : Sts := .cons (.expr (.meth (.loc 75) 36 (.cons (.cint 2) .nil))) f__law_star_6
noncomputable def f__law_star_4f_4 : Sts := .cons (.expr (.meth (.loc 75) 35 (.cons (.cint 1) (.cons (.cint 2) .nil)))) .nil
noncomputable def f__law_star_4f_3 : Sts := .cons (.expr (.meth (.loc 75) 37 (.cons (.cint 2) (.cons (.cint 5) (.cons (.cint 1) .nil))))) f__law_star_4f_4
noncomputable def f__law_star_4f_2f_1 : Sts := .cons (.expr (.meth (.loc 75) 37 (.cons (.cint 2) (.cons (.loc 96) (.cons (.cint 3) .nil))))) .nil
noncomputable def f__law_star_4f_2 : Sts := .cons (.for [96] false (.bi .range (.cons (.cint 5) .nil)) f__law_star_4f_2f_1) f__law_star_4f_3
noncomputable def f__law_star_4f_1 : Sts := .cons (.expr (.meth (.loc 75) 34 (.cons (.cint 2) (.cons (.cint 6) .nil)))) f__law_star_4f_2
noncomputable def f__law_star_4 : Sts := .cons (.for [71] false (.bi .range (.cons (.loc 90) .nil)) f__law_star_4f_1) f__law_star_5
noncomputable def f__law_star_3 : Sts := .cons (.expr (.meth (.loc 75) 35 (.cons (.cint 1) (.cons (.cint 0) .nil)))) f__law_star_4
noncomputable def f__law_star_2 : Sts := .cons (.expr (.meth (.loc 75) 34 (.cons (.cint 0) (.cons (.cint 6) .nil)))) f__law_star_3
noncomputable def f__law_star_1 : Sts := .cons (.expr (.meth (.loc 75) 34 (.cons (.cint 3) (.cons (.cint 0) .nil)))) f__law_star_2
noncomputable def f__law_star : FD := ⟨[75, 90, 136], f__law_star_1⟩
noncomputable def f__law_begun_4 : Sts := .cons (.ret (.sub (.list (.cons (.cint 3) (.cons (.cint 9) (.cons (.cint 4) .nil)))) (.bin .Mod (.bin .FloorDiv (.loc 139) (.cint 300)) (.cint 3)))) .nil
noncomputable def f__law_begun_3a_1 : Sts := .cons (.expr (.call 137 (.cons (.loc 75) (.cons (.bin .Mod (.bin .FloorDiv (.loc 139) (.cint 3)) (.cint 25)) (.cons (.cmp .Eq (.bin .Mod (.bin .FloorDiv (.loc 139) (.cint 75)) (.cint 2)) (.cint 1)) .nil))))) .nil
noncomputable def f__law_begun_3 : Sts := .cons (.ite (.cmp .Eq (.bin .Mod (.loc 139) (.cint 3)) (.cint 1)) f__law_begun_3a_1 .nil) f__law_begun_4
noncomputable def f__law_begun_2a_1 : Sts := .cons (.expr (.call 135 (.cons (.loc 75) (.cons (.bin .Mod (.bin .FloorDiv (.loc 139) (.cint 3)) (.cint 30)) (.cons (.cmp .Eq (.bin .Mod (.bin .FloorDiv (.loc 139) (.cint 90)) (.cint 2)) (.cint 1)) .nil))))) .nil
noncomputable def f__law_begun_2 : Sts := .cons (.ite (.cmp .Eq (.bin .Mod (.loc 139) (.cint 3)) (.cint 2)) f__law_begun_2a_1 .nil) f__law_begun_3
noncomputable def f__law_begun_1 : Sts := .cons (.asg (.var 139) (.call 69 (.cons (.loc 70) (.cons (.cint 0) .nil)))) f__law_begun_2
noncomputable def f__law_begun : FD := ⟨[75, 70], f__law_begun_1⟩
noncomputable def f__law_closure_6 : Sts := .cons (.ret (.loc 166)) .nil
noncomputable def f__law_closure_5w_3f_1a_2 : Sts := .cons (.expr (.meth (.loc 165) 6 (.cons (.loc 92) .nil))) .nil
noncomputable def f__law_closure_5w_3f_1a_1 : Sts := .cons (.asg (.sub (.loc 166) (.loc 92)) (.cbool true)) f__law_closure_5w_3f_1a_2
noncomputable def f__law_closure_5w_3f_1 : Sts := .cons (.ite (.band (.cons (.cmp .IsNot (.loc 92) .cnone) (.cons (.cmp .NotIn (.loc 92) (.loc 166)) .nil))) f__law_closure_5w_3f_1a_1 .nil) .nil
noncomputable def f__law_closure_5w_3 : Sts := .cons (.for [92] false (.loc 91) f__law_closure_5w_3f_1) .nil
noncomputable def f__law_closure_5w_2 : Sts := .cons (.asg (.var 167) (.bin .Add (.loc 167) (.cint 1))) f__law_closure_5w_3
noncomputable def f__law_closure_5w_1 : Sts := .cons (.asg (.var 91) (.meth (.loc 75) 42 (.cons (.sub (.loc 165) (.loc 167)) .nil))) f__law_closure_5w_2
noncomputable def f__law_closure_5 : Sts := .cons (.whl (.cmp .Lt (.loc 167) (.bi .len (.cons (.loc 165) .nil))) f__law_closure_5w_1) f__law_closure_6
noncomputable def f__law_closure_4 : Sts := .cons (.asg (.var 167) (.cint 0)) f__law_closure_5
noncomputable def f__law_closure_3f_1a_2 : Sts := .cons (.expr (.meth (.loc 165) 6 (.cons (.loc 78) .nil))) .nil
noncomputable def f__law_closure_3f_1a_1 : Sts := .cons (.asg (.sub (.loc 166) (.loc 78)) (.cbool true)) f__law_closure_3f_1a_2
noncomputable def f__law_closure_3f_1 : Sts := .cons (.ite (.band (.cons (.cmp .IsNot (.loc 78) .cnone) (.cons (.cmp .NotIn (.loc 78) (.loc 166)) .nil))) f__law_closure_3f_1a_1 .nil) .nil
noncomputable def f__law_closure_3 : Sts := .cons (.for [78] false (.loc 159) f__law_closure_3f_1) f__law_closure_4
noncomputable def f__law_closure_2 : Sts := .cons (.asg (.var 166) (.dict .nil .nil)) f__law_closure_3
noncomputable def f__law_closure_1 : Sts := .cons (.asg (.var 165) (.list .nil)) f__law_closure_2
noncomputable def f__law_closure : FD := ⟨[75, 159], f__law_closure_1⟩
noncomputable def f__law_pairs_due_5 : Sts := .cons (.ret (.comp (.tup (.cons (.loc 78) (.cons (.sub (.loc 215) (.loc 78)) .nil))) [78] false (.bi .sorted (.cons (.loc 215) .nil)) .nil)) .nil
noncomputable def f__law_pairs_due_4f_1f_1a_1 : Sts := .cons (.asg (.sub (.loc 215) (.loc 92)) (.bin .Sub (.sub (.loc 215) (.loc 92)) (.cint 1))) .nil
noncomputable def f__law_pairs_due_4f_1f_1 : Sts := .cons (.ite (.cmp .IsNot (.loc 92) .cnone) f__law_pairs_due_4f_1f_1a_1 .nil) .nil
noncomputable def f__law_pairs_due_4f_1 : Sts := .cons (.for [92] false (.meth (.loc 75) 42 (.cons (.loc 78) .nil)) f__law_pairs_due_4f_1f_1) .nil
noncomputable def f__law_pairs_due_4 : Sts := .cons (.ford 78 (.loc 214) f__law_pairs_due_4f_1) f__law_pairs_due_5
noncomputable def f__law_pairs_due_3f_1 : Sts := .cons (.asg (.sub (.loc 215) (.loc 78)) (.meth (.loc 75) 43 (.cons (.loc 78) .nil))) .nil
noncomputable def f__law_pairs_due_3 : Sts := .cons (.ford 78 (.loc 214) f__law_pairs_due_3f_1) f__law_pairs_due_4
noncomputable def f__law_pairs_due_2 : Sts := .cons (.asg (.var 215) (.dict .nil .nil)) f__law_pairs_due_3
noncomputable def f__law_pairs_due_1 : Sts := .cons (.asg (.var 214) (.call 164 (.cons (.loc 75) (.cons (.meth (.loc 75) 45 .nil) .nil)))) f__law_pairs_due_2
noncomputable def f__law_pairs_due : FD := ⟨[75], f__law_pairs_due_1⟩
noncomputable def f__law_pairs_3 : Sts := .cons (.ret (.cbool true)) .nil
noncomputable def f__law_pairs_2f_1 : Sts := .cons (.ite (.bor (.cons (.not (.isi (.sub (.loc 67) (.loc 71)) [3])) (.cons (.not (.call 72 (.cons (.bi .list (.cons (.sub (.loc 67) (.loc 71)) .nil)) (.cons (.bi .list (.cons (.sub (.loc 73) (.loc 71)) .nil)) .nil)))) .nil))) .any .nil) .nil
noncomputable def f__law_pairs_2 : Sts := .cons (.for [71] false (.bi .range (.cons (.bi .len (.cons (.loc 73) .nil)) .nil)) f__law_pairs_2f_1) f__law_pairs_3
noncomputable def f__law_pairs_1 : Sts := .cons (.ite (.bor (.cons (.not (.isi (.loc 67) [2])) (.cons (.cmp .NotEq (.bi .len (.cons (.loc 67) .nil)) (.bi .len (.cons (.loc 73) .nil))) .nil))) .any .nil) f__law_pairs_2
noncomputable def f__law_pairs : FD := ⟨[67, 73], f__law_pairs_1⟩
noncomputable def f__law_good_15 : Sts := .cons (.ret (.band (.cons (.call 72 (.cons (.meth (.loc 75) 44 .nil) (.cons (.loc 149) .nil))) (.cons (.call 72 (.cons (.meth (.loc 75) 45 .nil) (.cons (.loc 177) .nil))) (.cons (.call 216 (.cons (.call 103 (.cons (.loc 75) .nil)) (.cons (.loc 73) .nil))) .nil))))) .nil
noncomputable def f__law_good_14 : Sts := .cons (.ite (.not (.call 72 (.cons (.call 99 (.cons (.loc 75) (.cons (.bi .list (.cons (.loc 217) .nil)) .nil))) (.cons (.bi .sorted (.cons (.call 164 (.cons (.loc 75) (.cons (.loc 217) .nil))) .nil)) .nil)))) .any .nil) f__law_good_15
noncomputable def f__law_good_13f_1 : Sts := .cons (.expr (.meth (.loc 67) 8 .nil)) .nil
noncomputable def f__law_good_13 : Sts := .cons (.for [67] false (.list (.cons (.call 103 (.cons (.loc 75) .nil)) (.cons (.call 212 (.cons (.loc 75) .nil)) (.cons (.loc 139) .nil)))) f__law_good_13f_1) f__law_good_14
noncomputable def f__law_good_12 : Sts := .cons (.expr (.meth (.loc 218) 8 .nil)) f__law_good_13
noncomputable def f__law_good_11 : Sts := .cons (.ite (.cmp .NotEq (.loc 218) (.loc 217)) .any .nil) f__law_good_12
noncomputable def f__law_good_10 : Sts := .cons (.asg (.var 139) (.call 99 (.cons (.loc 75) (.cons (.loc 218) .nil)))) f__law_good_11
noncomputable def f__law_good_9 : Sts := .cons (.asg (.var 218) (.bi .list (.cons (.loc 217) .nil))) f__law_good_10
noncomputable def f__law_good_8a_3 : Sts := .cons (.asg (.var 217) (.comp (.sub (.loc 149) (.bin .Mod (.bin .Add (.loc 83) (.bin .Mult (.loc 71) (.loc 92))) (.bi .len (.cons (.loc 149) .nil)))) [71] false (.bi .range (.cons (.bin .Mod (.bin .FloorDiv (.loc 83) (.cint 60)) (.cint 7)) .nil)) .nil)) .nil
noncomputable def f__law_good_8a_2 : Sts := .cons (.asg (.var 92) (.call 69 (.cons (.loc 70) (.cons (.cint 2) .nil)))) f__law_good_8a_3
noncomputable def f__law_good_8a_1 : Sts := .cons (.asg (.var 83) (.call 69 (.cons (.loc 70) (.cons (.cint 1) .nil)))) f__law_good_8a_2
noncomputable def f__law_good_8 : Sts := .cons (.ite (.loc 149) f__law_good_8a_1 .nil) f__law_good_9
noncomputable def f__law_good_7 : Sts := .cons (.asg (.var 217) (.list .nil)) f__law_good_8
noncomputable def f__law_good_6 : Sts := .cons (.ite (.not (.call 72 (.cons (.call 212 (.cons (.loc 75) .nil)) (.cons (.bi .sorted (.cons (.call 164 (.cons (.loc 75) (.cons (.loc 84) .nil))) .nil)) .nil)))) .any .nil) f__law_good_7
noncomputable def f__law_good_5 : Sts := .cons (.asg (.var 84) (.comp (.meth (.loc 75) 41 (.cons (.loc 79) .nil)) [79] false (.bi .range (.cons (.cint 8) .nil)) .nil)) f__law_good_6
noncomputable def f__law_good_4 : Sts := .cons (.ite (.not (.call 216 (.cons (.call 103 (.cons (.loc 75) .nil)) (.cons (.loc 73) .nil)))) .any .nil) f__law_good_5
noncomputable def f__law_good_3 : Sts := .cons (.asg (.var 73) (.call 213 (.cons (.loc 75) .nil))) f__law_good_4
noncomputable def f__law_good_2 : Sts := .cons (.asg (.var 177) (.meth (.loc 75) 45 .nil)) f__law_good_3
noncomputable def f__law_good_1 : Sts := .cons (.asg (.var 149) (.meth (.loc 75) 44 .nil)) f__law_good_2
noncomputable def f__law_good : FD := ⟨[75, 70], f__law_good_1⟩
noncomputable def f_law_5 : Sts := .cons (.ret (.call 161 (.cons (.loc 75) (.cons (.loc 70) .nil)))) .nil
noncomputable def f_law_4f_5 : Sts := .cons (.ite (.bor (.cons (.band (.cons (.cmp .Eq (.bin .Mod (.bin .FloorDiv (.loc 71) (.cint 2)) (.cint 9)) (.loc 162)) (.cons (.not (.call 161 (.cons (.loc 75) (.cons (.loc 70) .nil)))) .nil))) (.cons (.cmp .NotEq (.loc 84) (.loc 219)) .nil))) .any .nil) .nil
noncomputable def f_law_4f_4 : Sts := .cons (.expr (.call 86 (.cons (.loc 75) (.cons (.call 130 (.cons (.sub (.loc 70) (.loc 71)) (.cons (.sub (.loc 70) (.bin .Add (.loc 71) (.cint 1))) (.cons (.loc 132) .nil)))) .nil)))) f_law_4f_5
noncomputable def f_law_4f_3 : Sts := .cons (.asg (.var 219) (.comp (.bi .list (.cons (.loc 67) .nil)) [67] false (.loc 84) .nil)) f_law_4f_4
noncomputable def f_law_4f_2a_1 : Sts := .cons (.asg (.var 84) (.list (.cons (.call 103 (.cons (.loc 75) .nil)) (.cons (.call 212 (.cons (.loc 75) .nil)) (.cons (.call 99 (.cons (.loc 75) (.cons (.slice (.meth (.loc 75) 44 .nil) .cnone (.cint 2)) .nil))) .nil))))) .nil
noncomputable def f_law_4f_2 : Sts := .cons (.ite (.cmp .Eq (.bin .Mod (.bin .FloorDiv (.loc 71) (.cint 2)) (.cint 9)) (.loc 162)) f_law_4f_2a_1 .nil) f_law_4f_3
noncomputable def f_law_4f_1 : Sts := .cons (.asg (.var 84) (.list .nil)) f_law_4f_2
noncomputable def f_law_4 : Sts := .cons (.for [71] false (.bi .range (.cons (.cint 3) (.cons (.bin .Sub (.bi .min (.cons (.bi .len (.cons (.loc 70) .nil)) (.cons (.cint 61) .nil))) (.cint 1)) (.cons (.cint 2) .nil)))) f_law_4f_1) f_law_5
noncomputable def f_law_3 : Sts := .cons (.asg (.var 162) (.bin .Mod (.bin .FloorDiv (.call 69 (.cons (.loc 70) (.cons (.cint 1) .nil))) (.cint 420)) (.cint 9))) f_law_4
noncomputable def f_law_2 : Sts := .cons (.asg (.var 132) (.call 138 (.cons (.loc 75) (.cons (.loc 70) .nil)))) f_law_3
noncomputable def f_law_1 : Sts := .cons (.asg (.var 75) (.new 24)) f_law_2
noncomputable def f_law : FD := ⟨[70], f_law_1⟩
noncomputable def prog : Prog := { funs := [(99, f_reached), (103, f_trials), (106, f_tidy), (118, f_done), (212, f_come_to), (66, PP.f__law_whole), (69, PP.f__law_cell_at), (72, PP.f__law_numbers), (130, f__law_deed_by), (86, f__law_done), (135, f__law_ring), (137, f__law_star), (138, f__law_begun), (164, f__law_closure), (213, f__law_pairs_due), (216, f__law_pairs), (161, f__law_good), (74, f_law)], meths := [(25, PP.m___init__), (26, PP.m_need_hand), (27, PP.m_need_box), (28, PP.m_box_with_slot), (29, PP.m_counted), (30, PP.m_let_go), (31, PP.m_lighter), (32, PP.m_handed), (33, PP.m_pointed), (34, PP.m_make), (35, PP.m_hold), (36, PP.m_drop), (37, PP.m_put), (38, PP.m_empty), (39, PP.m_take), (40, PP.m_swept), (41, PP.m_holds), (42, PP.m_points), (43, PP.m_weighs), (44, PP.m_alive), (45, PP.m_suspects)], globs := [(21, .int 8), (22, .int 6), (23, .int 60)], init := 25, attrs := [47, 48, 49, 50, 51], nf := 1, xb := 16 }
noncomputable def T09 : List Str := [Str.ofString "int", Str.ofString "bool", Str.ofString "list", Str.ofString "tuple", Str.ofString "str", Str.ofString "ValueError", Str.ofString "append", Str.ofString "pop", Str.ofString "clear", Str.ofString "remove", Str.ofString "split", Str.ofString "join", Str.ofString "replace", Str.ofString "_wall", Str.ofString "k", Str.ofString "__name__", Str.ofString "PileError", Str.ofString "NoHand", Str.ofString "NoSize", Str.ofString "Full", Str.ofString "NoBox", Str.ofString "HANDS", Str.ofString "MOST_SLOTS", Str.ofString "MOST_ALIVE", Str.ofString "Pile", Str.ofString "__init__", Str.ofString "need_hand", Str.ofString "need_box", Str.ofString "box_with_slot", Str.ofString "counted", Str.ofString "let_go", Str.ofString "lighter", Str.ofString "handed", Str.ofString "pointed", Str.ofString "make", Str.ofString "hold", Str.ofString "drop", Str.ofString "put", Str.ofString "empty", Str.ofString "take", Str.ofString "swept", Str.ofString "holds", Str.ofString "points", Str.ofString "weighs", Str.ofString "alive", Str.ofString "suspects", Str.ofString "self", Str.ofString "in_hands", Str.ofString "boxes", Str.ofString "weights", Str.ofString "doubted", Str.ofString "made", Str.ofString "hand", Str.ofString "number", Str.ofString "slot", Str.ofString "freed", Str.ofString "at", Str.ofString "old", Str.ofString "box", Str.ofString "size", Str.ofString "other", Str.ofString "numbers", Str.ofString "slots", Str.ofString "sorted", Str.ofString "len", Str.ofString "range", Str.ofString "_law_whole", Str.ofString "_law_found", Str.ofString "isinstance", Str.ofString "_law_cell_at", Str.ofString "_law_script", Str.ofString "_law_k", Str.ofString "_law_numbers", Str.ofString "_law_due", Str.ofString "law", Str.ofString "_law_pile", Str.ofString "_law_hands", Str.ofString "_law_begin", Str.ofString "_law_number", Str.ofString "_law_hand", Str.ofString "_law_size", Str.ofString "_law_freed", Str.ofString "min", Str.ofString "_law_one", Str.ofString "_law_held", Str.ofString "NoSlot", Str.ofString "_law_done", Str.ofString "_law_deed", Str.ofString "_law_pointers", Str.ofString "_law_rooms", Str.ofString "_law_many", Str.ofString "_law_room", Str.ofString "_law_other", Str.ofString "_law_stands", Str.ofString "_law_cell", Str.ofString "_law_which", Str.ofString "_law_slot", Str.ofString "NoDeed", Str.ofString "gone", Str.ofString "reached", Str.ofString "pile", Str.ofString "found", Str.ofString "waiting", Str.ofString "trials", Str.ofString "looked", Str.ofString "left", Str.ofString "tidy", Str.ofString "rows", Str.ofString "kept", Str.ofString "row", Str.ofString "WORDS", Str.ofString "MOST_FIGURES", Str.ofString "number_of", Str.ofString "word", Str.ofString "sign", Str.ofString "read", Str.ofString "line", Str.ofString "parts", Str.ofString "done", Str.ofString "deed", Str.ofString "answer", Str.ofString "played", Str.ofString "lines", Str.ofString "way_to", Str.ofString "ways", Str.ofString "held", Str.ofString "led", Str.ofString "way", Str.ofString "here", Str.ofString "_law_due_here", Str.ofString "_law_deed_by", Str.ofString "_law_two", Str.ofString "_law_few", Str.ofString "_law_words", Str.ofString "_law_word", Str.ofString "_law_ring", Str.ofString "_law_closed", Str.ofString "_law_star", Str.ofString "_law_begun", Str.ofString "_law_first", Str.ofString "_law_seen", Str.ofString "_law_seen_here", Str.ofString "_law_word_of", Str.ofString "e", Str.ofString "_law_some", Str.ofString "_law_fits", Str.ofString "_law_hand_wrong", Str.ofString "_law_slot_due", Str.ofString "_law_led_due", Str.ofString "_law_alive", Str.ofString "_law_filled", Str.ofString "_law_full_told", Str.ofString "_law_lines", Str.ofString "_law_told", Str.ofString "_law_full_by", Str.ofString "_law_number_by", Str.ofString "_law_asked", Str.ofString "_law_cells", Str.ofString "_law_pick", Str.ofString "_law_numbers_here", Str.ofString "_law_way", Str.ofString "_law_good", Str.ofString "_law_turn", Str.ofString "max", Str.ofString "_law_closure", Str.ofString "_law_row", Str.ofString "_law_met", Str.ofString "_law_at", Str.ofString "_law_ring_deeds", Str.ofString "_law_deeds_here", Str.ofString "_law_star_deeds", Str.ofString "_law_deeds", Str.ofString "_law_most", Str.ofString "_law_near", Str.ofString "zip", Str.ofString "_law_held_by", Str.ofString "_law_made", Str.ofString "_law_doubts", Str.ofString "_law_kept", Str.ofString "_law_old", Str.ofString "_law_new", Str.ofString "set", Str.ofString "_law_built", Str.ofString "_law_keep", Str.ofString "_law_mine", Str.ofString "_law_weights", Str.ofString "_law_weights_here", Str.ofString "_law_fallen", Str.ofString "_law_waiting", Str.ofString "_law_top", Str.ofString "shown", Str.ofString "part", Str.ofString "_law_forms", Str.ofString "_law_name", Str.ofString "_law_many_here", Str.ofString "_law_sign", Str.ofString "_law_due_of", Str.ofString "_law_line", Str.ofString "_law_alike", Str.ofString "_law_odd_line", Str.ofString "_law_refused", Str.ofString "_law_refused_by_all", Str.ofString "_law_line_by", Str.ofString "_law_large", Str.ofString "_law_number_here", Str.ofString "_law_rising", Str.ofString "_law_right", Str.ofString "_law_held_here", Str.ofString "_law_copy", Str.ofString "_law_piles", Str.ofString "_law_led_there", Str.ofString "_law_behind", Str.ofString "come_to", Str.ofString "_law_pairs_due", Str.ofString "_law_looked", Str.ofString "_law_left", Str.ofString "_law_pairs", Str.ofString "_law_starts", Str.ofString "_law_handed", Str.ofString "_law_copies"]
noncomputable def clsL : List (Nat × PySem.Addr) := [(24, 255)]
noncomputable def fnL : List (Nat × PySem.Addr) := [(99, 21), (103, 26), (106, 31), (118, 266), (212, 271), (66, 278), (69, 285), (72, 292), (130, 299), (86, 306), (135, 313), (137, 320), (138, 327), (164, 334), (213, 339), (216, 346), (161, 351), (74, 356)]
noncomputable def meL : List (Nat × PySem.Addr) := [(25, 116), (26, 123), (27, 130), (28, 137), (29, 144), (30, 151), (31, 158), (32, 165), (33, 172), (34, 177), (35, 184), (36, 191), (37, 198), (38, 205), (39, 212), (40, 217), (41, 224), (42, 231), (43, 238), (44, 245), (45, 252)]
noncomputable def exL : List (Nat × PySem.Addr) := [(16, 41), (17, 54), (18, 66), (19, 78), (20, 90), (85, 102)]
end Mine.Internal.L09
set_option autoImplicit false
namespace Mine.Internal.Bx
noncomputable def updF {β : Type} (w : Nat → β) (k : Nat) (v : β) : Nat → β := fun j => if j = k then v else w j
theorem uF_is {β : Type} {w : Nat → β} {k : Nat} {v : β} : updF w k v k = v := if_pos rfl
theorem uF_ne {β : Type} {w : Nat → β} {j k : Nat} {v : β} (h : j ≠ k) : updF w k v j = w j := if_neg h
noncomputable def addN (l : List Nat) (k : Nat) : List Nat := if k ∈ l then l else l ++ [k]
theorem addN_mem {l : List Nat} {j k : Nat} : j ∈ addN l k ↔ j ∈ l ∨ j = k := by
 unfold addN
 split
 ·rename_i h
  exact ⟨.inl, fun h' => h'.elim id fun e => e ▸ h⟩
 ·rw [List.mem_append, List.mem_singleton]
theorem app1_nd {l : List Nat} {k : Nat} (h : l.Nodup) (hk : k ∉ l) : (l ++ [k]).Nodup := List.nodup_append.mpr ⟨h, by simp, fun a ha c hc e => hk (by rw [List.mem_singleton.mp hc] at e; exact e ▸ ha)⟩
theorem addN_nd {l : List Nat} {k : Nat} (h : l.Nodup) : (addN l k).Nodup := by
 unfold addN
 split
 ·exact h
 ·rename_i hk; exact app1_nd h hk
theorem addN_len {l : List Nat} {k : Nat} : (addN l k).length ≤ l.length + 1 := by
 unfold addN
 split
 ·exact Nat.le_succ _
 ·rw [List.length_append]; exact Nat.le_refl _
noncomputable def ins (ks : List Nat) (r : Nat → List (Option Nat)) (y : Option Nat) : Nat := (ks.flatMap r).count y
section
variable {ks : List Nat} {r : Nat → List (Option Nat)} {y : Option Nat} {k : Nat} {xs : List (Option Nat)}
theorem ins_del (h : k ∈ ks) : ins ks r y = (r k).count y + ins (ks.erase k) r y := by
 unfold ins
 rw [((List.perm_cons_erase h).flatMap_right r).count_eq, List.flatMap_cons, List.count_append]
theorem ins_ext {r' : Nat → List (Option Nat)} : ∀ {ks : List Nat}, (∀ j, j ∈ ks → r' j = r j) → ins ks r' y = ins ks r y
 | [], _ => rfl
 | a :: l, h => by
  have ih := ins_ext (ks := l) fun j hj => h j (.tail _ hj)
  unfold ins at ih ⊢
  rw [List.flatMap_cons, List.flatMap_cons, List.count_append, List.count_append, ih, h a (.head _)]
theorem ins_upd (nd : ks.Nodup) (h : k ∈ ks) : ins ks (updF r k xs) y + (r k).count y = ins ks r y + xs.count y := by
 rw [ins_del (r := updF r k xs) h, ins_del (r := r) h, uF_is, ins_ext (r' := updF r k xs) (r := r) fun j hj => uF_ne fun e => ?_]
 ·lia
 ·subst e; exact (List.Nodup.not_mem_erase nd) hj
theorem ins_app : ins (ks ++ [k]) r y = ins ks r y + (r k).count y := by
 unfold ins
 rw [List.flatMap_append, List.count_append, List.flatMap_cons, List.flatMap_nil, List.append_nil]
theorem ins_pos (h : 0 < ins ks r y) : ∃ j, j ∈ ks ∧ y ∈ r j := by
 obtain ⟨j, h1, h2⟩ := List.mem_flatMap.mp (List.count_pos_iff.mp h)
 exact ⟨j, h1, h2⟩
theorem ins_of {j : Nat} (h : j ∈ ks) (hy : y ∈ r j) : 0 < ins ks r y := List.count_pos_iff.mpr (List.mem_flatMap.mpr ⟨j, h, hy⟩)
end
noncomputable def cnt (hs : List (Option Nat)) (ks : List Nat) (r : Nat → List (Option Nat)) (pd : List (Option Nat)) (k : Nat) : Nat := hs.count (some k) + ins ks r (some k) + pd.count (some k)
inductive Rch (ks : List Nat) (r : Nat → List (Option Nat)) (S : Nat → Prop) : Nat → Prop
 | src {n : Nat} : S n → n ∈ ks → Rch ks r S n
 | step {j n : Nat} : Rch ks r S j → some n ∈ r j → n ∈ ks → Rch ks r S n
theorem Rch.mem {ks : List Nat} {r : Nat → List (Option Nat)} {S : Nat → Prop} {n : Nat} (h : Rch ks r S n) : n ∈ ks := by cases h <;> assumption
noncomputable def Sc (hs : List (Option Nat)) (q : List Nat) (pd : List (Option Nat)) (n : Nat) : Prop := some n ∈ hs ∨ n ∈ q ∨ some n ∈ pd
structure G (hs : List (Option Nat)) (ks : List Nat) (r : Nat → List (Option Nat)) (w : Nat → Nat) (q : List Nat) (m : Nat) (pd : List (Option Nat)) : Prop where
 hl : hs.length = 8
 nd : ks.Nodup
 lt : ∀ k, k ∈ ks → k < m
 al : ∀ k, k ∉ ks → cnt hs ks r pd k = 0
 ct : ∀ k, k ∈ ks → w k = cnt hs ks r pd k
 ps : ∀ k, k ∈ ks → 1 ≤ w k
 qs : ∀ k, k ∈ q → k ∈ ks
 qn : q.Nodup
 rl : ∀ k, k ∈ ks → (r k).length ≤ 6
 ld : ∀ n, n ∈ ks → Rch ks r (Sc hs q pd) n
section
variable {hs : List (Option Nat)} {ks : List Nat} {r : Nat → List (Option Nat)} {w : Nat → Nat} {q : List Nat} {m : Nat} {pd : List (Option Nat)}
theorem G.inH (I : G hs ks r w q m pd) {k : Nat} (h : some k ∈ hs) : k ∈ ks := by
 refine Classical.byContradiction fun hk => ?_
 have h1 := I.al k hk
 have h2 := List.count_pos_iff.mpr h
 unfold cnt at h1; lia
theorem G.inR (I : G hs ks r w q m pd) {j k : Nat} (hj : j ∈ ks) (h : some k ∈ r j) : k ∈ ks := by
 refine Classical.byContradiction fun hk => ?_
 have h1 := I.al k hk
 have h2 := ins_of hj h
 unfold cnt at h1; lia
theorem G.inP (I : G hs ks r w q m pd) {k : Nat} (h : some k ∈ pd) : k ∈ ks := by
 refine Classical.byContradiction fun hk => ?_
 have h1 := I.al k hk
 have h2 := List.count_pos_iff.mpr h
 unfold cnt at h1; lia
theorem G.skip (I : G hs ks r w q m (Option.none :: pd)) : G hs ks r w q m pd := by
 have e : ∀ k, cnt hs ks r (Option.none :: pd) k = cnt hs ks r pd k := fun k => by unfold cnt; rw [List.count_cons_of_ne (by simp)]
 refine ⟨I.hl, I.nd, I.lt, fun k hk => (e k) ▸ I.al k hk, fun k hk => (e k) ▸ I.ct k hk, I.ps, I.qs, I.qn, I.rl, fun n hn => ?_⟩
 have key : ∀ n, Rch ks r (Sc hs q (Option.none :: pd)) n → Rch ks r (Sc hs q pd) n := fun n h => by
  induction h with
  | src h hn =>
   refine .src ?_ hn
   rcases h with h | h | h
   ·exact .inl h
   ·exact .inr (.inl h)
   ·exact .inr (.inr ((List.mem_cons.mp h).resolve_left (by simp)))
  | step _ h hn ih => exact .step ih h hn
 exact key n (I.ld n hn)
theorem G.more {k : Nat} (I : G hs ks r w q m (some k :: pd)) (hw : 1 < w k) : G hs ks r (updF w k (w k - 1)) (addN q k) m pd := by
 have hk : k ∈ ks := I.inP (.head _)
 have e : ∀ j, cnt hs ks r (some k :: pd) j = cnt hs ks r pd j + if j = k then 1 else 0 := fun j => by
  unfold cnt
  by_cases h : j = k
  ·subst h; rw [List.count_cons_self, if_pos rfl]; lia
  ·rw [List.count_cons_of_ne (by simpa using fun q => h q.symm), if_neg h]; rfl
 have w' : ∀ j, j ∈ ks → updF w k (w k - 1) j = cnt hs ks r pd j ∧ 1 ≤ updF w k (w k - 1) j := fun j hj => by
  have h1 := I.ct j hj
  have h2 := I.ps j hj
  rw [e j] at h1
  by_cases h : j = k
  ·subst h; rw [uF_is]; rw [if_pos rfl] at h1; lia
  ·rw [uF_ne h]; rw [if_neg h] at h1; lia
 refine ⟨I.hl, I.nd, I.lt, fun j hj => ?_, fun j hj => (w' j hj).1, fun j hj => (w' j hj).2, fun j hj => ?_, addN_nd I.qn, I.rl, fun n hn => ?_⟩
 ·have h1 := I.al j hj
  rw [e j] at h1; lia
 ·rcases addN_mem.mp hj with h | h
  ·exact I.qs j h
  ·exact h ▸ hk
 ·have key : ∀ n, Rch ks r (Sc hs q (some k :: pd)) n → Rch ks r (Sc hs (addN q k) pd) n := fun n h => by
   induction h with
   | src h hn =>
    refine .src ?_ hn
    rcases h with h | h | h
    ·exact .inl h
    ·exact .inr (.inl (addN_mem.mpr (.inl h)))
    ·rcases List.mem_cons.mp h with h | h
     ·exact .inr (.inl (addN_mem.mpr (.inr (Option.some.inj h))))
     ·exact .inr (.inr h)
   | step _ h hn ih => exact .step ih h hn
  exact key n (I.ld n hn)
theorem G.free {k : Nat} (I : G hs ks r w q m (some k :: pd)) (hw : w k = 1) : G hs (ks.erase k) r (updF w k 0) (q.erase k) m (pd ++ r k) := by
 have hk : k ∈ ks := I.inP (.head _)
 have e : ∀ j, cnt hs ks r (some k :: pd) j = cnt hs (ks.erase k) r (pd ++ r k) j + if j = k then 1 else 0 := fun j => by
  unfold cnt
  rw [ins_del hk, List.count_append]
  by_cases h : j = k
  ·subst h; rw [List.count_cons_self, if_pos rfl]; lia
  ·rw [List.count_cons_of_ne (by simpa using fun q => h q.symm), if_neg h]; lia
 have mm : ∀ j, j ∈ ks.erase k ↔ j ≠ k ∧ j ∈ ks := fun j => I.nd.mem_erase_iff
 refine ⟨I.hl, I.nd.erase k, fun j hj => I.lt j ((mm j).mp hj).2, fun j hj => ?_, fun j hj => ?_, fun j hj => ?_, fun j hj => ?_, I.qn.erase k, fun j hj => I.rl j ((mm j).mp hj).2, fun n hn => ?_⟩
 ·by_cases h : j = k
  ·subst h
   have h1 := I.ct j hk
   rw [e j, if_pos rfl] at h1; lia
  ·have h1 := I.al j fun q => hj ((mm j).mpr ⟨h, q⟩)
   rw [e j] at h1; lia
 ·obtain ⟨h, hj⟩ := (mm j).mp hj
  have h1 := I.ct j hj
  rw [e j, if_neg h] at h1
  rw [uF_ne h]; exact h1
 ·obtain ⟨h, hj⟩ := (mm j).mp hj
  rw [uF_ne h]; exact I.ps j hj
 ·obtain ⟨h, hj⟩ := I.qn.mem_erase_iff.mp hj
  exact (mm j).mpr ⟨h, I.qs j hj⟩
 ·have key : ∀ n, Rch ks r (Sc hs q (some k :: pd)) n → n ≠ k → Rch (ks.erase k) r (Sc hs (q.erase k) (pd ++ r k)) n := fun n h => by
   induction h with
   | src h hn =>
    intro hne
    refine .src ?_ ((mm _).mpr ⟨hne, hn⟩)
    rcases h with h | h | h
    ·exact .inl h
    ·exact .inr (.inl (I.qn.mem_erase_iff.mpr ⟨hne, h⟩))
    ·rcases List.mem_cons.mp h with h | h
     ·exact absurd (Option.some.inj h) hne
     ·exact .inr (.inr (List.mem_append_left _ h))
   | @step j n _ h hn' ih =>
    intro hne
    by_cases e : j = k
    ·exact .src (.inr (.inr (List.mem_append_right _ (e ▸ h)))) ((mm _).mpr ⟨hne, hn'⟩)
    ·exact .step (ih e) h ((mm _).mpr ⟨hne, hn'⟩)
  obtain ⟨h, hn⟩ := (mm n).mp hn
  exact key n (I.ld n hn) h
theorem count_set {xs : List (Option Nat)} {i : Nat} {x y : Option Nat} (h : i < xs.length) : (xs.set i x).count y + [(xs[i]?).getD none].count y = xs.count y + [x].count y := by
 induction xs generalizing i with
 | nil => simp at h
 | cons a r ih =>
  cases i with
  | zero => simp only [List.set_cons_zero, List.getElem?_cons_zero, Option.getD_some, List.count_cons, List.count_nil]; lia
  | succ i =>
   have := ih (i := i) (by simpa using h)
   simp only [List.set_cons_succ, List.getElem?_cons_succ, List.count_cons, List.count_nil] at this ⊢; lia
noncomputable def addW (w : Nat → Nat) : Option Nat → Nat → Nat
 | none => w
 | some k => updF w k (w k + 1)
theorem addW_at {x : Option Nat} {k : Nat} : addW w x k = w k + [x].count (some k) := by
 cases x with
 | none => rw [List.count_cons_of_ne (by simp)]; rfl
 | some j =>
  show updF w j (w j + 1) k = _
  by_cases h : k = j
  ·subst h; rw [uF_is, List.count_cons_self]; rfl
  ·rw [uF_ne h, List.count_cons_of_ne (by simpa using fun q => h q.symm)]; rfl
theorem set_mem {xs : List (Option Nat)} {i : Nat} {x y : Option Nat} (h : i < xs.length) (hy : y ∈ xs) : y ∈ xs.set i x ∨ y = (xs[i]?).getD none := by
 have h1 := count_set (x := x) (y := y) h
 have h2 := List.count_pos_iff.mpr hy
 by_cases e : y = (xs[i]?).getD none
 ·exact .inr e
 ·rw [List.count_cons_of_ne (fun q => e q.symm)] at h1
  exact .inl (List.count_pos_iff.mp (by rw [List.count_nil] at h1; lia))
theorem G.hand {i : Nat} {x : Option Nat} (I : G hs ks r w q m []) (hi : i < 8) (hx : ∀ k, x = some k → k ∈ ks) : G (hs.set i x) ks r (addW w x) q m [(hs[i]?).getD none] := by
 have hi : i < hs.length := by rw [I.hl]; exact hi
 have e : ∀ k, cnt (hs.set i x) ks r [(hs[i]?).getD Option.none] k = cnt hs ks r [] k + [x].count (some k) := fun k => by
  have := count_set (x := x) (y := some k) hi
  unfold cnt; rw [List.count_nil]; lia
 have x0 : ∀ k, k ∉ ks → [x].count (some k) = 0 := fun k hk => List.count_eq_zero.mpr fun h => hk (hx k (List.mem_singleton.mp h).symm)
 refine ⟨List.length_set.trans I.hl, I.nd, I.lt, fun k hk => ?_, fun k hk => ?_, fun k hk => ?_, I.qs, I.qn, I.rl, fun n hn => ?_⟩
 ·rw [e, x0 k hk, I.al k hk]
 ·rw [e, addW_at, I.ct k hk]
 ·rw [addW_at]; exact Nat.le_trans (I.ps k hk) (Nat.le_add_right _ _)
 ·have key : ∀ n, Rch ks r (Sc hs q []) n → Rch ks r (Sc (hs.set i x) q [(hs[i]?).getD Option.none]) n := fun n h => by
   induction h with
   | src h hn =>
    refine .src ?_ hn
    rcases h with h | h | h
    ·rcases set_mem (x := x) hi h with h | h
     ·exact .inl h
     ·exact .inr (.inr (List.mem_singleton.mpr h))
    ·exact .inr (.inl h)
    ·cases h
   | step _ h hn ih => exact .step ih h hn
  exact key n (I.ld n hn)
theorem G.slot {b i : Nat} {x : Option Nat} (I : G hs ks r w q m []) (hb : b ∈ ks) (hi : i < (r b).length) (hx : ∀ k, x = some k → k ∈ ks) : G hs ks (updF r b ((r b).set i x)) (addW w x) q m [((r b)[i]?).getD none] := by
 have e : ∀ k, cnt hs ks (updF r b ((r b).set i x)) [((r b)[i]?).getD Option.none] k = cnt hs ks r [] k + [x].count (some k) := fun k => by
  have h1 := count_set (x := x) (y := some k) hi
  have h2 := ins_upd (r := r) (y := some k) (xs := (r b).set i x) I.nd hb
  unfold cnt; rw [List.count_nil]; lia
 have x0 : ∀ k, k ∉ ks → [x].count (some k) = 0 := fun k hk => List.count_eq_zero.mpr fun h => hk (hx k (List.mem_singleton.mp h).symm)
 refine ⟨I.hl, I.nd, I.lt, fun k hk => ?_, fun k hk => ?_, fun k hk => ?_, I.qs, I.qn, fun k hk => ?_, fun n hn => ?_⟩
 ·rw [e, x0 k hk, I.al k hk]
 ·rw [e, addW_at, I.ct k hk]
 ·rw [addW_at]; exact Nat.le_trans (I.ps k hk) (Nat.le_add_right _ _)
 ·by_cases h : k = b
  ·subst h; rw [uF_is, List.length_set]; exact I.rl k hk
  ·rw [uF_ne h]; exact I.rl k hk
 ·have key : ∀ n, Rch ks r (Sc hs q []) n → Rch ks (updF r b ((r b).set i x)) (Sc hs q [((r b)[i]?).getD Option.none]) n := fun n h => by
   induction h with
   | src h hn =>
    refine .src ?_ hn
    rcases h with h | h | h
    ·exact .inl h
    ·exact .inr (.inl h)
    ·cases h
   | @step j n _ h hn ih =>
    by_cases e : j = b
    ·subst e
     rcases set_mem (x := x) hi h with h | h
     ·exact .step ih (by rw [uF_is]; exact h) hn
     ·exact .src (.inr (.inr (List.mem_singleton.mpr h))) hn
    ·exact .step ih (by rw [uF_ne e]; exact h) hn
  exact key n (I.ld n hn)
theorem G.make {i z : Nat} (I : G hs ks r w q m []) (hi : i < 8) (hz : z ≤ 6) : G (hs.set i (some m)) (ks ++ [m]) (updF r m (List.replicate z none)) (addW (updF w m 0) (some m)) q (m + 1) [(hs[i]?).getD none] := by
 have hm : m ∉ ks := fun h => Nat.lt_irrefl _ (I.lt m h)
 have hi : i < hs.length := by rw [I.hl]; exact hi
 have hr : ∀ j, j ∈ ks → updF r m (List.replicate z Option.none) j = r j := fun j hj => uF_ne fun e => hm (e ▸ hj)
 have rep : ∀ k, (List.replicate z (Option.none : Option Nat)).count (some k) = 0 := fun k => List.count_eq_zero.mpr fun h => by cases (List.mem_replicate.mp h).2
 have e : ∀ k, cnt (hs.set i (some m)) (ks ++ [m]) (updF r m (List.replicate z Option.none)) [(hs[i]?).getD Option.none] k = cnt hs ks r [] k + [some m].count (some k) := fun k => by
  have h1 := count_set (x := some m) (y := some k) hi
  have h2 := ins_app (ks := ks) (k := m) (r := updF r m (List.replicate z Option.none)) (y := some k)
  rw [ins_ext (y := some k) hr, uF_is, rep] at h2
  unfold cnt; rw [List.count_nil]; lia
 have mem : ∀ k, k ∈ ks ++ [m] → k ∈ ks ∨ k = m := fun k h => (List.mem_append.mp h).imp id List.mem_singleton.mp
 have ww : ∀ k, k ∈ ks ++ [m] → updF w m 0 k = cnt hs ks r [] k := fun k hk => by
  rcases mem k hk with h | h
  ·rw [uF_ne fun e => hm (by rw [← e]; exact h)]; exact I.ct k h
  ·subst h; rw [uF_is, I.al k hm]
 refine ⟨List.length_set.trans I.hl, app1_nd I.nd hm, fun k hk => ?_, fun k hk => ?_, fun k hk => ?_, fun k hk => ?_, fun k hk => List.mem_append_left _ (I.qs k hk), I.qn, fun k hk => ?_, fun n hn => ?_⟩
 ·rcases mem k hk with h | h
  ·exact Nat.lt_succ_of_lt (I.lt k h)
  ·rw [h]; exact Nat.lt_succ_self _
 ·have h1 : k ∉ ks := fun h => hk (List.mem_append_left _ h)
  have h2 : some m ≠ some k := fun h => hk (List.mem_append_right _ (List.mem_singleton.mpr (Option.some.inj h).symm))
  rw [e, I.al k h1, List.count_cons_of_ne h2]; rfl
 ·rw [e, addW_at, ww k hk]
 ·rw [addW_at]
  rcases mem k hk with h | h
  ·rw [uF_ne fun e => hm (by rw [← e]; exact h)]; exact Nat.le_trans (I.ps k h) (Nat.le_add_right _ _)
  ·subst h; rw [List.count_cons_self]; exact Nat.le_add_left _ _
 ·rcases mem k hk with h | h
  ·rw [hr k h]; exact I.rl k h
  ·rw [h, uF_is, List.length_replicate]; exact hz
 ·have key : ∀ n, Rch ks r (Sc hs q []) n → Rch (ks ++ [m]) (updF r m (List.replicate z Option.none)) (Sc (hs.set i (some m)) q [(hs[i]?).getD Option.none]) n := fun n h => by
   induction h with
   | src h hn =>
    refine .src ?_ (List.mem_append_left _ hn)
    rcases h with h | h | h
    ·rcases set_mem (x := some m) hi h with h | h
     ·exact .inl h
     ·exact .inr (.inr (List.mem_singleton.mpr h))
    ·exact .inr (.inl h)
    ·cases h
   | @step j n hj h hn ih => exact .step ih (by rw [hr j hj.mem]; exact h) (List.mem_append_left _ hn)
  rcases mem n hn with h | h
  ·exact key n (I.ld n h)
  ·subst h; exact .src (.inl (List.mem_set hi _)) hn
end
end Mine.Internal.Bx
set_option autoImplicit false
namespace Mine.Internal.L09
open Mine.Internal Mine.Internal.Bx
open PySem (Str PyData)
theorem get_keep {σ : H} {a : Nat} {o x : O} (h : σ.get a = some o) : (σ.push x).get a = some o := by rw [get_push_lt (get_lt h)]; exact h
theorem put_self {σ : H} {a : Nat} {o x : O} (h : σ.get a = some o) : (σ.put a x).get a = some x := get_put_eq (get_lt h)
noncomputable def mD (f : Nat → V) (ks : List Nat) : List (V × V) := ks.map fun (k : Nat) => (V.int (k : Int), f k)
theorem int_ne {a k : Nat} (h : a ≠ k) : ¬ (V.int (a : Int) = V.int (k : Int)) := fun e => h (by injection e with e; exact Int.ofNat.inj e)
section
variable {f : Nat → V} {k : Nat} {v : V}
theorem mD_get : ∀ {ks : List Nat}, k ∈ ks → dget (mD f ks) (.int (k : Int)) = some (f k)
 | a :: r, h => by
  show (if V.int (a : Int) = V.int (k : Int) then some (f a) else dget (mD f r) (.int (k : Int))) = _
  by_cases e : a = k
  ·subst e; rw [if_pos rfl]
  ·rw [if_neg (int_ne e)]
   exact mD_get ((List.mem_cons.mp h).resolve_left fun q => e q.symm)
theorem mD_miss : ∀ {ks : List Nat}, k ∉ ks → dget (mD f ks) (.int (k : Int)) = none
 | [], _ => rfl
 | a :: r, h => by
  show (if V.int (a : Int) = V.int (k : Int) then some (f a) else dget (mD f r) (.int (k : Int))) = _
  rw [if_neg (int_ne fun q => h (by subst q; exact .head _))]
  exact mD_miss fun q => h (.tail _ q)
theorem mD_in {ks : List Nat} : (dget (mD f ks) (.int (k : Int))).isSome = decide (k ∈ ks) := by
 by_cases h : k ∈ ks
 ·rw [mD_get h, decide_eq_true h]; rfl
 ·rw [mD_miss h, decide_eq_false h]; rfl
theorem mD_no : ∀ {ks : List Nat}, k ∉ ks → mD (updF f k v) ks = mD f ks
 | [], _ => rfl
 | a :: r, h => by
  show (V.int (a : Int), updF f k v a) :: mD (updF f k v) r = _
  rw [mD_no fun q => h (.tail _ q), uF_ne fun q => h (by subst q; exact .head _)]; rfl
theorem mD_set : ∀ {ks : List Nat}, k ∈ ks → ks.Nodup → dset (mD f ks) (.int (k : Int)) v = mD (updF f k v) ks
 | a :: r, h, nd => by
  have nd := List.nodup_cons.mp nd
  show (if V.int (a : Int) = V.int (k : Int) then (V.int (a : Int), v) :: mD f r else (V.int (a : Int), f a) :: dset (mD f r) (.int (k : Int)) v) = (V.int (a : Int), updF f k v a) :: mD (updF f k v) r
  by_cases e : a = k
  ·subst e; rw [if_pos rfl, mD_no nd.1, uF_is]
  ·rw [if_neg (int_ne e), uF_ne e, mD_set ((List.mem_cons.mp h).resolve_left fun q => e q.symm) nd.2]
theorem mD_add : ∀ {ks : List Nat}, k ∉ ks → dset (mD f ks) (.int (k : Int)) v = mD (updF f k v) (ks ++ [k])
 | [], _ => by show [(V.int (k : Int), v)] = [(V.int (k : Int), updF f k v k)]; rw [uF_is]
 | a :: r, h => by
  have e : a ≠ k := fun q => h (by subst q; exact .head _)
  show (if V.int (a : Int) = V.int (k : Int) then (V.int (a : Int), v) :: mD f r else (V.int (a : Int), f a) :: dset (mD f r) (.int (k : Int)) v) = (V.int (a : Int), updF f k v a) :: mD (updF f k v) (r ++ [k])
  rw [if_neg (int_ne e), uF_ne e, mD_add fun q => h (.tail _ q)]
theorem mD_del : ∀ {ks : List Nat}, ddel (mD f ks) (.int (k : Int)) = mD f (ks.erase k)
 | [] => rfl
 | a :: r => by
  show (if V.int (a : Int) = V.int (k : Int) then mD f r else (V.int (a : Int), f a) :: ddel (mD f r) (.int (k : Int))) = _
  rw [List.erase_cons]
  by_cases e : a = k
  ·subst e; rw [if_pos rfl, if_pos BEq.rfl]
  ·rw [if_neg (int_ne e), if_neg (by simpa using e), mD_del]; rfl
theorem mD_keys : ∀ {ks : List Nat}, intsOf ((mD f ks).map (·.1)) = some (ks.map Int.ofNat)
 | [] => rfl
 | a :: r => by
  show (intsOf ((mD f r).map (·.1))).map (Int.ofNat a :: ·) = _
  rw [mD_keys]; rfl
theorem mD_len {ks : List Nat} : (mD f ks).length = ks.length := List.length_map _
end
noncomputable def tF : Nat → V := fun _ => .bool true
theorem tD_set {q : List Nat} {k : Nat} (nd : q.Nodup) : dset (mD tF q) (.int (k : Int)) (.bool true) = mD tF (addN q k) := by
 have e : updF tF k (.bool true) = tF := by
  funext j
  by_cases h : j = k
  ·subst h; rw [uF_is]; rfl
  ·rw [uF_ne h]
 unfold addN
 by_cases h : k ∈ q
 ·rw [if_pos h, mD_set h nd, e]
 ·rw [if_neg h, mD_add h, e]
noncomputable def wF (w : Nat → Nat) : Nat → V := fun k => .int (w k : Int)
noncomputable def bF (b : Nat → Nat) : Nat → V := fun k => .ref (b k)
theorem wF_at {w : Nat → Nat} {k : Nat} : wF w k = .int (w k : Int) := rfl
theorem bF_at {w : Nat → Nat} {k : Nat} : bF w k = .ref (w k) := rfl
theorem wF_upd {w : Nat → Nat} {k v : Nat} : updF (wF w) k (.int (v : Int)) = wF (updF w k v) := by
 funext j; unfold wF; by_cases e : j = k
 ·subst e; rw [uF_is, uF_is]
 ·rw [uF_ne e, uF_ne e]
theorem bF_upd {w : Nat → Nat} {k v : Nat} : updF (bF w) k (.ref v) = bF (updF w k v) := by
 funext j; unfold bF; by_cases e : j = k
 ·subst e; rw [uF_is, uF_is]
 ·rw [uF_ne e, uF_ne e]
noncomputable def fixO : O → Bool
 | .rng _ _ _ => true
 | .tup _ => true
 | .inst _ _ => true
 | _ => false
set_option genInjectivity false in
structure Ps where
 n : Nat
 U : Nat → Prop
noncomputable def Kp (N : Ps) (σ σ' : H) : Prop := ∀ a o, (fixO o = true ∨ N.U a) → σ.get a = some o → σ'.get a = some o
theorem Kp.refl (N : Ps) (σ : H) : Kp N σ σ := fun _ _ _ h => h
theorem Kp.trans {N : Ps} {σ σ' σ'' : H} (h : Kp N σ σ') (k : Kp N σ' σ'') : Kp N σ σ'' := fun a o e g => k a o e (h a o e g)
theorem Kp.ext {N : Ps} {σ σ' σ'' : H} (h : Kp N σ σ') (x : Ext σ' σ'') : Kp N σ σ'' := fun a o e g => x a o (h a o e g)
theorem Kp.push {N : Ps} {σ σ' : H} (h : Kp N σ σ') (x : O) : Kp N σ (σ'.push x) := h.ext ((Ext.refl _).push x)
theorem Kp.put {N : Ps} {σ σ' : H} (h : Kp N σ σ') {a : Nat} {y : O} (hy : σ'.get a = some y) (hf : fixO y = false) (ha : ¬ N.U a) (x : O) : Kp N σ (σ'.put a x) := fun c o e g => by
 have g' := h c o e g
 rw [get_put_ne fun q => ?_]; exact g'
 subst q
 rw [hy] at g'; cases g'
 rcases e with e | e
 ·rw [hf] at e; cases e
 ·exact ha e
noncomputable def at5 (qa m : Nat) : O := .attrs [(47, .ref 4), (48, .ref 5), (49, .ref 6), (50, .ref qa), (51, .int (m : Int))]
structure Pl (N : Ps) (σ : H) (hs : List (Option Nat)) (kb : List Nat) (b : Nat → Nat) (r : Nat → List (Option Nat)) (kw : List Nat) (w : Nat → Nat) (qa : Nat) (q : List Nat) (m : Nat) : Prop where
 d : σ.get 1 = some (at5 qa m)
 p : σ.get 2 = some (.inst 24 1)
 h : σ.get 4 = some (.list (hs.map ov))
 b' : σ.get 5 = some (.dict (mD (bF b) kb))
 w' : σ.get 6 = some (.dict (mD (wF w) kw))
 q' : σ.get qa = some (.dict (mD tF q))
 bx : ∀ k, k ∈ kb → N.n < b k ∧ σ.get (b k) = some (.list ((r k).map ov))
 ij : ∀ j k, j ∈ kb → k ∈ kb → b j = b k → j = k
 qa7 : qa = 7 ∨ N.n < qa
 big : N.n < σ.length
 n7 : 7 ≤ N.n
 sm : kb.length ≤ 100 ∧ kw.length ≤ 100 ∧ q.length ≤ 100
 uo : (¬ N.U 1 ∧ ¬ N.U 4) ∧ (¬ N.U 5 ∧ ¬ N.U 6)
 uq : ¬ N.U qa
 ub : ∀ k, k ∈ kb → ¬ N.U (b k)
 ul : ∀ a, N.U a → a < σ.length
section
variable {N : Ps} {σ σ' : H} {hs : List (Option Nat)} {kb kw : List Nat} {b : Nat → Nat} {r : Nat → List (Option Nat)} {w : Nat → Nat} {qa : Nat} {q : List Nat} {m : Nat}
theorem Pl.u1 (A : Pl N σ hs kb b r kw w qa q m) : ¬ N.U 1 := A.uo.1.1
theorem Pl.u4 (A : Pl N σ hs kb b r kw w qa q m) : ¬ N.U 4 := A.uo.1.2
theorem Pl.u5 (A : Pl N σ hs kb b r kw w qa q m) : ¬ N.U 5 := A.uo.2.1
theorem Pl.u6 (A : Pl N σ hs kb b r kw w qa q m) : ¬ N.U 6 := A.uo.2.2
theorem ext_len {σ σ' : H} (h : Ext σ σ') : σ.length ≤ σ'.length := by
 cases e : σ.length with
 | zero => exact Nat.zero_le _
 | succ n =>
  have : n < σ.length := by lia
  exact get_lt (h n _ (List.getElem?_eq_getElem this))
theorem Pl.ex (A : Pl N σ hs kb b r kw w qa q m) (x : Ext σ σ') : Pl N σ' hs kb b r kw w qa q m := ⟨x _ _ A.d, x _ _ A.p, x _ _ A.h, x _ _ A.b', x _ _ A.w', x _ _ A.q', fun k hk => let ⟨h1, h3⟩ := A.bx k hk; ⟨h1, x _ _ h3⟩, A.ij, A.qa7, Nat.lt_of_lt_of_le A.big (ext_len x), A.n7, A.sm, A.uo, A.uq, A.ub, fun a h => Nat.lt_of_lt_of_le (A.ul a h) (ext_len x)⟩
theorem Pl.push (A : Pl N σ hs kb b r kw w qa q m) (x : O) : Pl N (σ.push x) hs kb b r kw w qa q m := A.ex ((Ext.refl _).push x)
theorem bx_qa (A : Pl N σ hs kb b r kw w qa q m) {k : Nat} (hk : k ∈ kb) : b k ≠ qa := fun e => by
 have h := (A.bx k hk).2
 rw [e, A.q'] at h; cases h
theorem Pl.ulp (A : Pl N σ hs kb b r kw w qa q m) {a : Nat} {x : O} : ∀ c, N.U c → c < (σ.put a x).length := fun c h => by rw [len_put]; exact A.ul c h
theorem Pl.put (A : Pl N σ hs kb b r kw w qa q m) {a : Nat} (h1 : 7 < a) (h2 : ∀ k, k ∈ kb → b k ≠ a) (h3 : qa ≠ a) (x : O) : Pl N (σ.put a x) hs kb b r kw w qa q m :=
 ⟨(get_put_ne (by lia)).trans A.d, (get_put_ne (by lia)).trans A.p, (get_put_ne (by lia)).trans A.h, (get_put_ne (by lia)).trans A.b', (get_put_ne (by lia)).trans A.w', (get_put_ne (Ne.symm h3)).trans A.q', fun k hk => let ⟨g1, g3⟩ := A.bx k hk; ⟨g1, (get_put_ne (Ne.symm (h2 k hk))).trans g3⟩, A.ij, A.qa7, by rw [len_put]; exact A.big, A.n7, A.sm, A.uo, A.uq, A.ub, A.ulp⟩
theorem Pl.bxp (A : Pl N σ hs kb b r kw w qa q m) {a : Nat} (ha : a ≤ 7) (x : O) : ∀ k, k ∈ kb → N.n < b k ∧ (σ.put a x).get (b k) = some (.list ((r k).map ov)) := fun k hk =>
 let ⟨g1, g3⟩ := A.bx k hk; ⟨g1, (get_put_ne (by have := A.n7; lia)).trans g3⟩
theorem Pl.qne (A : Pl N σ hs kb b r kw w qa q m) : 7 ≤ qa := by have := A.qa7; have := A.n7; lia
theorem Pl.setW (A : Pl N σ hs kb b r kw w qa q m) {kw₁ : List Nat} (w₁ : Nat → Nat) (hl : kw₁.length ≤ 100) : Pl N (σ.put 6 (.dict (mD (wF w₁) kw₁))) hs kb b r kw₁ w₁ qa q m :=
 ⟨(get_put_ne (by lia)).trans A.d, (get_put_ne (by lia)).trans A.p, (get_put_ne (by lia)).trans A.h, (get_put_ne (by lia)).trans A.b', put_self A.w', (get_put_ne (by have := A.qne; lia)).trans A.q', A.bxp (by lia) _, A.ij, A.qa7, by rw [len_put]; exact A.big, A.n7, ⟨A.sm.1, hl, A.sm.2.2⟩, A.uo, A.uq, A.ub, A.ulp⟩
theorem Pl.setQ (A : Pl N σ hs kb b r kw w qa q m) {q₁ : List Nat} (hl : q₁.length ≤ 100) : Pl N (σ.put qa (.dict (mD tF q₁))) hs kb b r kw w qa q₁ m := by
 have := A.qne
 exact ⟨(get_put_ne (by lia)).trans A.d, (get_put_ne (by lia)).trans A.p, (get_put_ne (by lia)).trans A.h, (get_put_ne (by lia)).trans A.b', (get_put_ne (by lia)).trans A.w', put_self A.q', fun k hk => let ⟨g1, g3⟩ := A.bx k hk; ⟨g1, (get_put_ne (Ne.symm (bx_qa A hk))).trans g3⟩, A.ij, A.qa7, by rw [len_put]; exact A.big, A.n7, ⟨A.sm.1, A.sm.2.1, hl⟩, A.uo, A.uq, A.ub, A.ulp⟩
theorem Pl.setH (A : Pl N σ hs kb b r kw w qa q m) (h₁ : List (Option Nat)) : Pl N (σ.put 4 (.list (h₁.map ov))) h₁ kb b r kw w qa q m :=
 ⟨(get_put_ne (by lia)).trans A.d, (get_put_ne (by lia)).trans A.p, put_self A.h, (get_put_ne (by lia)).trans A.b', (get_put_ne (by lia)).trans A.w', (get_put_ne (by have := A.qne; lia)).trans A.q', A.bxp (by lia) _, A.ij, A.qa7, by rw [len_put]; exact A.big, A.n7, A.sm, A.uo, A.uq, A.ub, A.ulp⟩
theorem Pl.setB (A : Pl N σ hs kb b r kw w qa q m) {kb₁ : List Nat} {b₁ : Nat → Nat} {r₁ : Nat → List (Option Nat)} (hl : kb₁.length ≤ 100) (hb : ∀ k, k ∈ kb₁ → N.n < b₁ k ∧ σ.get (b₁ k) = some (.list ((r₁ k).map ov))) (hi : ∀ j k, j ∈ kb₁ → k ∈ kb₁ → b₁ j = b₁ k → j = k) (hu : ∀ k, k ∈ kb₁ → ¬ N.U (b₁ k)) : Pl N (σ.put 5 (.dict (mD (bF b₁) kb₁))) hs kb₁ b₁ r₁ kw w qa q m :=
 ⟨(get_put_ne (by lia)).trans A.d, (get_put_ne (by lia)).trans A.p, (get_put_ne (by lia)).trans A.h, put_self A.b', (get_put_ne (by lia)).trans A.w', (get_put_ne (by have := A.qne; lia)).trans A.q', fun k hk => let ⟨g1, g3⟩ := hb k hk; ⟨g1, (get_put_ne (by have := A.n7; lia)).trans g3⟩, hi, A.qa7, by rw [len_put]; exact A.big, A.n7, ⟨hl, A.sm.2⟩, A.uo, A.uq, hu, A.ulp⟩
theorem Pl.setR (A : Pl N σ hs kb b r kw w qa q m) {k : Nat} (hk : k ∈ kb) (xs : List (Option Nat)) : Pl N (σ.put (b k) (.list (xs.map ov))) hs kb b (updF r k xs) kw w qa q m := by
 have := A.n7
 have hb := (A.bx k hk).1
 refine ⟨(get_put_ne (by lia)).trans A.d, (get_put_ne (by lia)).trans A.p, (get_put_ne (by lia)).trans A.h, (get_put_ne (by lia)).trans A.b', (get_put_ne (by lia)).trans A.w', (get_put_ne (bx_qa A hk)).trans A.q', fun j hj => ⟨(A.bx j hj).1, ?_⟩, A.ij, A.qa7, by rw [len_put]; exact A.big, A.n7, A.sm, A.uo, A.uq, A.ub, A.ulp⟩
 by_cases e : j = k
 ·subst e; rw [uF_is]; exact put_self (A.bx j hj).2
 ·rw [uF_ne e, get_put_ne fun q => e (A.ij k j hk hj q).symm]; exact (A.bx j hj).2
theorem Pl.setD (A : Pl N σ hs kb b r kw w qa q m) {qa₁ : Nat} {q₁ : List Nat} (m₁ : Nat) (h7 : qa₁ = 7 ∨ N.n < qa₁) (hq : σ.get qa₁ = some (.dict (mD tF q₁))) (hl : q₁.length ≤ 100) (hu : ¬ N.U qa₁) : Pl N (σ.put 1 (at5 qa₁ m₁)) hs kb b r kw w qa₁ q₁ m₁ :=
 ⟨put_self A.d, (get_put_ne (by lia)).trans A.p, (get_put_ne (by lia)).trans A.h, (get_put_ne (by lia)).trans A.b', (get_put_ne (by lia)).trans A.w', (get_put_ne (by have := A.n7; lia)).trans hq, A.bxp (by lia) _, A.ij, h7, by rw [len_put]; exact A.big, A.n7, ⟨A.sm.1, A.sm.2.1, hl⟩, A.uo, hu, A.ub, A.ulp⟩
theorem ov_at {xs : List (Option Nat)} {i : Nat} (h : i < xs.length) : (xs.map ov)[((i : Int)).toNat]? = some (ov ((xs[i]?).getD none)) := by simp [h]
theorem set_ov {xs : List (Option Nat)} {i : Nat} {x : Option Nat} : (xs.map ov).set ((i : Int)).toNat (ov x) = (xs.set i x).map ov := by rw [List.map_set]; rfl
theorem lt_ov {xs : List (Option Nat)} {i : Nat} (h : i < xs.length) : (i : Int) < ((xs.map ov).length : Int) := by rw [List.length_map]; lia
theorem le_lim {n : Nat} (h : n ≤ 1000) : n ≤ lim := by have : lim = 1000000 := rfl; lia
variable {d : Nat} {Q : V → H → Prop}
theorem eg21 {C : Calls} {loc : Loc} : ev prog C (.glo 21) loc = X.pure (.int 8) := rfl
theorem need_hand_ok {p : V} {k : Nat} (h1 : k < 8) (h : Q .none σ) : Ok (run prog 1000 (d + 1) true 26 [p, .int (k : Int)]) σ Q := by
 rw [ok_run (fd := PP.m_need_hand) rfl rfl]
 have h0' : (0 : Int) ≤ (k : Int) := Int.natCast_nonneg _
 have h1' : (k : Int) < 8 := by lia
 simp (disch := decide) only [PP.m_need_hand, eg21, ok_le, ok_lt, ok_truthb, h0', h1', za, zb, zc, zq, zs, zx, zA, zH, zK, zV, zX, z0, qd, qe, qF, qG, qH, qI, qJ, List.zip_cons_cons, List.zip_nil_right, List.foldl_cons, List.foldl_nil, qL, Nat.reduceBEq, qM, qN, decide_true]
 exact h
theorem need_box_ok {k : Nat} (A : Pl N σ hs kb b r kw w qa q m) (hk : k ∈ kb) (h : Q .none σ) : Ok (run prog 1000 (d + 1) true 27 [.ref 2, .int (k : Int)]) σ Q := by
 rw [ok_run (fd := PP.m_need_box) rfl rfl]
 simp (disch := decide) only [PP.m_need_box, ok_getAttr A.p A.d (n := 48) (v := .ref 5) rfl, ok_notInD A.b' (k := .int (k : Int)) rfl, mD_get hk, Option.isSome_some, ok_truthb, za, zb, zc, zq, zs, zx, zG, zX, qb, qc, qk, ql, qF, qG, qI, List.zip_cons_cons, List.zip_nil_right, List.foldl_cons, List.foldl_nil, qL, Nat.reduceBEq, qM, qN, Bool.not_true]
 exact h
theorem holds_ok {k : Nat} (A : Pl N σ hs kb b r kw w qa q m) (hl : hs.length = 8) (h1 : k < 8) (h : Q (ov ((hs[k]?).getD none)) σ) : Ok (run prog 1000 (d + 2) true 41 [.ref 2, .int (k : Int)]) σ Q := by
 rw [ok_run (fd := PP.m_holds) rfl rfl]
 simp (disch := decide) only [PP.m_holds, mx_inst A.p A.d, za, ze, zX, qt, qu, qB, qC, qD, qE, qG, qH, qI, qJ, List.zip_cons_cons, List.zip_nil_right, List.foldl_cons, List.foldl_nil, qL, Nat.reduceBEq, qM, qN]
 refine need_hand_ok h1 ?_
 simp (disch := decide) only [ok_getAttr A.p A.d (n := 47) (v := .ref 4) rfl, ok_getList A.h (Int.natCast_nonneg _) (ov_at (show k < hs.length by lia)), za, zc, zd, zf, zt, zu, zw, zX, qk, ql, qm, qo, qF, qG, qI, qL, Nat.reduceBEq, qM, qN]
 exact h
theorem points_ok {k : Nat} (A : Pl N σ hs kb b r kw w qa q m) (hk : k ∈ kb) (hr : (r k).length ≤ 6) (h : Q (.ref σ.length) (σ.push (.list ((r k).map ov)))) : Ok (run prog 1000 (d + 2) true 42 [.ref 2, .int (k : Int)]) σ Q := by
 rw [ok_run (fd := PP.m_points) rfl rfl]
 simp (disch := decide) only [PP.m_points, mx_inst A.p A.d, za, ze, zX, qt, qu, qB, qC, qD, qE, qG, qH, qI, qJ, List.zip_cons_cons, List.zip_nil_right, List.foldl_cons, List.foldl_nil, qL, Nat.reduceBEq, qM, qN]
 refine need_box_ok A hk ?_
 simp (disch := decide) only [ok_getAttr A.p A.d (n := 48) (v := .ref 5) rfl, ok_getDict A.b' rfl (mD_get hk), bF_at, ok_listL (A.bx k hk).2 (le_lim (by rw [List.length_map]; lia)), za, zc, zd, zf, zt, zu, zw, zX, qk, ql, qm, qo, qw, qB, qC, qD, qE, qF, qG, qH, qI, qJ, qL, Nat.reduceBEq, qM, qN]
 exact h
theorem weighs_ok {k : Nat} (A : Pl N σ hs kb b r kw w qa q m) (hk : k ∈ kb) (hk' : k ∈ kw) (h : Q (.int (w k : Int)) σ) : Ok (run prog 1000 (d + 2) true 43 [.ref 2, .int (k : Int)]) σ Q := by
 rw [ok_run (fd := PP.m_weighs) rfl rfl]
 simp (disch := decide) only [PP.m_weighs, mx_inst A.p A.d, za, ze, zX, qt, qu, qB, qC, qD, qE, qG, qH, qI, qJ, List.zip_cons_cons, List.zip_nil_right, List.foldl_cons, List.foldl_nil, qL, Nat.reduceBEq, qM, qN]
 refine need_box_ok A hk ?_
 simp (disch := decide) only [ok_getAttr A.p A.d (n := 49) (v := .ref 6) rfl, ok_getDict A.w' rfl (mD_get hk'), wF_at, za, zc, zd, zf, zt, zu, zw, zX, qk, ql, qm, qo, qF, qG, qI, qL, Nat.reduceBEq, qM, qN]
 exact h
theorem alive_ok (A : Pl N σ hs kb b r kw w qa q m) (hl : kb.length < 64) (h : Q (.ref σ.length) (σ.push (.list ((sortI (kb.map Int.ofNat)).map .int)))) : Ok (run prog 1000 (d + 1) true 44 [.ref 2]) σ Q := by
 rw [ok_run (fd := PP.m_alive) rfl rfl]
 simp (disch := decide) only [PP.m_alive, ok_getAttr A.p A.d (n := 48) (v := .ref 5) rfl, ok_sortedD A.b' mD_keys (by simpa using hl), za, zd, zt, zu, zw, zX, qk, ql, qw, qB, qC, qD, qE, qF, qG, qH, qI, qJ, List.zip_cons_cons, List.zip_nil_right, List.foldl_cons, List.foldl_nil, qL, Nat.reduceBEq, qM]
 exact h
theorem suspects_ok (A : Pl N σ hs kb b r kw w qa q m) (hl : q.length < 64) (h : Q (.ref σ.length) (σ.push (.list ((sortI (q.map Int.ofNat)).map .int)))) : Ok (run prog 1000 (d + 1) true 45 [.ref 2]) σ Q := by
 rw [ok_run (fd := PP.m_suspects) rfl rfl]
 simp (disch := decide) only [PP.m_suspects, ok_getAttr A.p A.d (n := 50) (v := .ref qa) rfl, ok_sortedD A.q' mD_keys (by simpa using hl), za, zd, zt, zu, zw, zX, qk, ql, qw, qB, qC, qD, qE, qF, qG, qH, qI, qJ, List.zip_cons_cons, List.zip_nil_right, List.foldl_cons, List.foldl_nil, qL, Nat.reduceBEq, qM]
 exact h
theorem counted_ok {x : Option Nat} (A : Pl N σ hs kb b r kw w qa q m) (nd : kw.Nodup) (hx : ∀ k, x = some k → k ∈ kw) (h : ∀ σ', Pl N σ' hs kb b r kw (addW w x) qa q m → Kp N σ σ' → Q .none σ') : Ok (run prog 1000 (d + 1) true 29 [.ref 2, ov x]) σ Q := by
 rw [ok_run (fd := PP.m_counted) rfl rfl]
 cases x with
 | none =>
  simp (disch := decide) only [PP.m_counted, ov, ok_isNot, ok_truthb, za, zb, zc, zq, zs, zx, zG, zT, zX, qb, qc, qF, qG, qH, qI, List.zip_cons_cons, List.zip_nil_right, List.foldl_cons, List.foldl_nil, qL, Nat.reduceBEq, qM, qN, ne_eq, not_true_eq_false, decide_false]
  exact h σ A (Kp.refl _ _)
 | some k =>
  have hk := hx k rfl
  have hs' : dset (mD (wF w) kw) (.int (k : Int)) (.int ((w k : Int) + 1)) = mD (wF (updF w k (w k + 1))) kw := by rw [mD_set hk nd, ← wF_upd]; rfl
  simp (disch := decide) only [PP.m_counted, ov, ok_isNot, ok_truthb, ok_getAttr A.p A.d (n := 49) (v := .ref 6) rfl, ok_getDict A.w' rfl (mD_get hk), wF_at, ok_add, ok_setDict (v := .int ((w k : Int) + 1)) A.w' (show prog.nf ≤ 6 by decide) (show isKey (.int (k : Int)) = true from rfl) (by rw [hs', mD_len]; exact le_lim (by have := A.sm; lia)), hs', za, zb, zc, zf, zl, zm, zn, zo, zq, zr, zx, zG, zT, zV, zX, zY, zZ, qb, qc, qk, ql, qm, qo, qF, qG, qH, qI, qK, List.zip_cons_cons, List.zip_nil_right, List.foldl_cons, List.foldl_nil, qL, Nat.reduceBEq, qM, qN, reduceCtorEq, ne_eq, not_false_eq_true, decide_true]
  exact h _ (A.setW _ A.sm.2.1) ((Kp.refl _ _).put A.w' rfl A.u6 _)
theorem light_none {p : V} {f : Nat} (h : Q .none σ) : Ok (run prog 1000 (d + 1) true 31 [p, .none, .ref f]) σ Q := by
 rw [ok_run (fd := PP.m_lighter) rfl rfl]
 simp (disch := decide) only [PP.m_lighter, ok_is, ok_truthb, za, zd, zq, zr, zv, zw, zG, zT, zX, qb, qc, qF, qG, qH, qI, List.zip_cons_cons, List.zip_nil_right, List.foldl_cons, List.foldl_nil, qL, Nat.reduceBEq, qM, qN, decide_true]
 exact h
end
end Mine.Internal.L09
set_option autoImplicit false
namespace Mine.Internal.L09
open Mine.Internal Mine.Internal.Bx
open PySem (Str PyData)
section
variable {P : Prog} {C : Calls} {F : Nat} {Q : Option V → Loc → H → Prop}
theorem ok_mono {α : Type} {x : X α} {σ : H} {R R' : α → H → Prop} (h : Ok x σ R) (k : ∀ a s, R a s → R' a s) : Ok x σ R' := by
 obtain ⟨a, s, e, h⟩ := ok_iff.mp h
 exact ok_iff.mpr ⟨a, s, e, k a s h⟩
theorem oks_mono {x : Option (R (Option V) × Loc × H)} {R R' : Option V → Loc → H → Prop} (h : OkS x R) (k : ∀ a l s, R a l s → R' a l s) : OkS x R' := by
 obtain ⟨a, l, s, e, h⟩ := oks_iff.mp h
 exact oks_iff.mpr ⟨a, l, s, e, k a l s h⟩
theorem w_inv {c : Ex} {b : Sts} (I : Nat → Loc → H → Prop)
  (step : ∀ n l s, I n l s → Ok (tst P C c l (ev P C c l)) s (fun t s' => bif t then OkS (exs P C F b l s') (fun r l' s'' => r = none ∧ ∃ k, k < n ∧ I k l' s'') else Q none l s')) :
  ∀ (g n : Nat) (l : Loc) (s : H), n < g → I n l s → OkW P C F g c b l s Q
 | 0, _, _, _, h, _ => absurd h (Nat.not_lt_zero _)
 | g + 1, n, l, s, h, hI => by
  rw [w_step]
  refine ok_mono (step n l s hI) fun t s' ht => ?_
  cases t with
  | false => exact ht
  | true =>
   refine oks_mono ht fun r l' s'' hr => ?_
   obtain ⟨rfl, k, hk, hI'⟩ := hr
   exact w_inv I step g k l' s'' (by lia) hI'
end
noncomputable def nV (l : List Nat) : List V := l.map fun (k : Nat) => V.int (k : Int)
theorem nV_app {l : List Nat} {k : Nat} : nV l ++ [.int (k : Int)] = nV (l ++ [k]) := by unfold nV; rw [List.map_append]; rfl
theorem nV_len {l : List Nat} : (nV l).length = l.length := List.length_map _
noncomputable def noD : O → Bool
 | .dict _ => false
 | .attrs _ => false
 | _ => true
noncomputable def Kf (N : Ps) (f : Nat) (σ σ' : H) : Prop := ∀ a o, a ≠ f → (noD o = true ∨ N.U a) → σ.get a = some o → σ'.get a = some o
theorem Kf.refl (N : Ps) (f : Nat) (σ : H) : Kf N f σ σ := fun _ _ _ _ h => h
theorem Kf.trans {N : Ps} {f : Nat} {σ σ' σ'' : H} (h : Kf N f σ σ') (k : Kf N f σ' σ'') : Kf N f σ σ'' := fun a o e1 e2 g => k a o e1 e2 (h a o e1 e2 g)
theorem Kf.put {N : Ps} {f : Nat} {σ σ' : H} (h : Kf N f σ σ') {a : Nat} {y : O} (hy : σ'.get a = some y) (hf : noD y = false) (ha : ¬ N.U a) (x : O) : Kf N f σ (σ'.put a x) := fun c o e1 e2 g => by
 have g' := h c o e1 e2 g
 rw [get_put_ne fun q => ?_]; exact g'
 subst q
 rw [hy] at g'; cases g'
 rcases e2 with e | e
 ·rw [hf] at e; cases e
 ·exact ha e
theorem Kf.putf {N : Ps} {f : Nat} {σ σ' : H} (h : Kf N f σ σ') (x : O) : Kf N f σ (σ'.put f x) := fun c o e1 e2 g => (get_put_ne (Ne.symm e1)).trans (h c o e1 e2 g)
structure FI (kb kw F : List Nat) : Prop where
 nb : kb.Nodup
 nf : F.Nodup
 sub : ∀ k, k ∈ F → k ∈ kb
 eq : kw = kb.filter fun k => decide (k ∉ F)
section
variable {kb kw F : List Nat}
theorem FI.mem (Z : FI kb kw F) {k : Nat} : k ∈ kw ↔ k ∈ kb ∧ k ∉ F := by rw [Z.eq, List.mem_filter, decide_eq_true_iff]
theorem FI.add (Z : FI kb kw F) {k : Nat} (hk : k ∈ kw) : FI kb (kw.erase k) (F ++ [k]) := by
 have h := Z.mem.mp hk
 refine ⟨Z.nb, app1_nd Z.nf h.2, fun j hj => ?_, ?_⟩
 ·rcases List.mem_append.mp hj with hj | hj
  ·exact Z.sub j hj
  ·rw [List.mem_singleton.mp hj]; exact h.1
 ·have nd : kw.Nodup := by rw [Z.eq]; exact Z.nb.filter _
  rw [nd.erase_eq_filter, Z.eq, List.filter_filter]
  refine List.filter_congr fun j _ => ?_
  by_cases h1 : j = k
  ·subst h1; simp
  ·simp [h1]
theorem FI.pop {k : Nat} (Z : FI kb kw (k :: F)) : FI (kb.erase k) kw F := by
 have nf := List.nodup_cons.mp Z.nf
 refine ⟨Z.nb.erase k, nf.2, fun j hj => Z.nb.mem_erase_iff.mpr ⟨fun e => nf.1 (by rw [← e]; exact hj), Z.sub j (.tail _ hj)⟩, ?_⟩
 rw [Z.eq, Z.nb.erase_eq_filter, List.filter_filter]
 refine List.filter_congr fun j _ => ?_
 by_cases h1 : j = k
 ·subst h1; simp
 ·simp [h1]
theorem FI.end' (Z : FI kb kw []) : kw = kb := by rw [Z.eq]; exact List.filter_eq_self.mpr fun _ _ => rfl
theorem FI.start (nd : kb.Nodup) : FI kb kb [] := ⟨nd, List.nodup_nil, fun k h => (nomatch h), (List.filter_eq_self.mpr fun _ _ => rfl).symm⟩
end
section
variable {N : Ps} {σ σ' : H} {hs : List (Option Nat)} {kb kw : List Nat} {b : Nat → Nat} {r : Nat → List (Option Nat)} {w : Nat → Nat} {qa : Nat} {q : List Nat} {m : Nat} {d : Nat} {Q : V → H → Prop}
theorem er_len {k : Nat} {l : List Nat} {n : Nat} (h : l.length ≤ n) : (l.erase k).length ≤ n := Nat.le_trans (List.length_erase_le ..) h
theorem ow_qa (A : Pl N σ hs kb b r kw w qa q m) : ¬ N.U qa := A.uq
theorem nf_qa (A : Pl N σ hs kb b r kw w qa q m) : prog.nf ≤ qa := Nat.le_trans (show prog.nf ≤ 7 by decide) A.qne
theorem light_more {k f : Nat} (A : Pl N σ hs kb b r kw w qa q m) (hk : k ∈ kw) (nd : kw.Nodup) (qn : q.Nodup) (hw : 1 < w k) (hq : q.length < 100) (h : ∀ σ', Pl N σ' hs kb b r kw (updF w k (w k - 1)) qa (addN q k) m → (∀ f, Kf N f σ σ') → Q .none σ') : Ok (run prog 1000 (d + 1) true 31 [.ref 2, .int (k : Int), .ref f]) σ Q := by
 rw [ok_run (fd := PP.m_lighter) rfl rfl]
 have e1 : (w k : Int) - 1 = ((w k - 1 : Nat) : Int) := by lia
 have hs' : dset (mD (wF w) kw) (.int (k : Int)) (.int ((w k : Int) - 1)) = mD (wF (updF w k (w k - 1))) kw := by
  rw [e1, mD_set hk nd, ← wF_upd]
 have A1 := A.setW (kw₁ := kw) (updF w k (w k - 1)) A.sm.2.1
 have k1 := fun f => (Kf.refl N f σ).put A.w' rfl A.u6 (.dict (mD (wF (updF w k (w k - 1))) kw))
 have hgt : ((w k - 1 : Nat) : Int) > 0 := by lia
 have hqa : (addN q k).length ≤ 100 := Nat.le_trans addN_len (by lia)
 have hqs : (dset (mD tF q) (.int (k : Int)) (.bool true)).length ≤ lim := by rw [tD_set qn, mD_len]; exact le_lim (by lia)
 simp (disch := decide) only [PP.m_lighter, ok_is, ok_truthb, ok_getAttr A.p A.d (n := 49) (v := .ref 6) rfl, ok_getDict A.w' rfl (mD_get hk), wF_at, ok_sub, ok_setDict (v := .int ((w k : Int) - 1)) A.w' (show prog.nf ≤ 6 by decide) (show isKey (.int (k : Int)) = true from rfl) (by rw [hs', mD_len]; exact le_lim (by have := A.sm; lia)), hs', za, zb, zc, zf, zl, zm, zn, zo, zq, zs, zG, zT, zV, zX, zY, zZ, qb, qc, qk, ql, qm, qo, qF, qG, qH, qI, qK, List.zip_cons_cons, List.zip_nil_right, List.foldl_cons, List.foldl_nil, qL, Nat.reduceBEq, qM, qN, reduceCtorEq, decide_false]
 generalize σ.put 6 (.dict (mD (wF (updF w k (w k - 1))) kw)) = σ1 at *
 simp (disch := decide) only [ok_getAttr A1.p A1.d (n := 49) (v := .ref 6) rfl, ok_getDict A1.w' rfl (mD_get hk), wF_at, uF_is, ok_gt, hgt, ok_truthb, ok_getAttr A1.p A1.d (n := 50) (v := .ref qa) rfl, ok_setDict A1.q' (nf_qa A) (show isKey (.int (k : Int)) = true from rfl) hqs, za, zc, zd, zf, zl, zm, zn, zo, zr, zv, zw, zU, zV, zX, qc, qk, ql, qo, qG, qH, qI, qJ, qK, qL, Nat.reduceBEq, qM, qN, decide_true]
 rw [tD_set qn]
 exact h _ (A1.setQ hqa) fun f => (k1 f).put A1.q' rfl (ow_qa A) _
theorem light_free {k f : Nat} {fr : List Nat} (A : Pl N σ hs kb b r kw w qa q m) (hk : k ∈ kw) (nd : kw.Nodup) (hw : w k = 1) (hf : 7 < f) (hb : ∀ k, k ∈ kb → b k ≠ f) (hqf : qa ≠ f) (g : σ.get f = some (.list (nV fr))) (hl : fr.length < 100)
  (h : ∀ σ', Pl N σ' hs kb b r (kw.erase k) (updF w k 0) qa (q.erase k) m → σ'.get f = some (.list (nV (fr ++ [k]))) → Kf N f σ σ' → Q .none σ') : Ok (run prog 1000 (d + 1) true 31 [.ref 2, .int (k : Int), .ref f]) σ Q := by
 rw [ok_run (fd := PP.m_lighter) rfl rfl]
 have e1 : ((1 : Nat) : Int) - 1 = ((0 : Nat) : Int) := rfl
 have hs' : dset (mD (wF w) kw) (.int (k : Int)) (.int ((0 : Nat) : Int)) = mD (wF (updF w k 0)) kw := by rw [mD_set hk nd, ← wF_upd]
 have A1 := A.setW (kw₁ := kw) (updF w k 0) A.sm.2.1
 have k1 := (Kf.refl N f σ).put A.w' rfl A.u6 (.dict (mD (wF (updF w k 0)) kw))
 have g1 : (σ.put 6 (.dict (mD (wF (updF w k 0)) kw))).get f = some (.list (nV fr)) := (get_put_ne (by lia)).trans g
 have h0 : ¬ (((0 : Nat) : Int) > 0) := by lia
 simp (disch := decide) only [PP.m_lighter, ok_is, ok_truthb, ok_getAttr A.p A.d (n := 49) (v := .ref 6) rfl, ok_getDict A.w' rfl (mD_get hk), wF_at, hw, ok_sub, e1, ok_setDict (v := .int ((0 : Nat) : Int)) A.w' (show prog.nf ≤ 6 by decide) (show isKey (.int (k : Int)) = true from rfl) (by rw [hs', mD_len]; exact le_lim (by have := A.sm; lia)), hs', za, zb, zc, zf, zl, zm, zn, zo, zq, zs, zG, zT, zV, zX, zY, zZ, qb, qc, qk, ql, qm, qo, qF, qG, qH, qI, qK, List.zip_cons_cons, List.zip_nil_right, List.foldl_cons, List.foldl_nil, qL, Nat.reduceBEq, qM, qN, reduceCtorEq, decide_false]
 generalize σ.put 6 (.dict (mD (wF (updF w k 0)) kw)) = σ1 at *
 simp (disch := decide) only [ok_getAttr A1.p A1.d (n := 49) (v := .ref 6) rfl, ok_getDict A1.w' rfl (mD_get hk), wF_at, uF_is, ok_gt, h0, ok_truthb, mx_dict A1.w', ok_dpop1 A1.w' (show prog.nf ≤ 6 by decide) (show isKey (.int (k : Int)) = true from rfl) (mD_get hk), mD_del, za, zb, zc, ze, zf, zs, zU, zV, zX, qc, qk, ql, qo, qt, qB, qC, qD, qE, qF, qG, qH, qI, qJ, qL, Nat.reduceBEq, qM, qN, decide_false]
 have A2 := A1.setW (kw₁ := kw.erase k) (updF w k 0) (er_len A.sm.2.1)
 have k2 := k1.put A1.w' rfl A1.u6 (.dict (mD (wF (updF w k 0)) (kw.erase k)))
 have g2 : (σ1.put 6 (.dict (mD (wF (updF w k 0)) (kw.erase k)))).get f = some (.list (nV fr)) := (get_put_ne (by lia)).trans g1
 generalize σ1.put 6 (.dict (mD (wF (updF w k 0)) (kw.erase k))) = σ2 at *
 simp (disch := decide) only [ok_getAttr A2.p A2.d (n := 50) (v := .ref qa) rfl, mx_dict A2.q', qG, qJ]
 refine ok_dpopD A2.q' (nf_qa A) (show isKey (.int (k : Int)) = true from rfl) fun v => ?_
 rw [mD_del]
 have A3 := A2.setQ (q₁ := q.erase k) (er_len A.sm.2.2)
 have k3 := k2.put A2.q' rfl (ow_qa A) (.dict (mD tF (q.erase k)))
 have g3 : (σ2.put qa (.dict (mD tF (q.erase k)))).get f = some (.list (nV fr)) := (get_put_ne hqf).trans g2
 generalize σ2.put qa (.dict (mD tF (q.erase k))) = σ3 at *
 simp (disch := decide) only [mx_list g3 (.inl rfl), ok_append g3 (show prog.nf ≤ f from Nat.le_trans (show prog.nf ≤ 7 by decide) (Nat.le_of_lt hf)) (le_lim (by rw [List.length_append, nV_len]; show fr.length + 1 ≤ 1000; lia)), nV_app, za, zb, zc, ze, zf, zx, zX, qt, qB, qC, qD, qE, qG, qH, qI, qJ, qL, Nat.reduceBEq, qM, qN]
 exact h _ (A3.put hf hb hqf _) (put_self g3) (k3.putf _)
theorem nd_len : ∀ {l s : List Nat}, l.Nodup → (∀ x, x ∈ l → x ∈ s) → l.length ≤ s.length
 | [], _, _, _ => Nat.zero_le _
 | a :: l, s, nd, h => by
  have nd := List.nodup_cons.mp nd
  have h1 := nd_len (l := l) (s := s.erase a) nd.2 fun x hx => (List.mem_erase_of_ne (fun e => nd.1 (by rw [← e]; exact hx))).mpr (h x (.tail _ hx))
  have h2 := List.length_erase_of_mem (h a (.head _))
  have h3 := List.length_pos_of_mem (h a (.head _))
  rw [List.length_cons]; lia
theorem qlen_of {pd : List (Option Nat)} (I : G hs kw r w q m pd) : q.length ≤ m := by
 have h := nd_len I.qn fun j hj => List.mem_range.mpr (I.lt j (I.qs j hj))
 rwa [List.length_range] at h
theorem klen_of {pd : List (Option Nat)} (I : G hs kw r w q m pd) : kw.length ≤ m := by
 have h := nd_len I.nd fun j hj => List.mem_range.mpr (I.lt j hj)
 rwa [List.length_range] at h
inductive Am (N : Ps) (hs : List (Option Nat)) (b : Nat → Nat) (r : Nat → List (Option Nat)) (qa m f T : Nat) (σ₀ : H) (kb fr F : List Nat) (pd : List (Option Nat)) (s : H) : Prop
 | mk (kw : List Nat) (w : Nat → Nat) (q : List Nat) (A : Pl N s hs kb b r kw w qa q m) (I : G hs kw r w q m (pd ++ F.flatMap r)) (Z : FI kb kw F) (g : s.get f = some (.list (nV fr))) (k : Kf N f σ₀ s) (t : fr.length + kw.length = T) : Am N hs b r qa m f T σ₀ kb fr F pd s
theorem light_ok {σ₀ : H} {x : Option Nat} {f T : Nat} {fr F : List Nat} {pd : List (Option Nat)} (M : Am N hs b r qa m f T σ₀ kb fr F (x :: pd) σ) (hf : 7 < f) (hb : ∀ k, k ∈ kb → b k ≠ f) (hqf : qa ≠ f) (hT : T ≤ 99) (hm : m ≤ 99)
  (h : ∀ σ' F', Am N hs b r qa m f T σ₀ kb (fr ++ F') (F ++ F') pd σ' → Q .none σ') : Ok (run prog 1000 (d + 1) true 31 [.ref 2, ov x, .ref f]) σ Q := by
 cases M with
 | mk kw w q A I Z g k t =>
  have I : G hs kw r w q m (x :: (pd ++ F.flatMap r)) := I
  cases x with
  | none =>
   refine light_none (h σ [] (.mk kw w q A ?_ ?_ ?_ k ?_))
   ·rw [List.append_nil]; exact I.skip
   ·rw [List.append_nil]; exact Z
   ·rw [List.append_nil]; exact g
   ·rw [List.append_nil]; exact t
  | some j =>
   have hj : j ∈ kw := I.inP (.head _)
   have h1 := I.ps j hj
   have h2 := List.length_pos_of_mem hj
   by_cases e : w j = 1
   ·refine light_free A hj I.nd e hf hb hqf g (by lia) fun σ' A' g' k' => h σ' [j] (.mk _ _ _ A' ?_ (Z.add hj) g' (k.trans k') ?_)
    ·rw [List.flatMap_append, List.flatMap_cons, List.flatMap_nil, List.append_nil, ← List.append_assoc]
     exact I.free e
    ·rw [List.length_append, List.length_erase_of_mem hj]; show fr.length + 1 + (kw.length - 1) = T; lia
   ·have hq := qlen_of I
    refine light_more A hj I.nd I.qn (by lia) (by lia) fun σ' A' k' => h σ' [] (.mk _ _ _ A' ?_ ?_ ?_ (k.trans (k' f)) ?_)
    ·rw [List.append_nil]; exact I.more (by lia)
    ·rw [List.append_nil]; exact Z
    ·rw [List.append_nil]; exact k' (f + 1) f _ (by lia) (.inl rfl) g
    ·rw [List.append_nil]; exact t
theorem slots_ok {σ₀ : H} {a j f T at' : Nat} {fr F : List Nat} {lc : Loc} {Q : Option V → Loc → H → Prop} (M : Am N hs b r qa m f T σ₀ kb fr F (r j) σ) (hf : 7 < f) (hb : ∀ k, k ∈ kb → b k ≠ f) (hqf : qa ≠ f) (hT : T ≤ 99) (hm : m ≤ 99) (ha : a ≠ f) (g : σ.get a = some (.list ((r j).map ov)))
  (e46 : lc 46 = some (.ref 2)) (e55 : lc 55 = some (.ref f)) (e56 : lc 56 = some (.int (at' : Int))) (e62 : lc 62 = some (.ref a))
  (h : ∀ l' σ' F', l' 46 = some (.ref 2) → l' 55 = some (.ref f) → l' 56 = some (.int ((at' + 1 : Nat) : Int)) → Am N hs b r qa m f T σ₀ kb (fr ++ F') (F ++ F') [] σ' → Q none l' σ') : OkS (exs prog (run prog 1000 (d + 1)) 1000 PP.m_let_go_4w_2 lc σ) Q := by
 refine oks_step rfl ?_
 rw [s_for]
 simp (disch := decide) only [e62, zy, zX, qK]
 refine ⟨_, it_list g, f_inv (fun i l s => s.get a = σ.get a ∧ l 46 = some (.ref 2) ∧ l 55 = some (.ref f) ∧ l 56 = some (.int (at' : Int)) ∧ ∃ F', Am N hs b r qa m f T σ₀ kb (fr ++ F') (F ++ F') ((r j).drop i) s) ⟨rfl, e46, e55, e56, [], by rw [List.append_nil, List.append_nil]; exact M⟩ ?_ ?_⟩
 ·rintro i l s y hy ⟨h0, h1, h2, h3, F', M'⟩
  obtain ⟨hi, hy⟩ := List.getElem?_eq_some_iff.mp hy
  rw [List.length_map] at hi
  rw [List.getElem_map] at hy
  subst hy
  rw [List.drop_eq_getElem_cons hi] at M'
  have A' : ∃ es, s.get 1 = some (.attrs es) ∧ s.get 2 = some (.inst 24 1) := by cases M' with | mk kw w q A I Z g k t => exact ⟨_, A.d, A.p⟩
  obtain ⟨es, d1, d2⟩ := A'
  refine oks_step rfl ?_
  simp (disch := decide) only [h1, h2, mx_inst d2 d1, ze, zX, qt, qu, qB, qC, qD, qE, qG, qH, qI, qJ, qL, Nat.reduceBEq, qM, qN]
  have M2 : Am N hs b r qa m f T s kb (fr ++ F') (F ++ F') ((r j)[i] :: (r j).drop (i + 1)) s := by cases M' with | mk kw w q A I Z g k t => exact .mk kw w q A I Z g (Kf.refl _ _ _) t
  have k0 : Kf N f σ₀ s := by cases M' with | mk kw w q A I Z g k t => exact k
  refine light_ok M2 hf hb hqf hT hm fun σ' F'' M3 => ?_
  simp (disch := decide) only [zb, zc, zf, qL, Nat.reduceBEq, qN]
  have k3 : Kf N f s σ' := by cases M3 with | mk kw w q A I Z g k t => exact k
  have g' : σ'.get a = σ.get a := by rw [g] at h0 ⊢; exact k3 a _ ha (.inl rfl) h0
  refine ⟨trivial, still_get g', g', h1, h2, h3, F' ++ F'', ?_⟩
  rw [← List.append_assoc, ← List.append_assoc]
  cases M3 with | mk kw w q A I Z g k t => exact .mk kw w q A I Z g (k0.trans k) t
 ·rintro l s ⟨h0, h1, h2, h3, F', M'⟩
  have e1 : (at' : Int) + 1 = ((at' + 1 : Nat) : Int) := rfl
  refine then_step rfl ?_
  simp (disch := decide) only [h3, ok_add, e1, zb, zc, zg, zh, zV, zX, zY, zZ, qH, qI]
  refine h _ s F' h1 h2 rfl ?_
  rw [List.length_map, List.drop_length] at M'
  exact M'
theorem letgo_ok {x : Option Nat} (A : Pl N σ hs kb b r kb w qa q m) (I : G hs kb r w q m [x]) (hm : m ≤ 99)
  (h : ∀ σ' f kb' w' q' fr, Pl N σ' hs kb' b r kb' w' qa q' m → G hs kb' r w' q' m [] → Kf N σ.length σ σ' → σ'.get f = some (.list (nV fr)) → (∀ k, k ∈ kb' → k ∈ kb) → Q (.ref f) σ') : Ok (run prog 1000 (d + 2) true 30 [.ref 2, ov x]) σ Q := by
 rw [ok_run (fd := PP.m_let_go) rfl rfl]
 have A1 := A.push (.list [])
 have g1 : (σ.push (.list [])).get σ.length = some (.list (nV [])) := get_push_eq
 have k1 : Kf N σ.length σ (σ.push (.list [])) := fun a o _ _ g => get_keep g
 have big := A.big
 have n7 := A.n7
 have kl := klen_of I
 have hbn : ∀ k, k ∈ kb → b k ≠ σ.length := fun k hk e => by
  have := get_lt (A.bx k hk).2; lia
 have hqf : qa ≠ σ.length := by have := get_lt A.q'; lia
 unfold PP.m_let_go
 refine oks_step rfl ?_
 simp (disch := decide) only [ok_alloc (o := .list []) rfl, zg, zh, qf, qg, qB, qH, List.zip_cons_cons, List.zip_nil_right, List.foldl_cons, List.foldl_nil]
 refine then_step rfl ?_
 generalize σ.push (.list []) = τ at *
 generalize hf : σ.length = f at *
 simp (disch := decide) only [mx_inst A1.p A1.d, ze, zX, qt, qu, qB, qC, qD, qE, qG, qH, qI, qJ, qL, Nat.reduceBEq, qM, qN]
 refine light_ok (T := kb.length) (pd := []) (F := []) (fr := []) (.mk kb w q A1 (by rw [List.flatMap_nil, List.append_nil]; exact I) (FI.start I.nd) g1 k1 (by rw [List.length_nil, Nat.zero_add])) (by lia) hbn hqf (by lia) hm fun τ' F' M => ?_
 refine then_step rfl ?_
 simp (disch := decide) only [zg, zh, zV, qJ]
 refine then_step rfl ?_
 rw [s_whl]
 rw [List.nil_append] at M
 refine w_inv (fun n l s => l 46 = some (.ref 2) ∧ l 55 = some (.ref f) ∧ ∃ i kb' fr, l 56 = some (.int ((i : Nat) : Int)) ∧ (∀ k, k ∈ kb' → k ∈ kb) ∧ kb'.length = n ∧ Am N hs b r qa m f kb.length σ kb' fr (fr.drop i) [] s) ?_ 1000 kb.length _ τ' (by lia) ⟨rfl, rfl, 0, kb, F', rfl, fun k hk => hk, rfl, M⟩
 rintro n l s ⟨h1, h2, i, kb', fr, h3, hsub, hn, M⟩
 have M' := M
 cases M with
 | mk kw w₁ q₁ A₁ I₁ Z g k t =>
  simp (disch := decide) only [h2, h3, ok_lenL g, nV_len, ok_lt, ok_truthb, zc, zG, zX, qb, qc, qw, qB, qC, qD, qE, qF, qG, qH, qI]
  by_cases hlt : i < fr.length
  ·have hlt' : (i : Int) < ((fr.length : Nat) : Int) := by lia
   rw [decide_eq_true hlt']
   show OkS (exs prog (run prog 1000 (d + 1)) 1000 PP.m_let_go_4w_1 l s) _
   have hd := List.drop_eq_getElem_cons hlt
   generalize hj : fr[i] = j at hd
   rw [hd] at Z I₁
   have hjb : j ∈ kb' := Z.sub j (.head _)
   have i0 : (nV fr)[((i : Int)).toNat]? = some (.int (j : Int)) := by unfold nV; simp [hlt, hj]
   refine oks_step rfl ?_
   simp (disch := decide) only [h1, h2, h3, ok_getAttr A₁.p A₁.d (n := 48) (v := .ref 5) rfl, mx_dict A₁.b', ok_getList g (Int.natCast_nonneg _) i0, ok_dpop1 A₁.b' (show prog.nf ≤ 5 by decide) (show isKey (.int (j : Int)) = true from rfl) (mD_get hjb), bF_at, mD_del, zg, zh, zX, qk, ql, qm, qo, qt, qB, qC, qD, qE, qF, qG, qH, qI, qJ]
   have gb := (A₁.bx j hjb).2
   have hbj := (A₁.bx j hjb).1
   have gb' : (s.put 5 (.dict (mD (bF b) (kb'.erase j)))).get (b j) = some (.list ((r j).map ov)) := (get_put_ne (by lia)).trans gb
   have g' : (s.put 5 (.dict (mD (bF b) (kb'.erase j)))).get f = some (.list (nV fr)) := (get_put_ne (by lia)).trans g
   have A2 := A₁.setB (kb₁ := kb'.erase j) (b₁ := b) (r₁ := r) (er_len A₁.sm.1) (fun c hc => A₁.bx c (List.mem_of_mem_erase hc)) (fun c e hc he => A₁.ij c e (List.mem_of_mem_erase hc) (List.mem_of_mem_erase he)) (fun c hc => A₁.ub c (List.mem_of_mem_erase hc))
   have k2 := k.put A₁.b' rfl A₁.u5 (.dict (mD (bF b) (kb'.erase j)))
   generalize s.put 5 (.dict (mD (bF b) (kb'.erase j))) = υ at *
   refine slots_ok (at' := i) (.mk kw w₁ q₁ A2 ?_ Z.pop g' k2 t) (by lia) (fun c hc => hbn c (hsub c (List.mem_of_mem_erase hc))) hqf (by lia) hm (hbn j (hsub j hjb)) gb' h1 h2 h3 rfl fun l' υ' F'' m46 m55 m56 M3 => ?_
   ·rw [List.flatMap_cons] at I₁; exact I₁
   ·have hl := List.length_erase_of_mem hjb
    have hp := List.length_pos_of_mem hjb
    refine ⟨rfl, (kb'.erase j).length, by lia, m46, m55, i + 1, kb'.erase j, fr ++ F'', m56, fun c hc => hsub c (List.mem_of_mem_erase hc), rfl, ?_⟩
    rw [List.drop_append_of_le_length (by lia)]
    exact M3
  ·have hlt' : ¬ ((i : Int) < ((fr.length : Nat) : Int)) := by lia
   rw [decide_eq_false hlt']
   show andThen prog (run prog 1000 (d + 1)) 1000 PP.m_let_go_5 (runK Q) none l s
   rw [List.drop_eq_nil_of_le (by lia)] at Z I₁
   obtain rfl := Z.end'
   refine then_step rfl ?_
   simp (disch := decide) only [h2, zd, zt, zu, zw, zX, qK]
   exact h s f kw w₁ q₁ fr A₁ (by rw [List.flatMap_nil, List.append_nil] at I₁; exact I₁) k g hsub
end
end Mine.Internal.L09
set_option autoImplicit false
namespace Mine.Internal.L09
open Mine.Internal Mine.Internal.Bx
open PySem (Str PyData)
section
variable {P : Prog} {C : Calls} {F : Nat} {loc : Loc} {σ σ' σ₁ : H} {k : Nat}
noncomputable def ErS (x : Option (R (Option V) × Loc × H)) (k : Nat) (σ' : H) : Prop := ∃ l, x = some (.err k, l, σ')
theorem ers_cons1 {s : St} {ss : Sts} (h : ErS (ex P C F s loc σ) k σ') : ErS (exs P C F (.cons s ss) loc σ) k σ' := by
 obtain ⟨l, h⟩ := h
 refine ⟨l, ?_⟩
 show (match ex P C F s loc σ with | some (.ok none, l₁, h₁) => exs P C F ss l₁ h₁ | r => r) = _
 rw [h]
theorem ers_cons2 {s : St} {ss : Sts} (h : OkS (ex P C F s loc σ) (fun r l σ₁ => r = none ∧ ErS (exs P C F ss l σ₁) k σ')) : ErS (exs P C F (.cons s ss) loc σ) k σ' := by
 obtain ⟨r, l, σ₁, h, rfl, l', h2⟩ := oks_iff.mp h
 refine ⟨l', ?_⟩
 show (match ex P C F s loc σ with | some (.ok none, l₁, h₁) => exs P C F ss l₁ h₁ | r => r) = _
 rw [h]; exact h2
theorem ers_var {e : Ex} {i : Nat} (h : ev P C e loc σ = some (.err k, σ')) : ErS (ex P C F (.asg (.var i) e) loc σ) k σ' := ⟨loc, by
 show onX (ev P C e loc) loc _ σ = _
 unfold onX; rw [h]⟩
theorem ers_ite {c : Ex} {a b : Sts} {t : Bool} (ht : tst P C c loc (ev P C c loc) σ = some (.ok t, σ₁)) (h : ErS (exs P C F (bif t then a else b) loc σ₁) k σ') : ErS (ex P C F (.ite c a b) loc σ) k σ' := by
 obtain ⟨l, h⟩ := h
 refine ⟨l, ?_⟩
 show onX (tst P C c loc (ev P C c loc)) loc _ σ = _
 unfold onX; rw [ht]
 cases t <;> exact h
theorem run_err {d f : Nat} {m : Bool} {args : List V} {fd : FD} (h1 : (if m then P.meths else P.funs).lookup f = some fd) (h2 : args.length = fd.params.length) (h : ErS (exs P (run P F d) F fd.body ((fd.params.zip args).foldl (fun l p => l.upd p.1 p.2) (fun _ => none)) σ) k σ') :
  run P F (d + 1) m f args σ = some (.err k, σ') := by
 obtain ⟨l, h⟩ := h
 unfold run
 rw [h1]
 dsimp only
 rw [if_pos h2, h]
theorem ev_meth {o : Ex} {args : Exs} {i p c dd : Nat} {vs : List V} {es : List (Nat × V)} (ho : ev P C o loc σ = some (.ok (.ref p), σ)) (ha : evs P C args loc σ = some (.ok vs, σ)) (h1 : σ.get p = some (.inst c dd)) (h2 : σ.get dd = some (.attrs es)) (hi : 12 < i) :
  ev P C (.meth o i args) loc σ = C true i (.ref p :: vs) σ := by
 rw [qt]
 unfold X.bind
 rw [ho]
 dsimp only
 have hk : kdOf (.ref p) σ = .inst := by unfold kdOf; simp only [h1, h2]
 unfold methX
 rw [hk]
 dsimp only
 rw [if_neg (Nat.not_le_of_lt hi)]
 unfold X.bind
 rw [ha]
theorem ers_expr {e : Ex} (h : ev P C e loc σ = some (.err k, σ')) : ErS (ex P C F (.expr e) loc σ) k σ' := ⟨loc, by
 show onX (ev P C e loc) loc _ σ = _
 unfold onX; rw [h]⟩
theorem s_try_ok {b : Sts} {cs : List (Nat × Ex)} {Q : Option V → Loc → H → Prop} (h : OkS (exs P C F b loc σ) Q) : OkS (ex P C F (.try b cs) loc σ) Q := by
 obtain ⟨o, l, σ₁, h, hq⟩ := oks_iff.mp h
 show OkS (tryX P (exs P C F b loc σ) cs) Q
 rw [h]; exact hq
theorem s_try_err {b : Sts} {cs : List (Nat × Ex)} {v : V} {Q : Option V → Loc → H → Prop} (h : ErS (exs P C F b loc σ) k σ') (hv : catchX P k cs = some v) (hq : ∀ l, Q (some v) l σ') : OkS (ex P C F (.try b cs) loc σ) Q := by
 obtain ⟨l, h⟩ := h
 show OkS (tryX P (exs P C F b loc σ) cs) Q
 rw [h]
 unfold tryX
 dsimp only
 rw [hv]
 exact hq l
end
section
variable {N : Ps} {σ σ' : H} {hs : List (Option Nat)} {kb kw ks : List Nat} {b : Nat → Nat} {r : Nat → List (Option Nat)} {w : Nat → Nat} {qa : Nat} {q : List Nat} {m : Nat} {d : Nat} {Q : V → H → Prop}
inductive Dn (N : Ps) (σ : H) (hs : List (Option Nat)) (ks : List Nat) (r : Nat → List (Option Nat)) (qa m : Nat) (v : V) (σ' : H) : Prop
 | mk (f : Nat) (ks' : List Nat) (b' : Nat → Nat) (w' : Nat → Nat) (q' fr : List Nat) (hv : v = .ref f) (A : Pl N σ' hs ks' b' r ks' w' qa q' m) (I : G hs ks' r w' q' m []) (k : Kp N σ σ') (g : σ'.get f = some (.list (nV fr))) (sub : ∀ k, k ∈ ks' → k ∈ ks) : Dn N σ hs ks r qa m v σ'
theorem Kf.kp {f : Nat} (h : Kf N f σ σ') (hf : σ.length ≤ f) : Kp N σ σ' := fun a o e g => h a o (Nat.ne_of_lt (Nat.lt_of_lt_of_le (get_lt g) hf)) (e.imp (fun e => by cases o <;> first | rfl | cases e) id) g
theorem handed_ok {i : Nat} {x : Option Nat} (A : Pl N σ hs ks b r ks w qa q m) (I : G (hs.set i x) ks r (addW w x) q m [(hs[i]?).getD none]) (nd : ks.Nodup) (hi : i < hs.length) (hx : ∀ k, x = some k → k ∈ ks) (hm : m ≤ 99)
  (h : ∀ v σ', Dn N σ (hs.set i x) ks r qa m v σ' → Q v σ') : Ok (run prog 1000 (d + 3) true 32 [.ref 2, .int (i : Int), ov x]) σ Q := by
 rw [ok_run (fd := PP.m_handed) rfl rfl]
 unfold PP.m_handed
 refine oks_step rfl ?_
 simp (disch := decide) only [mx_inst A.p A.d, ze, zX, qt, qu, qB, qC, qD, qE, qG, qH, qI, qJ, List.zip_cons_cons, List.zip_nil_right, List.foldl_cons, List.foldl_nil, qL, Nat.reduceBEq, qM, qN]
 refine counted_ok A nd hx fun σ1 A1 k1 => ?_
 refine then_step rfl ?_
 simp (disch := decide) only [ok_getAttr A1.p A1.d (n := 47) (v := .ref 4) rfl, ok_getList A1.h (Int.natCast_nonneg _) (ov_at hi), zg, zh, zX, qk, ql, qm, qo, qF, qG, qI, qL, Nat.reduceBEq, qM, qN]
 refine then_step rfl ?_
 simp (disch := decide) only [ok_getAttr A1.p A1.d (n := 47) (v := .ref 4) rfl, ok_setList A1.h (show prog.nf ≤ 4 by decide) (Int.natCast_nonneg _) (lt_ov hi), set_ov, zf, zl, zm, zn, zo, zX, qk, ql, qI, qK, qL, Nat.reduceBEq, qM, qN]
 have A2 := A1.setH (hs.set i x)
 have k2 := k1.put A1.h rfl A1.u4 (.list ((hs.set i x).map ov))
 generalize σ1.put 4 (.list ((hs.set i x).map ov)) = σ2 at *
 refine then_step rfl ?_
 simp (disch := decide) only [mx_inst A2.p A2.d, zt, zX, qt, qu, qB, qC, qD, qE, qG, qH, qI, qJ, qL, Nat.reduceBEq, qM, qN]
 refine letgo_ok A2 I hm fun σ' f kb' w' q' fr A' I' k' g' sub => ?_
 exact h _ σ' (.mk f kb' b w' q' fr rfl A' I' (k2.trans (k'.kp (Nat.le_refl _))) g' sub)
theorem pointed_ok {c i : Nat} {x : Option Nat} (A : Pl N σ hs ks b r ks w qa q m) (I : G hs ks (updF r c ((r c).set i x)) (addW w x) q m [((r c)[i]?).getD none]) (nd : ks.Nodup) (hc : c ∈ ks) (hi : i < (r c).length) (hx : ∀ k, x = some k → k ∈ ks) (hm : m ≤ 99)
  (h : ∀ v σ', Dn N σ hs ks (updF r c ((r c).set i x)) qa m v σ' → Q v σ') : Ok (run prog 1000 (d + 3) true 33 [.ref 2, .int (c : Int), .int (i : Int), ov x]) σ Q := by
 rw [ok_run (fd := PP.m_pointed) rfl rfl]
 unfold PP.m_pointed
 have n7 := A.n7
 have hbc := (A.bx c hc).1
 have nf : prog.nf ≤ b c := Nat.le_trans (show prog.nf ≤ 7 by decide) (by lia)
 refine oks_step rfl ?_
 simp (disch := decide) only [mx_inst A.p A.d, ze, zX, qt, qu, qB, qC, qD, qE, qG, qH, qI, qJ, List.zip_cons_cons, List.zip_nil_right, List.foldl_cons, List.foldl_nil, qL, Nat.reduceBEq, qM, qN]
 refine counted_ok A nd hx fun σ1 A1 k1 => ?_
 refine then_step rfl ?_
 simp (disch := decide) only [ok_getAttr A1.p A1.d (n := 48) (v := .ref 5) rfl, ok_getDict A1.b' rfl (mD_get hc), bF_at, ok_getList (A1.bx c hc).2 (Int.natCast_nonneg _) (ov_at hi), zg, zh, zX, qk, ql, qm, qo, qF, qG, qI, qL, Nat.reduceBEq, qM, qN]
 refine then_step rfl ?_
 simp (disch := decide) only [ok_getAttr A1.p A1.d (n := 48) (v := .ref 5) rfl, ok_getDict A1.b' rfl (mD_get hc), bF_at, ok_setList (A1.bx c hc).2 nf (Int.natCast_nonneg _) (lt_ov hi), set_ov, zf, zl, zm, zn, zo, zX, qk, ql, qm, qo, qF, qG, qI, qK, qL, Nat.reduceBEq, qM, qN]
 have A2 := A1.setR hc ((r c).set i x)
 have k2 := k1.put (A1.bx c hc).2 rfl (A1.ub c hc) (.list (((r c).set i x).map ov))
 generalize σ1.put (b c) (.list (((r c).set i x).map ov)) = σ2 at *
 refine then_step rfl ?_
 simp (disch := decide) only [mx_inst A2.p A2.d, zt, zX, qt, qu, qB, qC, qD, qE, qG, qH, qI, qJ, qL, Nat.reduceBEq, qM, qN]
 refine letgo_ok A2 I hm fun σ' f kb' w' q' fr A' I' k' g' sub => ?_
 exact h _ σ' (.mk f kb' b w' q' fr rfl A' I' (k2.trans (k'.kp (Nat.le_refl _))) g' sub)
theorem eg22 {C : Calls} {loc : Loc} : ev prog C (.glo 22) loc = X.pure (.int 6) := rfl
theorem eg23 {C : Calls} {loc : Loc} : ev prog C (.glo 23) loc = X.pure (.int 60) := rfl
theorem at5_set {v : V} {n : Nat} : aset [(47, V.ref 4), (48, .ref 5), (49, .ref 6), (50, .ref qa), (51, v)] 51 (.int (n : Int)) = [(47, .ref 4), (48, .ref 5), (49, .ref 6), (50, .ref qa), (51, .int (n : Int))] := rfl
theorem nones {z : Nat} : ((((List.range ((z : Int)).toNat).map fun (k : Nat) => V.int (k : Int)).filter fun _ => true).map fun _ => V.none) = (List.replicate z (none : Option Nat)).map ov := by
 rw [List.filter_eq_self.mpr (fun _ _ => rfl), Int.toNat_natCast, List.map_replicate]
 apply List.ext_getElem?
 intro i
 rw [List.getElem?_map, List.getElem?_map, List.getElem?_replicate]
 by_cases h : i < z
 ·rw [List.getElem?_range h, if_pos h]; rfl
 ·rw [List.getElem?_eq_none (by rw [List.length_range]; lia), if_neg h]; rfl
theorem comp_nones {C : Calls} {loc : Loc} {a z i : Nat} {Q : V → H → Prop} (h : σ.get a = some (.rng 0 (z : Int) 1)) (hz : z ≤ 100) :
  Ok (compX [i] false (tstAnd prog C .nil) (ev prog C .cnone) loc (.ref a)) σ Q = Q (.ref σ.length) (σ.push (.list ((List.replicate z none).map ov))) := by
 rw [c_pure (fun _ => true) (fun _ => .none) (it_range h (Int.natCast_nonneg _) (by lia)) (fun y hy => rfl) (fun y hy _ => rfl) (by rw [nones, List.length_map, List.length_replicate]; exact le_lim (by lia)), nones]
theorem make_ok {i z : Nat} (A : Pl N σ hs ks b r ks w qa q m) (I : G hs ks r w q m []) (hi : i < 8) (hz : z ≤ 6) (h60 : ks.length ≠ 60) (hm : m ≤ 98)
  (h : ∀ v σ', Dn N σ (hs.set i (some m)) (ks ++ [m]) (updF r m (List.replicate z none)) qa (m + 1) v σ' → Q v σ') :
  Ok (run prog 1000 (d + 4) true 34 [.ref 2, .int (i : Int), .int (z : Int)]) σ Q := by
 rw [ok_run (fd := PP.m_make) rfl rfl]
 have hl := I.hl
 have IM := I.make (i := i) hi hz
 have hmk : m ∉ ks := fun h => Nat.lt_irrefl _ (I.lt m h)
 have h0' : (0 : Int) ≤ (z : Int) := Int.natCast_nonneg _
 have h1' : (z : Int) ≤ 6 := by lia
 have h2' : ¬ ((((mD (bF b) ks).length : Nat) : Int) = 60) := by rw [mD_len]; lia
 have big := A.big
 have kl := klen_of I
 unfold PP.m_make
 refine oks_step rfl ?_
 simp (disch := decide) only [mx_inst A.p A.d, ze, zX, qt, qu, qB, qC, qD, qE, qG, qH, qI, qJ, List.zip_cons_cons, List.zip_nil_right, List.foldl_cons, List.foldl_nil, qL, Nat.reduceBEq, qM, qN]
 refine need_hand_ok hi ?_
 refine then_step rfl ?_
 simp (disch := decide) only [eg22, ok_le, ok_truthb, h0', h1', zb, zq, zs, zA, zH, zK, zV, zX, z0, qd, qe, qF, qG, qH, qI, qJ, qL, Nat.reduceBEq, qM, qN, decide_true]
 refine then_step rfl ?_
 simp (disch := decide) only [eg23, ok_getAttr A.p A.d (n := 48) (v := .ref 5) rfl, ok_lenD A.b', ok_eqI, h2', ok_truthb, zb, zq, zs, zG, zX, qb, qc, qk, ql, qw, qB, qC, qD, qE, qF, qG, qH, qI, qJ, qL, Nat.reduceBEq, qM, qN, decide_false]
 refine then_step rfl ?_
 simp (disch := decide) only [ok_getAttr A.p A.d (n := 51) (v := .int (m : Int)) rfl, zg, zh, zX, qk, ql, qI, qL, Nat.reduceBEq, qM, qN]
 refine then_step rfl ?_
 have e1 : (m : Int) + 1 = ((m + 1 : Nat) : Int) := rfl
 simp (disch := decide) only [ok_add, e1, ok_setAttr A.p A.d (show prog.nf ≤ 1 by decide) (show prog.attrs.contains 51 = true by decide) (show (aset [(47, V.ref 4), (48, .ref 5), (49, .ref 6), (50, .ref qa), (51, .int (m : Int))] 51 (.int ((m + 1 : Nat) : Int))).length ≤ 100 by rw [at5_set]; exact (show 5 ≤ 100 by decide)), at5_set, zf, zi, zj, zk, zV, zX, zY, zZ, qH, qI, qK, qL, Nat.reduceBEq, qM, qN]
 have A1 := A.setD (m + 1) A.qa7 A.q' A.sm.2.2 A.uq
 have k1 := (Kp.refl N σ).put A.d rfl A.u1 (at5 qa (m + 1))
 have n1 : (σ.put 1 (at5 qa (m + 1))).length = σ.length := len_put
 change andThen prog (run prog 1000 (d + 3)) 1000 PP.m_make_6 (runK Q) none _ (σ.put 1 (at5 qa (m + 1)))
 generalize σ.put 1 (at5 qa (m + 1)) = σ1 at *
 refine then_step rfl ?_
 simp (disch := decide) only [ok_range1, zl, zX, qw, qA, qB, qC, qD, qE, qF, qG, qH, qI, qL, Nat.reduceBEq, qM, qN]
 have A2 := A1.push (.rng 0 (z : Int) 1)
 have k2 := k1.push (.rng 0 (z : Int) 1)
 have g2 : (σ1.push (.rng 0 (z : Int) 1)).get σ1.length = some (.rng 0 (z : Int) 1) := get_push_eq
 have n2 : (σ1.push (.rng 0 (z : Int) 1)).length = σ.length + 1 := by rw [len_push, n1]
 generalize σ1.push (.rng 0 (z : Int) 1) = σ2 at *
 rw [comp_nones g2 (by lia)]
 have A3 := A2.push (.list ((List.replicate z none).map ov))
 have k3 := k2.push (.list ((List.replicate z none).map ov))
 have g3 : (σ2.push (.list ((List.replicate z none).map ov))).get σ2.length = some (.list ((List.replicate z none).map ov)) := get_push_eq
 have hbl : ∀ k, k ∈ ks → b k < σ.length := fun k hk => get_lt (A.bx k hk).2
 generalize σ2.push (.list ((List.replicate z none).map ov)) = σ3 at *
 rw [n2] at g3 ⊢
 have hs5 : dset (mD (bF b) ks) (.int (m : Int)) (.ref (σ.length + 1)) = mD (bF (updF b m (σ.length + 1))) (ks ++ [m]) := by rw [mD_add hmk, bF_upd]
 have hl5 : (ks ++ [m]).length ≤ 100 := by rw [List.length_append]; show ks.length + 1 ≤ 100; lia
 simp (disch := decide) only [ok_getAttr A3.p A3.d (n := 48) (v := .ref 5) rfl, ok_setDict (v := .ref (σ.length + 1)) A3.b' (show prog.nf ≤ 5 by decide) (show isKey (.int (m : Int)) = true from rfl) (by rw [hs5, mD_len]; exact le_lim (by lia)), hs5, zf, zm, zn, zo, zX, qk, ql, qI, qK, qL, Nat.reduceBEq, qM, qN]
 have mem : ∀ k, k ∈ ks ++ [m] → k = m ∨ (k ≠ m ∧ k ∈ ks) := fun k hk => by
  rcases List.mem_append.mp hk with hk | hk
  ·exact .inr ⟨fun e => hmk (by rw [← e]; exact hk), hk⟩
  ·exact .inl (List.mem_singleton.mp hk)
 have A4 := A3.setB (kb₁ := ks ++ [m]) (b₁ := updF b m (σ.length + 1)) (r₁ := updF r m (List.replicate z none)) hl5 (fun k hk => by
  rcases mem k hk with e | ⟨e, hk⟩
  ·subst e; rw [uF_is, uF_is]; exact ⟨by lia, g3⟩
  ·rw [uF_ne e, uF_ne e]; exact A3.bx k hk) (fun j k hj hk e => by
  rcases mem j hj with e1 | ⟨e1, hj⟩ <;> rcases mem k hk with e2 | ⟨e2, hk⟩
  ·rw [e1, e2]
  ·rw [e1, uF_is, uF_ne e2] at e; have := hbl k hk; lia
  ·rw [e2, uF_is, uF_ne e1] at e; have := hbl j hj; lia
  ·rw [uF_ne e1, uF_ne e2] at e; exact A3.ij j k hj hk e) (fun k hk => by
  rcases mem k hk with e | ⟨e, hk⟩
  ·subst e; rw [uF_is]; exact fun h => by have := A.ul _ h; lia
  ·rw [uF_ne e]; exact A3.ub k hk)
 have k4 := k3.put A3.b' rfl A3.u5 (.dict (mD (bF (updF b m (σ.length + 1))) (ks ++ [m])))
 generalize σ3.put 5 (.dict (mD (bF (updF b m (σ.length + 1))) (ks ++ [m]))) = σ4 at *
 refine then_step rfl ?_
 have hs6 : dset (mD (wF w) ks) (.int (m : Int)) (.int 0) = mD (wF (updF w m 0)) (ks ++ [m]) := by rw [mD_add hmk, ← wF_upd]; rfl
 simp (disch := decide) only [ok_getAttr A4.p A4.d (n := 49) (v := .ref 6) rfl, ok_setDict (v := .int 0) A4.w' (show prog.nf ≤ 6 by decide) (show isKey (.int (m : Int)) = true from rfl) (by rw [hs6, mD_len]; exact le_lim (by lia)), hs6, zf, zl, zm, zn, zo, zV, zX, qk, ql, qI, qJ, qK, qL, Nat.reduceBEq, qM, qN]
 have A5 := A4.setW (kw₁ := ks ++ [m]) (updF w m 0) hl5
 have k5 := k4.put A4.w' rfl A4.u6 (.dict (mD (wF (updF w m 0)) (ks ++ [m])))
 generalize σ4.put 6 (.dict (mD (wF (updF w m 0)) (ks ++ [m]))) = σ5 at *
 refine then_step rfl ?_
 simp (disch := decide) only [mx_inst A5.p A5.d, zt, zX, qt, qu, qB, qC, qD, qE, qG, qH, qI, qJ, qL, Nat.reduceBEq, qM, qN]
 refine handed_ok (x := some m) A5 IM IM.nd (by lia) (fun k e => ?_) (by lia) fun v σ' D => ?_
 ·cases e; exact List.mem_append_right _ (List.mem_singleton.mpr rfl)
 ·cases D with
  | mk f ks' b' w' q' fr hv A' I' k' g' sub => exact h v σ' (.mk f ks' b' w' q' fr hv A' I' (k5.trans k') g' sub)
end
end Mine.Internal.L09
set_option autoImplicit false
namespace Mine.Internal.L09
open Mine.Internal Mine.Internal.Bx
open PySem (Str PyData)
section
variable {N : Ps} {σ σ' : H} {hs : List (Option Nat)} {ks : List Nat} {b : Nat → Nat} {r : Nat → List (Option Nat)} {w : Nat → Nat} {qa : Nat} {q : List Nat} {m : Nat} {d : Nat} {Q : V → H → Prop}
theorem getD_mem {xs : List (Option Nat)} {i k : Nat} (e : (xs[i]?).getD none = some k) : some k ∈ xs := by
 cases h : xs[i]? with
 | none => rw [h] at e; cases e
 | some y => rw [h] at e; cases e; exact List.mem_of_getElem? h
theorem inHand (I : G hs ks r w q m []) {i k : Nat} (e : (hs[i]?).getD none = some k) : k ∈ ks := I.inH (getD_mem e)
theorem inSlot (I : G hs ks r w q m []) {c i k : Nat} (hc : c ∈ ks) (e : ((r c)[i]?).getD none = some k) : k ∈ ks := I.inR hc (getD_mem e)
theorem slot_ok {k i c : Nat} (A : Pl N σ hs ks b r ks w qa q m) (h8 : k < hs.length) (hk : (hs[k]?).getD none = some c) (hc : c ∈ ks) (hi : i < (r c).length) (h : Q (.int (c : Int)) σ) : Ok (run prog 1000 (d + 1) true 28 [.ref 2, .int (k : Int), .int (i : Int)]) σ Q := by
 rw [ok_run (fd := PP.m_box_with_slot) rfl rfl]
 have h0' : (0 : Int) ≤ (i : Int) := Int.natCast_nonneg _
 have h1' : (i : Int) < (((r c).map ov).length : Int) := lt_ov hi
 simp (disch := decide) only [PP.m_box_with_slot, ok_getAttr A.p A.d (n := 47) (v := .ref 4) rfl, ok_getList A.h (Int.natCast_nonneg _) (ov_at h8), hk, ov, ok_is, ok_truthb, ok_getAttr A.p A.d (n := 48) (v := .ref 5) rfl, ok_getDict A.b' rfl (mD_get hc), bF_at, ok_lenL (A.bx c hc).2, ok_le, ok_lt, h0', h1', za, zb, zc, zd, zg, zh, zq, zs, zt, zu, zw, zA, zG, zH, zK, zT, zV, zX, z0, qb, qc, qd, qe, qk, ql, qm, qo, qw, qB, qC, qD, qE, qF, qG, qH, qI, qJ, qK, List.zip_cons_cons, List.zip_nil_right, List.foldl_cons, List.foldl_nil, qL, Nat.reduceBEq, qM, qN, reduceCtorEq, decide_true, decide_false]
 exact h
theorem hold_ok {i j : Nat} (A : Pl N σ hs ks b r ks w qa q m) (I : G hs ks r w q m []) (hi : i < 8) (hj : j < 8) (hm : m ≤ 99) (h : ∀ v σ', Dn N σ (hs.set i ((hs[j]?).getD none)) ks r qa m v σ' → Q v σ') : Ok (run prog 1000 (d + 4) true 35 [.ref 2, .int (i : Int), .int (j : Int)]) σ Q := by
 have hl := I.hl
 rw [ok_run (fd := PP.m_hold) rfl rfl]
 simp (disch := decide) only [PP.m_hold, mx_inst A.p A.d, za, ze, zX, qt, qu, qB, qC, qD, qE, qG, qH, qI, qJ, List.zip_cons_cons, List.zip_nil_right, List.foldl_cons, List.foldl_nil, qL, Nat.reduceBEq, qM, qN]
 refine need_hand_ok hi ?_
 simp (disch := decide) only [mx_inst A.p A.d, za, zc, ze, zf, zX, qt, qu, qB, qC, qD, qE, qG, qH, qI, qJ, qL, Nat.reduceBEq, qM, qN]
 refine need_hand_ok hj ?_
 simp (disch := decide) only [mx_inst A.p A.d, ok_getAttr A.p A.d (n := 47) (v := .ref 4) rfl, ok_getList A.h (Int.natCast_nonneg _) (ov_at (show j < hs.length by lia)), za, zc, zf, zt, zX, qk, ql, qm, qo, qt, qu, qB, qC, qD, qE, qF, qG, qH, qI, qJ, qL, Nat.reduceBEq, qM, qN]
 exact handed_ok A (I.hand hi fun k e => inHand I e) I.nd (by lia) (fun k e => inHand I e) hm h
theorem drop_ok {i : Nat} (A : Pl N σ hs ks b r ks w qa q m) (I : G hs ks r w q m []) (hi : i < 8) (hm : m ≤ 99) (h : ∀ v σ', Dn N σ (hs.set i none) ks r qa m v σ' → Q v σ') : Ok (run prog 1000 (d + 4) true 36 [.ref 2, .int (i : Int)]) σ Q := by
 have hl := I.hl
 rw [ok_run (fd := PP.m_drop) rfl rfl]
 simp (disch := decide) only [PP.m_drop, mx_inst A.p A.d, za, ze, zX, qt, qu, qB, qC, qD, qE, qG, qH, qI, qJ, List.zip_cons_cons, List.zip_nil_right, List.foldl_cons, List.foldl_nil, qL, Nat.reduceBEq, qM, qN]
 refine need_hand_ok hi ?_
 simp (disch := decide) only [mx_inst A.p A.d, za, zc, zf, zt, zT, zX, qt, qu, qB, qC, qD, qE, qG, qH, qI, qJ, qL, Nat.reduceBEq, qM, qN]
 exact handed_ok (x := none) A (I.hand hi fun k e => nomatch e) I.nd (by lia) (fun k e => nomatch e) hm h
theorem put_ok {k i j c : Nat} (A : Pl N σ hs ks b r ks w qa q m) (I : G hs ks r w q m []) (hk8 : k < 8) (hj : j < 8) (hk : (hs[k]?).getD none = some c) (hi : i < (r c).length) (hm : m ≤ 99) (h : ∀ v σ', Dn N σ hs ks (updF r c ((r c).set i ((hs[j]?).getD none))) qa m v σ' → Q v σ') : Ok (run prog 1000 (d + 4) true 37 [.ref 2, .int (k : Int), .int (i : Int), .int (j : Int)]) σ Q := by
 have hl := I.hl
 have hc := inHand I hk
 rw [ok_run (fd := PP.m_put) rfl rfl]
 simp (disch := decide) only [PP.m_put, mx_inst A.p A.d, za, ze, zX, qt, qu, qB, qC, qD, qE, qG, qH, qI, qJ, List.zip_cons_cons, List.zip_nil_right, List.foldl_cons, List.foldl_nil, qL, Nat.reduceBEq, qM, qN]
 refine need_hand_ok hk8 ?_
 simp (disch := decide) only [mx_inst A.p A.d, za, zc, ze, zf, zX, qt, qu, qB, qC, qD, qE, qG, qH, qI, qJ, qL, Nat.reduceBEq, qM, qN]
 refine need_hand_ok hj ?_
 simp (disch := decide) only [mx_inst A.p A.d, za, zc, zf, zg, zX, qt, qu, qB, qC, qD, qE, qG, qH, qI, qJ, qL, Nat.reduceBEq, qM, qN]
 refine slot_ok A (by lia) hk hc hi ?_
 simp (disch := decide) only [mx_inst A.p A.d, ok_getAttr A.p A.d (n := 47) (v := .ref 4) rfl, ok_getList A.h (Int.natCast_nonneg _) (ov_at (show j < hs.length by lia)), za, zc, zh, zt, zX, qk, ql, qm, qo, qt, qu, qB, qC, qD, qE, qF, qG, qH, qI, qJ, qL, Nat.reduceBEq, qM, qN]
 exact pointed_ok A (I.slot hc hi fun k e => inHand I e) I.nd hc hi (fun k e => inHand I e) hm h
theorem empty_ok {k i c : Nat} (A : Pl N σ hs ks b r ks w qa q m) (I : G hs ks r w q m []) (hk8 : k < 8) (hk : (hs[k]?).getD none = some c) (hi : i < (r c).length) (hm : m ≤ 99) (h : ∀ v σ', Dn N σ hs ks (updF r c ((r c).set i none)) qa m v σ' → Q v σ') : Ok (run prog 1000 (d + 4) true 38 [.ref 2, .int (k : Int), .int (i : Int)]) σ Q := by
 have hl := I.hl
 have hc := inHand I hk
 rw [ok_run (fd := PP.m_empty) rfl rfl]
 simp (disch := decide) only [PP.m_empty, mx_inst A.p A.d, za, ze, zX, qt, qu, qB, qC, qD, qE, qG, qH, qI, qJ, List.zip_cons_cons, List.zip_nil_right, List.foldl_cons, List.foldl_nil, qL, Nat.reduceBEq, qM, qN]
 refine need_hand_ok hk8 ?_
 simp (disch := decide) only [mx_inst A.p A.d, za, zc, zf, zg, zX, qt, qu, qB, qC, qD, qE, qG, qH, qI, qJ, qL, Nat.reduceBEq, qM, qN]
 refine slot_ok A (by lia) hk hc hi ?_
 simp (disch := decide) only [mx_inst A.p A.d, za, zc, zh, zt, zT, zX, qt, qu, qB, qC, qD, qE, qG, qH, qI, qJ, qL, Nat.reduceBEq, qM, qN]
 exact pointed_ok (x := none) A (I.slot hc hi fun k e => nomatch e) I.nd hc hi (fun k e => nomatch e) hm h
theorem take_ok {k i j c : Nat} (A : Pl N σ hs ks b r ks w qa q m) (I : G hs ks r w q m []) (hk8 : k < 8) (hj : j < 8) (hk : (hs[j]?).getD none = some c) (hi : i < (r c).length) (hm : m ≤ 99) (h : ∀ v σ', Dn N σ (hs.set k (((r c)[i]?).getD none)) ks r qa m v σ' → Q v σ') : Ok (run prog 1000 (d + 4) true 39 [.ref 2, .int (k : Int), .int (j : Int), .int (i : Int)]) σ Q := by
 have hl := I.hl
 have hc := inHand I hk
 rw [ok_run (fd := PP.m_take) rfl rfl]
 simp (disch := decide) only [PP.m_take, mx_inst A.p A.d, za, ze, zX, qt, qu, qB, qC, qD, qE, qG, qH, qI, qJ, List.zip_cons_cons, List.zip_nil_right, List.foldl_cons, List.foldl_nil, qL, Nat.reduceBEq, qM, qN]
 refine need_hand_ok hk8 ?_
 simp (disch := decide) only [mx_inst A.p A.d, za, zc, ze, zf, zX, qt, qu, qB, qC, qD, qE, qG, qH, qI, qJ, qL, Nat.reduceBEq, qM, qN]
 refine need_hand_ok hj ?_
 simp (disch := decide) only [mx_inst A.p A.d, za, zc, zf, zg, zX, qt, qu, qB, qC, qD, qE, qG, qH, qI, qJ, qL, Nat.reduceBEq, qM, qN]
 refine slot_ok A (by lia) hk hc hi ?_
 simp (disch := decide) only [mx_inst A.p A.d, ok_getAttr A.p A.d (n := 48) (v := .ref 5) rfl, ok_getDict A.b' rfl (mD_get hc), bF_at, ok_getList (A.bx c hc).2 (Int.natCast_nonneg _) (ov_at hi), za, zc, zh, zt, zX, qk, ql, qm, qo, qt, qu, qB, qC, qD, qE, qF, qG, qH, qI, qJ, qL, Nat.reduceBEq, qM, qN]
 exact handed_ok A (I.hand hk8 fun k e => inSlot I hc e) I.nd (by lia) (fun k e => inSlot I hc e) hm h
theorem need_hand_err {k : Nat} (h1 : ¬ k < 8) : run prog 1000 (d + 1) true 26 [.ref 2, .int (k : Int)] σ = some (.err 17, σ) := by
 refine run_err (fd := PP.m_need_hand) rfl rfl ?_
 have h0' : (0 : Int) ≤ (k : Int) := Int.natCast_nonneg _
 have h1' : ¬ ((k : Int) < 8) := by lia
 unfold PP.m_need_hand
 refine ers_cons1 (ers_ite (t := true) (σ₁ := σ) (ok_eq ?_) (ers_cons1 ⟨_, rfl⟩))
 simp (disch := decide) only [eg21, ok_le, ok_lt, ok_truthb, h0', h1', zA, zH, zL, zV, zX, z0, qd, qe, qF, qG, qH, qI, qJ, List.zip_cons_cons, List.zip_nil_right, List.foldl_cons, List.foldl_nil, qL, Nat.reduceBEq, qM, qN, decide_true, decide_false]
 exact ⟨trivial, trivial⟩
noncomputable def Bad (k : Nat) : Prop := k = 17 ∨ k = 18 ∨ k = 19 ∨ k = 20 ∨ k = 85
theorem slot_err {k i : Nat} (A : Pl N σ hs ks b r ks w qa q m) (I : G hs ks r w q m []) (h8 : k < 8) (h : ∀ c, (hs[k]?).getD none = some c → (r c).length ≤ i) : ∃ e, Bad e ∧ run prog 1000 (d + 1) true 28 [.ref 2, .int (k : Int), .int (i : Int)] σ = some (.err e, σ) := by
 have h8 : k < hs.length := by rw [I.hl]; exact h8
 have h0' : (0 : Int) ≤ (i : Int) := Int.natCast_nonneg _
 cases hk : (hs[k]?).getD none with
 | none =>
  refine ⟨20, .inr (.inr (.inr (.inl rfl))), run_err (fd := PP.m_box_with_slot) rfl rfl ?_⟩
  unfold PP.m_box_with_slot
  refine ers_cons2 ?_
  simp (disch := decide) only [ok_getAttr A.p A.d (n := 47) (v := .ref 4) rfl, ok_getList A.h (Int.natCast_nonneg _) (ov_at h8), hk, ov, zg, zh, zX, qk, ql, qm, qo, qF, qG, qI, List.zip_cons_cons, List.zip_nil_right, List.foldl_cons, List.foldl_nil, qL, Nat.reduceBEq, qM, qN]
  refine ⟨trivial, ers_cons1 (ers_ite (t := true) (σ₁ := σ) (ok_eq ?_) (ers_cons1 ⟨_, rfl⟩))⟩
  simp (disch := decide) only [ok_is, ok_truthb, zG, zT, zX, qb, qc, qF, qG, qH, qI, qL, Nat.reduceBEq, qM, qN, decide_true]
  exact ⟨trivial, trivial⟩
 | some c =>
  have hc := inHand I hk
  have h1' : ¬ ((i : Int) < (((r c).map ov).length : Int)) := by rw [List.length_map]; have := h c hk; lia
  refine ⟨85, .inr (.inr (.inr (.inr rfl))), run_err (fd := PP.m_box_with_slot) rfl rfl ?_⟩
  unfold PP.m_box_with_slot
  refine ers_cons2 ?_
  simp (disch := decide) only [ok_getAttr A.p A.d (n := 47) (v := .ref 4) rfl, ok_getList A.h (Int.natCast_nonneg _) (ov_at h8), hk, ov, zg, zh, zX, qk, ql, qm, qo, qF, qG, qI, List.zip_cons_cons, List.zip_nil_right, List.foldl_cons, List.foldl_nil, qL, Nat.reduceBEq, qM, qN]
  refine ⟨trivial, ers_cons2 ?_⟩
  simp (disch := decide) only [ok_is, ok_truthb, zb, zq, zs, zG, zT, zX, qb, qc, qF, qG, qH, qI, qL, Nat.reduceBEq, qM, qN, reduceCtorEq, decide_false]
  refine ⟨trivial, ers_cons1 (ers_ite (t := true) (σ₁ := σ) (ok_eq ?_) (ers_cons1 ⟨_, rfl⟩))⟩
  simp (disch := decide) only [ok_getAttr A.p A.d (n := 48) (v := .ref 5) rfl, ok_getDict A.b' rfl (mD_get hc), bF_at, ok_lenL (A.bx c hc).2, ok_le, ok_lt, ok_truthb, h0', h1', zA, zH, zL, zV, zX, z0, qd, qe, qk, ql, qm, qo, qw, qB, qC, qD, qE, qF, qG, qH, qI, qJ, qL, Nat.reduceBEq, qM, qN, decide_true, decide_false]
  exact ⟨trivial, trivial⟩
inductive Wd (N : Ps) (M : Nat) (σ : H) : Prop
 | mk (hs : List (Option Nat)) (ks : List Nat) (b : Nat → Nat) (r : Nat → List (Option Nat)) (w : Nat → Nat) (qa : Nat) (q : List Nat) (m : Nat) (A : Pl N σ hs ks b r ks w qa q m) (I : G hs ks r w q m []) (hm : m ≤ M) (h60 : ks.length ≤ 60) : Wd N M σ
noncomputable def Co (N : Ps) (M : Nat) (σ : H) (x : Option (R V × H)) : Prop := ∃ R σ', x = some (R, σ') ∧ Wd N (M + 1) σ' ∧ Kp N σ σ' ∧ ∀ k, R = .err k → Bad k
theorem Wd.up {M : Nat} (W : Wd N M σ) : Wd N (M + 1) σ := by cases W with | mk hs ks b r w qa q m A I hm h60 => exact .mk hs ks b r w qa q m A I (Nat.le_succ_of_le hm) h60
theorem Dn.wd {M m' : Nat} {v : V} (D : Dn N σ hs ks r qa m' v σ') (hm : m' ≤ M) (h60 : ks.length ≤ 60) : Wd N M σ' := by
 cases D with
 | mk f ks' b' w' q' fr hv A I k g sub => exact .mk hs ks' b' r w' qa q' m' A I hm (Nat.le_trans (nd_len I.nd sub) h60)
theorem Dn.kp {m' : Nat} {v : V} (D : Dn N σ hs ks r qa m' v σ') : Kp N σ σ' := by
 cases D with
 | mk f ks' b' w' q' fr hv A I k g sub => exact k
theorem co_ok {M m' : Nat} {x : X V} (h : Ok x σ (fun v σ' => Dn N σ hs ks r qa m' v σ')) (hm : m' ≤ M + 1) (h60 : ks.length ≤ 60) : Co N M σ (x σ) := by
 obtain ⟨v, σ', e, D⟩ := ok_iff.mp h
 exact ⟨_, σ', e, D.wd hm h60, D.kp, fun k e => nomatch e⟩
theorem co_err {M k : Nat} {x : Option (R V × H)} (W : Wd N M σ) (h : x = some (.err k, σ)) (hk : Bad k) : Co N M σ x :=
 ⟨_, σ, h, W.up, Kp.refl _ _, fun j e => by cases e; exact hk⟩
theorem hand_er {M f i : Nat} {fd : FD} {ss : Sts} {vs : List V} {a : Ex} (W : Wd N M σ) (h8 : ¬ i < 8) (h1 : prog.meths.lookup f = some fd) (h2 : (V.ref 2 :: vs).length = fd.params.length) (hb : fd.body = .cons (.expr (.meth (.loc 46) 26 (.cons a .nil))) ss)
  (h3 : ((fd.params.zip (V.ref 2 :: vs)).foldl (fun l p => l.upd p.1 p.2) (fun _ => none) : Loc) 46 = some (.ref 2)) (h4 : ∀ C, ev prog C a ((fd.params.zip (V.ref 2 :: vs)).foldl (fun l p => l.upd p.1 p.2) (fun _ => none)) σ = some (.ok (.int (i : Int)), σ)) : Co N M σ (run prog 1000 (d + 4) true f (.ref 2 :: vs) σ) := by
 refine co_err W ?_ (.inl rfl)
 cases W with
 | mk hs ks b r w qa q m A I hm h60 =>
  refine run_err (fd := fd) h1 h2 ?_
  rw [hb]
  refine ers_cons1 (ers_expr ((ev_meth (vs := [.int (i : Int)]) (by rw [zX, h3]; rfl) ?_ A.p A.d (by decide)).trans (need_hand_err h8)))
  show X.bind (ev prog _ a _) (fun v => X.bind (X.pure []) fun vs => X.pure (v :: vs)) σ = _
  unfold X.bind
  rw [h4]; rfl
end
end Mine.Internal.L09
set_option autoImplicit false
namespace Mine.Internal.L09
open Mine.Internal Mine.Internal.Bx
open PySem (Str PyData)
section
variable {N : Ps} {σ σ' : H} {d M : Nat}
theorem make_co {i z : Nat} (W : Wd N M σ) (hM : M ≤ 98) : Co N M σ (run prog 1000 (d + 4) true 34 [.ref 2, .int (i : Int), .int (z : Int)] σ) := by
 by_cases hi : i < 8
 ·have W' := W
  cases W with
  | mk hs ks b r w qa q m A I hm hk60 =>
   have h0' : (0 : Int) ≤ (z : Int) := Int.natCast_nonneg _
   by_cases hz : z ≤ 6
   ·have h1' : (z : Int) ≤ 6 := by lia
    by_cases h60 : ks.length = 60
    ·have h2' : (((mD (bF b) ks).length : Nat) : Int) = 60 := by rw [mD_len, h60]; rfl
     refine co_err (k := 19) W' (run_err (fd := PP.m_make) rfl rfl ?_) (.inr (.inr (.inl rfl)))
     unfold PP.m_make
     refine ers_cons2 (s := .expr _) (ss := PP.m_make_2) ?_
     simp (disch := decide) only [mx_inst A.p A.d, ze, zX, qt, qu, qB, qC, qD, qE, qG, qH, qI, qJ, List.zip_cons_cons, List.zip_nil_right, List.foldl_cons, List.foldl_nil, qL, Nat.reduceBEq, qM, qN]
     refine need_hand_ok hi ⟨rfl, ers_cons2 (s := .ite _ _ _) (ss := PP.m_make_3) ?_⟩
     simp (disch := decide) only [eg22, ok_le, ok_truthb, h0', h1', zb, zq, zs, zA, zH, zK, zV, zX, z0, qd, qe, qF, qG, qH, qI, qJ, qL, Nat.reduceBEq, qM, qN, decide_true]
     refine ⟨trivial, ers_cons1 (s := .ite _ _ _) (ss := PP.m_make_4) (ers_ite (t := true) (σ₁ := σ) (ok_eq ?_) (ers_cons1 (ss := .nil) ⟨_, rfl⟩))⟩
     simp (disch := decide) only [eg23, ok_getAttr A.p A.d (n := 48) (v := .ref 5) rfl, ok_lenD A.b', ok_eqI, h2', ok_truthb, zG, zX, qb, qc, qk, ql, qw, qB, qC, qD, qE, qF, qG, qH, qI, qJ, qL, Nat.reduceBEq, qM, qN, decide_true]
     exact ⟨trivial, trivial⟩
    ·exact co_ok (make_ok A I hi hz h60 (by lia) fun v σ' D => D) (by lia) (by rw [List.length_append]; show ks.length + 1 ≤ 60; lia)
   ·have h1' : ¬ ((z : Int) ≤ 6) := by lia
    refine co_err (k := 18) W' (run_err (fd := PP.m_make) rfl rfl ?_) (.inr (.inl rfl))
    unfold PP.m_make
    refine ers_cons2 (s := .expr _) (ss := PP.m_make_2) ?_
    simp (disch := decide) only [mx_inst A.p A.d, ze, zX, qt, qu, qB, qC, qD, qE, qG, qH, qI, qJ, List.zip_cons_cons, List.zip_nil_right, List.foldl_cons, List.foldl_nil, qL, Nat.reduceBEq, qM, qN]
    refine need_hand_ok hi ⟨rfl, ers_cons1 (s := .ite _ _ _) (ss := PP.m_make_3) (ers_ite (t := true) (σ₁ := σ) (ok_eq ?_) (ers_cons1 (ss := .nil) ⟨_, rfl⟩))⟩
    simp (disch := decide) only [eg22, ok_le, ok_truthb, h0', h1', zA, zH, zL, zV, zX, z0, qd, qe, qF, qG, qH, qI, qJ, qL, Nat.reduceBEq, qM, qN, decide_true, decide_false]
    exact ⟨trivial, trivial⟩
 ·exact hand_er W hi (fd := PP.m_make) rfl rfl rfl rfl fun C => rfl
theorem hold_co {i j : Nat} (W : Wd N M σ) (hM : M ≤ 98) : Co N M σ (run prog 1000 (d + 4) true 35 [.ref 2, .int (i : Int), .int (j : Int)] σ) := by
 by_cases hi : i < 8
 ·have W' := W
  cases W with
  | mk hs ks b r w qa q m A I hm hk60 =>
   by_cases hj : j < 8
   ·exact co_ok (hold_ok A I hi hj (by lia) fun v σ' D => D) (by lia) hk60
   ·refine co_err (k := 17) W' (run_err (fd := PP.m_hold) rfl rfl ?_) (.inl rfl)
    unfold PP.m_hold
    refine ers_cons2 ?_
    simp (disch := decide) only [mx_inst A.p A.d, ze, zX, qt, qu, qB, qC, qD, qE, qG, qH, qI, qJ, List.zip_cons_cons, List.zip_nil_right, List.foldl_cons, List.foldl_nil, qL, Nat.reduceBEq, qM, qN]
    exact need_hand_ok hi ⟨rfl, ers_cons1 (ers_expr ((ev_meth rfl rfl A.p A.d (by decide)).trans (need_hand_err hj)))⟩
 ·exact hand_er W hi (fd := PP.m_hold) rfl rfl rfl rfl fun C => rfl
theorem drop_co {i : Nat} (W : Wd N M σ) (hM : M ≤ 98) : Co N M σ (run prog 1000 (d + 4) true 36 [.ref 2, .int (i : Int)] σ) := by
 by_cases hi : i < 8
 ·cases W with
  | mk hs ks b r w qa q m A I hm hk60 => exact co_ok (drop_ok A I hi (by lia) fun v σ' D => D) (by lia) hk60
 ·exact hand_er W hi (fd := PP.m_drop) rfl rfl rfl rfl fun C => rfl
theorem put_co {k i j : Nat} (W : Wd N M σ) (hM : M ≤ 98) : Co N M σ (run prog 1000 (d + 4) true 37 [.ref 2, .int (k : Int), .int (i : Int), .int (j : Int)] σ) := by
 by_cases hk8 : k < 8
 ·have W' := W
  cases W with
  | mk hs ks b r w qa q m A I hm hk60 =>
   by_cases hj : j < 8
   ·by_cases hs' : ∃ c, (hs[k]?).getD none = some c ∧ i < (r c).length
    ·obtain ⟨c, hc, hi⟩ := hs'
     exact co_ok (put_ok A I hk8 hj hc hi (by lia) fun v σ' D => D) (by lia) hk60
    ·obtain ⟨e, he, hr⟩ := slot_err (d := d + 2) A I hk8 (i := i) fun c hc => Nat.le_of_not_lt fun h => hs' ⟨c, hc, h⟩
     refine co_err W' (run_err (fd := PP.m_put) rfl rfl ?_) he
     unfold PP.m_put
     refine ers_cons2 ?_
     simp (disch := decide) only [mx_inst A.p A.d, ze, zX, qt, qu, qB, qC, qD, qE, qG, qH, qI, qJ, List.zip_cons_cons, List.zip_nil_right, List.foldl_cons, List.foldl_nil, qL, Nat.reduceBEq, qM, qN]
     refine need_hand_ok hk8 ⟨rfl, ers_cons2 ?_⟩
     simp (disch := decide) only [mx_inst A.p A.d, ze, zX, qt, qu, qB, qC, qD, qE, qG, qH, qI, qJ, qL, Nat.reduceBEq, qM, qN]
     exact need_hand_ok hj ⟨rfl, ers_cons1 (ers_var ((ev_meth rfl rfl A.p A.d (by decide)).trans hr))⟩
   ·refine co_err (k := 17) W' (run_err (fd := PP.m_put) rfl rfl ?_) (.inl rfl)
    unfold PP.m_put
    refine ers_cons2 ?_
    simp (disch := decide) only [mx_inst A.p A.d, ze, zX, qt, qu, qB, qC, qD, qE, qG, qH, qI, qJ, List.zip_cons_cons, List.zip_nil_right, List.foldl_cons, List.foldl_nil, qL, Nat.reduceBEq, qM, qN]
    exact need_hand_ok hk8 ⟨rfl, ers_cons1 (ers_expr ((ev_meth rfl rfl A.p A.d (by decide)).trans (need_hand_err hj)))⟩
 ·exact hand_er W hk8 (fd := PP.m_put) rfl rfl rfl rfl fun C => rfl
theorem empty_co {k i : Nat} (W : Wd N M σ) (hM : M ≤ 98) : Co N M σ (run prog 1000 (d + 4) true 38 [.ref 2, .int (k : Int), .int (i : Int)] σ) := by
 by_cases hk8 : k < 8
 ·have W' := W
  cases W with
  | mk hs ks b r w qa q m A I hm hk60 =>
   by_cases hs' : ∃ c, (hs[k]?).getD none = some c ∧ i < (r c).length
   ·obtain ⟨c, hc, hi⟩ := hs'
    exact co_ok (empty_ok A I hk8 hc hi (by lia) fun v σ' D => D) (by lia) hk60
   ·obtain ⟨e, he, hr⟩ := slot_err (d := d + 2) A I hk8 (i := i) fun c hc => Nat.le_of_not_lt fun h => hs' ⟨c, hc, h⟩
    refine co_err W' (run_err (fd := PP.m_empty) rfl rfl ?_) he
    unfold PP.m_empty
    refine ers_cons2 ?_
    simp (disch := decide) only [mx_inst A.p A.d, ze, zX, qt, qu, qB, qC, qD, qE, qG, qH, qI, qJ, List.zip_cons_cons, List.zip_nil_right, List.foldl_cons, List.foldl_nil, qL, Nat.reduceBEq, qM, qN]
    exact need_hand_ok hk8 ⟨rfl, ers_cons1 (ers_var ((ev_meth rfl rfl A.p A.d (by decide)).trans hr))⟩
 ·exact hand_er W hk8 (fd := PP.m_empty) rfl rfl rfl rfl fun C => rfl
theorem take_co {k i j : Nat} (W : Wd N M σ) (hM : M ≤ 98) : Co N M σ (run prog 1000 (d + 4) true 39 [.ref 2, .int (k : Int), .int (j : Int), .int (i : Int)] σ) := by
 by_cases hk8 : k < 8
 ·have W' := W
  cases W with
  | mk hs ks b r w qa q m A I hm hk60 =>
   by_cases hj : j < 8
   ·by_cases hs' : ∃ c, (hs[j]?).getD none = some c ∧ i < (r c).length
    ·obtain ⟨c, hc, hi⟩ := hs'
     exact co_ok (take_ok A I hk8 hj hc hi (by lia) fun v σ' D => D) (by lia) hk60
    ·obtain ⟨e, he, hr⟩ := slot_err (d := d + 2) A I hj (i := i) fun c hc => Nat.le_of_not_lt fun h => hs' ⟨c, hc, h⟩
     refine co_err W' (run_err (fd := PP.m_take) rfl rfl ?_) he
     unfold PP.m_take
     refine ers_cons2 ?_
     simp (disch := decide) only [mx_inst A.p A.d, ze, zX, qt, qu, qB, qC, qD, qE, qG, qH, qI, qJ, List.zip_cons_cons, List.zip_nil_right, List.foldl_cons, List.foldl_nil, qL, Nat.reduceBEq, qM, qN]
     refine need_hand_ok hk8 ⟨rfl, ers_cons2 ?_⟩
     simp (disch := decide) only [mx_inst A.p A.d, ze, zX, qt, qu, qB, qC, qD, qE, qG, qH, qI, qJ, qL, Nat.reduceBEq, qM, qN]
     exact need_hand_ok hj ⟨rfl, ers_cons1 (ers_var ((ev_meth rfl rfl A.p A.d (by decide)).trans hr))⟩
   ·refine co_err (k := 17) W' (run_err (fd := PP.m_take) rfl rfl ?_) (.inl rfl)
    unfold PP.m_take
    refine ers_cons2 ?_
    simp (disch := decide) only [mx_inst A.p A.d, ze, zX, qt, qu, qB, qC, qD, qE, qG, qH, qI, qJ, List.zip_cons_cons, List.zip_nil_right, List.foldl_cons, List.foldl_nil, qL, Nat.reduceBEq, qM, qN]
    exact need_hand_ok hk8 ⟨rfl, ers_cons1 (ers_expr ((ev_meth rfl rfl A.p A.d (by decide)).trans (need_hand_err hj)))⟩
 ·exact hand_er W hk8 (fd := PP.m_take) rfl rfl rfl rfl fun C => rfl
end
end Mine.Internal.L09
set_option autoImplicit false
namespace Mine.Internal.L09
open Mine.Internal Mine.Internal.Bx
open PySem (Str PyData)
noncomputable def sortN (l : List Nat) : List Nat := (sortI (l.map Int.ofNat)).map Int.toNat
theorem toNats : ∀ {l : List Int}, (∀ i, i ∈ l → 0 ≤ i) → nV (l.map Int.toNat) = l.map .int
 | [], _ => rfl
 | a :: r, h => by
  show V.int ((a.toNat : Nat) : Int) :: nV (r.map Int.toNat) = _
  rw [toNats fun i hi => h i (.tail _ hi), Int.toNat_of_nonneg (h a (.head _))]; rfl
theorem sortN_v {l : List Nat} : (sortI (l.map Int.ofNat)).map V.int = nV (sortN l) := by
 unfold sortN
 rw [toNats fun i hi => ?_]
 obtain ⟨k, _, rfl⟩ := List.mem_map.mp ((sortI_perm _).mem_iff.mp hi)
 exact Int.natCast_nonneg _
theorem sortN_perm {l : List Nat} : (sortN l).Perm l := by
 unfold sortN
 have h := (sortI_perm (l.map Int.ofNat)).map Int.toNat
 rw [List.map_map] at h
 have e : Int.toNat ∘ Int.ofNat = id := rfl
 rw [e, List.map_id] at h
 exact h
theorem sortN_mem {l : List Nat} {k : Nat} : k ∈ sortN l ↔ k ∈ l := sortN_perm.mem_iff
theorem ms_lt {K f w p q n : Nat} (h : f + 1 ≤ K) (hp : p ≤ q) (hq : q ≤ 6) (ms : 7 * (K - f) + (w + 1) = n) : 7 * (K - (f + 1)) + (w + p) < n := by
 obtain ⟨c, rfl⟩ := Nat.exists_eq_add_of_le h
 rw [Nat.add_sub_cancel_left]
 rw [Nat.add_assoc, Nat.add_sub_cancel_left] at ms
 lia
theorem so_sort {l : List Nat} : (sortN l).Pairwise (· ≤ ·) := by
 unfold sortN
 rw [List.pairwise_map]
 exact (sortI_sorted _).imp fun h => Int.toNat_le_toNat h
theorem sortN_len {l : List Nat} : (sortN l).length = l.length := sortN_perm.length_eq
theorem ok_lpop {P : Prog} {σ : H} {a : Nat} {xs : List V} {v : V} {Q : V → H → Prop} (h1 : σ.get a = some (.list xs)) (ha : P.nf ≤ a) (hx : xs.getLast? = some v) : Ok (listMeth P (.ref a) 7 []) σ Q = Q v (σ.put a (.list xs.dropLast)) :=
 ok_some (by
  have := getM_of h1 ha
  unfold listMeth; simp [this, idAppend, idPop, hx])
theorem nV_last {l : List Nat} {k : Nat} : (nV (l ++ [k])).getLast? = some (.int (k : Int)) := by rw [← nV_app, List.getLast?_append]; rfl
theorem nV_drop {l : List Nat} {k : Nat} : (nV (l ++ [k])).dropLast = nV l := by rw [← nV_app, List.dropLast_append_of_ne_nil (by simp)]; simp
noncomputable def Kx (x y : Nat) (σ σ' : H) : Prop := ∀ a o, a ≠ x → a ≠ y → σ.get a = some o → σ'.get a = some o
theorem Kx.refl (x y : Nat) (σ : H) : Kx x y σ σ := fun _ _ _ _ h => h
theorem Kx.ext {x y : Nat} {σ σ' σ'' : H} (h : Kx x y σ σ') (k : Ext σ' σ'') : Kx x y σ σ'' := fun a o e1 e2 g => k a o (h a o e1 e2 g)
theorem Kx.putx {x y : Nat} {σ σ' : H} (h : Kx x y σ σ') (z : O) : Kx x y σ (σ'.put x z) := fun a o e1 e2 g => (get_put_ne (Ne.symm e1)).trans (h a o e1 e2 g)
theorem Kx.puty {x y : Nat} {σ σ' : H} (h : Kx x y σ σ') (z : O) : Kx x y σ (σ'.put y z) := fun a o e1 e2 g => (get_put_ne (Ne.symm e2)).trans (h a o e1 e2 g)
section
variable {N : Ps} {σ σ' : H} {hs : List (Option Nat)} {ks : List Nat} {b : Nat → Nat} {r : Nat → List (Option Nat)} {w : Nat → Nat} {qa : Nat} {q : List Nat} {m : Nat} {d : Nat} {Q : V → H → Prop}
theorem Pl.kx {x y : Nat} (A : Pl N σ hs ks b r ks w qa q m) (k : Kx x y σ σ') (hx : σ.length ≤ x) (hy : σ.length ≤ y) (hl : σ.length ≤ σ'.length) : Pl N σ' hs ks b r ks w qa q m := by
 have kk : ∀ a o, σ.get a = some o → σ'.get a = some o := fun a o g => k a o (Nat.ne_of_lt (Nat.lt_of_lt_of_le (get_lt g) hx)) (Nat.ne_of_lt (Nat.lt_of_lt_of_le (get_lt g) hy)) g
 exact A.ex kk
noncomputable def ptr (l : List (Option Nat)) : List Nat := l.filterMap id
theorem ptr_mem {l : List (Option Nat)} {k : Nat} : k ∈ ptr l ↔ some k ∈ l := by
 unfold ptr
 rw [List.mem_filterMap]
 exact ⟨fun ⟨x, h1, h2⟩ => by cases h2; exact h1, fun h => ⟨_, h, rfl⟩⟩
theorem ptr_len {l : List (Option Nat)} : (ptr l).length ≤ l.length := List.length_filterMap_le ..
theorem ptr_take {l : List (Option Nat)} {i : Nat} (h : i < l.length) : ptr (l.take (i + 1)) = ptr (l.take i) ++ (match l[i] with | none => [] | some k => [k]) := by
 unfold ptr
 rw [List.take_succ, List.getElem?_eq_getElem h, List.filterMap_append]
 congr 1
 cases l[i] <;> rfl
theorem lay_ok {x wa fa : Nat} {wl : List Nat} {lc : Loc} {Q : Option V → Loc → H → Prop} (A : Pl N σ hs ks b r ks w qa q m) (hx : x ∈ ks) (h6 : (r x).length ≤ 6) (g : σ.get wa = some (.list (nV wl))) (hwl : wl.length ≤ 990) (hwa : 7 < wa) (hwf : wa ≠ fa)
  (e100 : lc 100 = some (.ref 2)) (e101 : lc 101 = some (.ref fa)) (e102 : lc 102 = some (.ref wa)) (e53 : lc 53 = some (.int (x : Int)))
  (h : ∀ l' σ', Kx wa wa σ σ' → σ.length ≤ σ'.length → σ'.get wa = some (.list (nV (wl ++ ptr (r x)))) → l' 100 = some (.ref 2) → l' 101 = some (.ref fa) → l' 102 = some (.ref wa) → Q none l' σ') :
  OkS (exs prog (run prog 1000 (d + 2)) 1000 f_reached_4w_2a_2 lc σ) Q := by
 refine oks_step rfl ?_
 rw [s_for]
 simp (disch := decide) only [e100, e53, mx_inst A.p A.d, zX, qt, qu, qB, qC, qD, qE, qG, qH, qI, qJ]
 refine points_ok A hx h6 ?_
 have wl' := get_lt g
 have g0 := get_keep (x := .list ((r x).map ov)) g
 have gp : (σ.push (.list ((r x).map ov))).get σ.length = some (.list ((r x).map ov)) := get_push_eq
 have k0 : Kx wa wa σ (σ.push (.list ((r x).map ov))) := (Kx.refl _ _ _).ext ((Ext.refl _).push _)
 have n0 : σ.length ≤ (σ.push (.list ((r x).map ov))).length := by rw [len_push]; exact Nat.le_succ _
 generalize σ.push (.list ((r x).map ov)) = τ at *
 generalize hpa : σ.length = pa at *
 have hne : pa ≠ wa := by lia
 refine ⟨_, it_list gp, f_inv (fun i l s => s.get pa = τ.get pa ∧ Kx wa wa σ s ∧ pa ≤ s.length ∧ s.get wa = some (.list (nV (wl ++ ptr ((r x).take i)))) ∧ l 100 = some (.ref 2) ∧ l 101 = some (.ref fa) ∧ l 102 = some (.ref wa)) ⟨rfl, k0, n0, by rw [List.take_zero]; show τ.get wa = some (.list (nV (wl ++ []))); rw [List.append_nil]; exact g0, e100, e101, e102⟩ ?_ ?_⟩
 ·rintro i l s y hy ⟨h1, h2, h3, h4, m1, m2, m3⟩
  obtain ⟨hi, hy⟩ := List.getElem?_eq_some_iff.mp hy
  rw [List.length_map] at hi
  rw [List.getElem_map] at hy
  subst hy
  have ht := ptr_take hi
  have hpl := ptr_len (l := (r x).take i)
  rw [List.length_take] at hpl
  refine oks_step rfl ?_
  cases hv : (r x)[i] with
  | none =>
   rw [hv] at ht
   simp (disch := decide) only [ov, ok_isNot, ok_truthb, zb, zc, zq, zs, zG, zT, zX, qb, qc, qF, qG, qH, qI, qL, Nat.reduceBEq, qM, qN, ne_eq, not_true_eq_false, decide_false]
   refine ⟨trivial, still_get h1, h1, h2, h3, ?_, m1, m2, m3⟩
   rw [ht]; show s.get wa = some (.list (nV (wl ++ (ptr ((r x).take i) ++ [])))); rw [List.append_nil]; exact h4
  | some j =>
   rw [hv] at ht
   simp (disch := decide) only [ov, ok_isNot, ok_truthb, zq, zr, zG, zT, zX, qb, qc, qF, qG, qH, qI, qL, Nat.reduceBEq, qM, reduceCtorEq, ne_eq, not_false_eq_true, decide_true]
   refine oks_step rfl ?_
   simp (disch := decide) only [m3, mx_list h4 (.inl rfl), ok_append h4 (show prog.nf ≤ wa from Nat.le_trans (show prog.nf ≤ 7 by decide) (Nat.le_of_lt hwa)) (le_lim (by rw [List.length_append, nV_len, List.length_append]; show wl.length + _ + 1 ≤ 1000; lia)), nV_app, zb, zc, ze, zf, zX, qt, qB, qC, qD, qE, qG, qH, qI, qJ, qL, Nat.reduceBEq, qM, qN]
   refine ⟨trivial, still_get ?_, ?_, h2.putx _, by rw [len_put]; exact h3, ?_, m1, m2, trivial⟩
   ·rw [get_put_ne hne.symm]; exact h1
   ·rw [get_put_ne hne.symm]; exact h1
   ·rw [ht, put_self h4, List.append_assoc]
 ·rintro l s ⟨h1, h2, h3, h4, m1, m2, m3⟩
  rw [List.length_map, List.take_length] at h4
  exact h l s h2 h3 h4 m1 m2 m3
inductive Se (N : Ps) (σ : H) (ks ns : List Nat) (r : Nat → List (Option Nat)) (fa wa : Nat) (n : Nat) (l : Loc) (s : H) : Prop
 | mk (fl wl : List Nat) (k : Kx wa fa σ s) (len : σ.length ≤ s.length) (gf : s.get fa = some (.dict (mD tF fl))) (gw : s.get wa = some (.list (nV wl))) (nd : fl.Nodup) (sub : ∀ k, k ∈ fl ∨ k ∈ wl → Rch ks r (· ∈ ns) k) (st : ∀ k, k ∈ ns → k ∈ fl ∨ k ∈ wl) (cl : ∀ j k, j ∈ fl → some k ∈ r j → k ∈ fl ∨ k ∈ wl)
   (ms : 7 * (ks.length - fl.length) + wl.length = n) (e1 : l 100 = some (.ref 2)) (e2 : l 101 = some (.ref fa)) (e3 : l 102 = some (.ref wa)) : Se N σ ks ns r fa wa n l s
theorem turn_se {fa wa n : Nat} {ns : List Nat} {lc : Loc} {s : H} (A : Pl N σ hs ks b r ks w qa q m) (I : G hs ks r w q m []) (hm : m ≤ 99) (hfa : σ.length ≤ fa) (hwa : σ.length ≤ wa) (hne : wa ≠ fa) (hn : n ≤ 900) (S : Se N σ ks ns r fa wa n lc s) (hpos : ∀ wl, s.get wa = some (.list (nV wl)) → wl ≠ []) :
  OkS (exs prog (run prog 1000 (d + 2)) 1000 f_reached_4w_1 lc s) (fun rr l' s' => rr = none ∧ ∃ k, k < n ∧ Se N σ ks ns r fa wa k l' s') := by
 cases S with
 | mk fl wl k len gf gw nd sub st cl ms e1 e2 e3 =>
  have big := A.big
  have n7 := A.n7
  have hw := hpos wl gw
  obtain ⟨wl, x, rfl⟩ : ∃ wl' x, wl = wl' ++ [x] := ⟨wl.dropLast, wl.getLast hw, (List.dropLast_concat_getLast hw).symm⟩
  have hx := sub x (.inr (List.mem_append_right _ (List.mem_singleton.mpr rfl)))
  have kl := klen_of I
  have fk : fl.length ≤ ks.length := nd_len nd fun j hj => (sub j (.inl hj)).mem
  rw [List.length_append] at ms
  have ms : 7 * (ks.length - fl.length) + (wl.length + 1) = n := ms
  refine oks_step rfl ?_
  simp (disch := decide) only [e3, mx_list gw is7, ok_lpop gw (show prog.nf ≤ wa from Nat.le_trans (show prog.nf ≤ 7 by decide) (by lia)) nV_last, nV_drop, zg, zh, zX, qt, qB, qG, qI, qJ]
  have gf1 : (s.put wa (.list (nV wl))).get fa = some (.dict (mD tF fl)) := (get_put_ne hne).trans gf
  have gw1 : (s.put wa (.list (nV wl))).get wa = some (.list (nV wl)) := put_self gw
  have k1 := k.putx (.list (nV wl))
  have len1 : σ.length ≤ (s.put wa (.list (nV wl))).length := by rw [len_put]; exact len
  generalize s.put wa (.list (nV wl)) = s1 at *
  refine then_step rfl ?_
  simp (disch := decide) only [e2, ok_notInD gf1 (k := .int (x : Int)) rfl, mD_in, ok_truthb, zq, zG, zX, qb, qc, qF, qG, qI, qL, Nat.reduceBEq, qM, qN]
  by_cases hxf : x ∈ fl
  ·rw [decide_eq_true hxf]
   simp (disch := decide) only [zb, zc, zs, Bool.not_true]
   refine ⟨trivial, n - 1, by lia, .mk fl wl k1 len1 gf1 gw1 nd (fun j hj => sub j (hj.imp id fun h => List.mem_append_left _ h)) (fun j hj => ?_) (fun i j hi hj => ?_) (by lia) e1 e2 e3⟩
   ·rcases st j hj with h | h
    ·exact .inl h
    ·rcases List.mem_append.mp h with h | h
     ·exact .inr h
     ·exact .inl (by rw [List.mem_singleton.mp h]; exact hxf)
   ·rcases cl i j hi hj with h | h
    ·exact .inl h
    ·rcases List.mem_append.mp h with h | h
     ·exact .inr h
     ·exact .inl (by rw [List.mem_singleton.mp h]; exact hxf)
  ·rw [decide_eq_false hxf]
   simp (disch := decide) only [zr, Bool.not_false]
   refine oks_step rfl ?_
   have hd : dset (mD tF fl) (.int (x : Int)) (.bool true) = mD tF (addN fl x) := tD_set nd
   have ha : addN fl x = fl ++ [x] := if_neg hxf
   rw [ha] at hd
   simp (disch := decide) only [e2, ok_setDict gf1 (show prog.nf ≤ fa from Nat.le_trans (show prog.nf ≤ 7 by decide) (by lia)) (show isKey (.int (x : Int)) = true from rfl) (by rw [hd, mD_len, List.length_append]; exact le_lim (show fl.length + 1 ≤ 1000 by lia)), hd, zf, zl, zm, zn, zo, zU, zX, qJ, qK, qL, Nat.reduceBEq, qM, qN]
   have gf2 : (s1.put fa (.dict (mD tF (fl ++ [x])))).get fa = some (.dict (mD tF (fl ++ [x]))) := put_self gf1
   have gw2 : (s1.put fa (.dict (mD tF (fl ++ [x])))).get wa = some (.list (nV wl)) := (get_put_ne hne.symm).trans gw1
   have k2 := k1.puty (.dict (mD tF (fl ++ [x])))
   have len2 : σ.length ≤ (s1.put fa (.dict (mD tF (fl ++ [x])))).length := by rw [len_put]; exact len1
   generalize s1.put fa (.dict (mD tF (fl ++ [x]))) = s2 at *
   have A2 := A.kx k2 hwa hfa len2
   have fk' : (fl ++ [x]).length ≤ ks.length := nd_len (app1_nd nd hxf) fun j hj => by
    rcases List.mem_append.mp hj with h | h
    ·exact (sub j (.inl h)).mem
    ·rw [List.mem_singleton.mp h]; exact hx.mem
   rw [List.length_append] at fk'
   have fk' : fl.length + 1 ≤ ks.length := fk'
   show OkS (exs prog (run prog 1000 (d + 2)) 1000 f_reached_4w_2a_2 _ s2) _
   refine lay_ok (fa := fa) A2 hx.mem (I.rl x hx.mem) gw2 (by lia) (by lia) hne e1 e2 e3 rfl fun l' s3 k3 len3 gw3 m1 m2 m3 => ?_
   have pl := ptr_len (l := r x)
   have rl := I.rl x hx.mem
   have hml : (wl ++ ptr (r x)).length = wl.length + (ptr (r x)).length := List.length_append
   have hfl : (fl ++ [x]).length = fl.length + 1 := List.length_append
   refine ⟨rfl, 7 * (ks.length - (fl.length + 1)) + (wl.length + (ptr (r x)).length), ms_lt fk' pl rl ms, .mk (fl ++ [x]) (wl ++ ptr (r x)) (fun a o h1 h2 g => k3 a o h1 h1 (k2 a o h1 h2 g)) (Nat.le_trans len2 len3) (k3 _ _ hne.symm hne.symm gf2) gw3 (app1_nd nd hxf) (fun j hj => ?_) (fun j hj => ?_) (fun i j hi hj => ?_) (by rw [hml, hfl]) m1 m2 m3⟩
   ·rcases hj with h | h
    ·rcases List.mem_append.mp h with h | h
     ·exact sub j (.inl h)
     ·rw [List.mem_singleton.mp h]; exact hx
    ·rcases List.mem_append.mp h with h | h
     ·exact sub j (.inr (List.mem_append_left _ h))
     ·exact .step hx (ptr_mem.mp h) (I.inR hx.mem (ptr_mem.mp h))
   ·rcases st j hj with h | h
    ·exact .inl (List.mem_append_left _ h)
    ·rcases List.mem_append.mp h with h | h
     ·exact .inr (List.mem_append_left _ h)
     ·exact .inl (List.mem_append_right _ h)
   ·rcases List.mem_append.mp hi with h | h
    ·rcases cl i j h hj with h | h
     ·exact .inl (List.mem_append_left _ h)
     ·rcases List.mem_append.mp h with h | h
      ·exact .inr (List.mem_append_left _ h)
      ·exact .inl (List.mem_append_right _ h)
    ·rw [List.mem_singleton.mp h] at hj
     exact .inr (List.mem_append_right _ (ptr_mem.mpr hj))
theorem reached_ok {a : Nat} {ns : List Nat} (A : Pl N σ hs ks b r ks w qa q m) (I : G hs ks r w q m []) (hm : m ≤ 99) (g : σ.get a = some (.list (nV ns))) (hn : ∀ k, k ∈ ns → k ∈ ks) (hl : ns.length ≤ 99) (h60 : ks.length ≤ 60)
  (h : ∀ L σ', Ext σ σ' → L.Nodup → (∀ k, k ∈ L ↔ Rch ks r (· ∈ ns) k) → Q (.ref σ'.length) (σ'.push (.list (nV (sortN L))))) : Ok (run prog 1000 (d + 3) false 99 [.ref 2, .ref a]) σ Q := by
 rw [ok_run (fd := f_reached) rfl rfl]
 unfold f_reached
 have kl := klen_of I
 refine oks_step rfl ?_
 simp (disch := decide) only [ok_alloc (o := .dict []) rfl, zg, zh, qj, List.zip_cons_cons, List.zip_nil_right, List.foldl_cons, List.foldl_nil]
 refine then_step rfl ?_
 have gl : (nV ns).length ≤ lim := le_lim (by rw [nV_len]; lia)
 simp (disch := decide) only [ok_listL (get_keep (x := .dict []) g) gl, zg, zh, zX, qw, qB, qC, qD, qE, qH, qI, qL, Nat.reduceBEq, qM, qN]
 have n1 : (σ.push (.dict [])).length = σ.length + 1 := len_push
 have x1 : Ext σ ((σ.push (.dict [])).push (.list (nV ns))) := ((Ext.refl _).push _).push _
 have gf : ((σ.push (.dict [])).push (.list (nV ns))).get σ.length = some (.dict (mD tF [])) := get_keep get_push_eq
 have gw : ((σ.push (.dict [])).push (.list (nV ns))).get (σ.length + 1) = some (.list (nV ns)) := by rw [← n1]; exact get_push_eq
 rw [n1]
 generalize (σ.push (.dict [])).push (.list (nV ns)) = τ at *
 refine then_step rfl ?_
 rw [s_for]
 simp (disch := decide) only [zy, zX, qK, qL, Nat.reduceBEq, qM, qN]
 have Aτ := A.ex x1
 refine ⟨_, it_list gw, f_inv (fun j l s => s = τ ∧ l 100 = some (.ref 2) ∧ l 101 = some (.ref σ.length) ∧ l 102 = some (.ref (σ.length + 1))) ⟨rfl, rfl, rfl, rfl⟩ ?_ ?_⟩
 ·rintro j l s y hy ⟨rfl, m1, m2, m3⟩
  obtain ⟨k, hk, rfl⟩ := List.mem_map.mp (List.mem_of_getElem? hy)
  refine oks_step rfl ?_
  simp (disch := decide) only [m1, mx_inst Aτ.p Aτ.d, ze, zX, qt, qu, qB, qC, qD, qE, qG, qH, qI, qJ, qL, Nat.reduceBEq, qM, qN]
  refine need_box_ok Aτ (hn k hk) ?_
  simp (disch := decide) only [zb, zc, zf, qL, Nat.reduceBEq, qN]
  exact ⟨trivial, still_get rfl, trivial, m1, m2, m3⟩
 ·rintro l s ⟨rfl, m1, m2, m3⟩
  refine then_step rfl ?_
  rw [s_whl]
  have hst : Se N σ ks ns r σ.length (σ.length + 1) (7 * (ks.length - 0) + ns.length) l s := .mk [] ns (fun a o _ _ g => x1 a o g) (ext_len x1) gf gw List.nodup_nil (fun k hk => .src (hk.elim (fun h => nomatch h) id) (hn k (hk.elim (fun h => nomatch h) id))) (fun k hk => .inr hk) (fun j k hj _ => nomatch hj) rfl m1 m2 m3
  refine w_inv (fun n l s => n ≤ 900 ∧ Se N σ ks ns r σ.length (σ.length + 1) n l s) ?_ 1000 _ l s (by lia) ⟨by lia, hst⟩
  rintro n l s ⟨hn9, S⟩
  have S' := S
  cases S with
  | mk fl wl k len gf gw nd sub st cl ms e1 e2 e3 =>
   simp (disch := decide) only [e3, ok_lenL gw, nV_len, ok_gt, ok_truthb, zc, zG, zV, zX, qb, qc, qw, qB, qC, qD, qE, qF, qG, qH, qI]
   by_cases h0 : wl = []
   ·subst h0
    have : ¬ ((((([] : List Nat).length : Nat)) : Int) > 0) := by decide
    rw [decide_eq_false this]
    show andThen prog (run prog 1000 (d + 2)) 1000 f_reached_5 (runK Q) none l s
    refine then_step rfl ?_
    have fk : fl.length ≤ ks.length := nd_len nd fun j hj => (sub j (.inl hj)).mem
    have gs : (fl.map Int.ofNat).length < 64 := by rw [List.length_map]; lia
    simp (disch := decide) only [e2, ok_sortedD gf mD_keys gs, sortN_v, zd, zt, zu, zw, zX, qw, qB, qC, qD, qE, qH, qI]
    refine h fl s (fun a o g => k a o (Nat.ne_of_lt (Nat.lt_trans (get_lt g) (Nat.lt_succ_self _))) (Nat.ne_of_lt (get_lt g)) g) nd fun k => ⟨fun hk => sub k (.inl hk), fun hk => ?_⟩
    induction hk with
    | src h _ => exact (st _ h).resolve_right (fun h => nomatch h)
    | step _ h _ ih => exact (cl _ _ ih h).resolve_right (fun h => nomatch h)
   ·have : ((wl.length : Nat) : Int) > 0 := by have := List.length_pos_iff.mpr h0; lia
    rw [decide_eq_true this]
    show OkS (exs prog (run prog 1000 (d + 2)) 1000 f_reached_4w_1 l s) _
    refine oks_mono (turn_se A I hm (Nat.le_refl _) (Nat.le_succ _) (by lia) hn9 S' fun wl' g' => ?_) fun rr l' s' hr => ?_
    ·rw [gw] at g'
     have e : nV wl = nV wl' := O.list.inj (Option.some.inj g')
     intro e0
     rw [e0] at e
     exact h0 (List.map_eq_nil_iff.mp e)
    ·obtain ⟨e, k, hk, S2⟩ := hr
     exact ⟨e, k, hk, by lia, S2⟩
end
end Mine.Internal.L09
set_option autoImplicit false
namespace Mine.Internal.Bx
section
variable {hs : List (Option Nat)} {ks : List Nat} {r : Nat → List (Option Nat)} {w : Nat → Nat} {q : List Nat} {m : Nat}
theorem ins_part {y : Option Nat} {p : Nat → Bool} : ∀ {ks : List Nat}, ins ks r y = ins (ks.filter p) r y + ins (ks.filter fun k => !p k) r y
 | [] => rfl
 | a :: l => by
  have ih := ins_part (y := y) (p := p) (ks := l)
  have e : ins (a :: l) r y = (r a).count y + ins l r y := by unfold ins; rw [List.flatMap_cons, List.count_append]
  have c : ∀ l', ins (a :: l') r y = (r a).count y + ins l' r y := fun l' => by unfold ins; rw [List.flatMap_cons, List.count_append]
  rw [e, List.filter_cons, List.filter_cons]
  cases p a with
  | true => simp only [if_true, Bool.not_true, Bool.false_eq_true, if_false]; rw [c]; lia
  | false => simp only [if_true, Bool.not_false, Bool.false_eq_true, if_false]; rw [c]; lia
theorem ins_perm {ks ks' : List Nat} {y : Option Nat} (h : ks.Perm ks') : ins ks r y = ins ks' r y := (h.flatMap_right r).count_eq y
structure Ti (hs : List (Option Nat)) (ks : List Nat) (r : Nat → List (Option Nat)) (w : Nat → Nat) (q L K : List Nat) : Prop where
 nl : L.Nodup
 ll : ∀ k, k ∈ L ↔ Rch ks r (· ∈ q) k
 kk : ∀ k, k ∈ K ↔ Rch ks r (fun k => k ∈ L ∧ ins L r (some k) < w k) k
noncomputable def gone (L K : List Nat) (k : Nat) : Bool := decide (k ∈ L) && !decide (k ∈ K)
theorem gone_iff {L K : List Nat} {k : Nat} : gone L K k = true ↔ k ∈ L ∧ k ∉ K := by unfold gone; simp
section
variable {L K : List Nat} (I : G hs ks r w q m []) (T : Ti hs ks r w q L K)
include I T
theorem Ti.sub {k : Nat} (h : k ∈ L) : k ∈ ks := ((T.ll k).mp h).mem
theorem Ti.step {j k : Nat} (h : j ∈ L) (hk : some k ∈ r j) : k ∈ L := (T.ll k).mpr (.step ((T.ll j).mp h) hk (I.inR (T.sub I h) hk))
theorem Ti.insL {y : Option Nat} : ins ks r y = ins L r y + ins (ks.filter fun k => !decide (k ∈ L)) r y := by
 rw [ins_part (p := fun k => decide (k ∈ L))]
 congr 1
 refine ins_perm ((List.perm_ext_iff_of_nodup (I.nd.filter _) T.nl).mpr fun k => ?_)
 rw [List.mem_filter, decide_eq_true_iff]
 exact ⟨fun h => h.2, fun h => ⟨T.sub I h, h⟩⟩
theorem Ti.hand {k : Nat} (hk : k ∈ L) (h : some k ∈ hs) : k ∈ K := by
 refine (T.kk k).mpr (.src ⟨hk, ?_⟩ (T.sub I hk))
 have h1 := I.ct k (T.sub I hk)
 have h2 := T.insL I (y := some k)
 have h3 := List.count_pos_iff.mpr h
 unfold cnt at h1; lia
theorem Ti.out {j k : Nat} (hk : k ∈ L) (hj : j ∈ ks) (hjl : j ∉ L) (h : some k ∈ r j) : k ∈ K := by
 refine (T.kk k).mpr (.src ⟨hk, ?_⟩ (T.sub I hk))
 have h1 := I.ct k (T.sub I hk)
 have h2 := T.insL I (y := some k)
 have h3 : 0 < ins (ks.filter fun k => !decide (k ∈ L)) r (some k) := ins_of (List.mem_filter.mpr ⟨hj, by simpa using hjl⟩) h
 unfold cnt at h1; lia
theorem Ti.safe {k : Nat} (h : Rch ks r (fun k => some k ∈ hs) k) : ¬ (k ∈ L ∧ k ∉ K) := by
 induction h with
 | src h hk => exact fun ⟨h1, h2⟩ => h2 (T.hand I h1 h)
 | @step j k hj h hk ih =>
  rintro ⟨h1, h2⟩
  by_cases hl : j ∈ L
  ·refine h2 ((T.kk k).mpr (.step ((T.kk j).mp ?_) h hk))
   exact Classical.byContradiction fun hn => ih ⟨hl, hn⟩
  ·exact h2 (T.out I h1 hj.mem hl h)
theorem Ti.held {k : Nat} (hk : k ∈ ks) (h : ¬ (k ∈ L ∧ k ∉ K)) : Rch ks r (fun k => some k ∈ hs) k := by
 have or : ∀ n, Rch ks r (Sc hs q []) n → Rch ks r (fun k => some k ∈ hs) n ∨ n ∈ L := fun n hn => by
  induction hn with
  | src h hn =>
   rcases h with h | h | h
   ·exact .inl (.src h hn)
   ·exact .inr ((T.ll _).mpr (.src h hn))
   ·cases h
  | step _ h hn ih =>
   rcases ih with ih | ih
   ·exact .inl (.step ih h hn)
   ·exact .inr (T.step I ih h)
 have kp : ∀ n, Rch ks r (fun k => k ∈ L ∧ ins L r (some k) < w k) n → Rch ks r (fun k => some k ∈ hs) n := fun n hn => by
  induction hn with
  | @src n h hn =>
   have h1 := I.ct n hn
   have h2 := T.insL I (y := some n)
   have h3 : 0 < hs.count (some n) ∨ 0 < ins (ks.filter fun k => !decide (k ∈ L)) r (some n) := by
    have := h.2
    unfold cnt at h1; rw [List.count_nil] at h1; lia
   rcases h3 with h3 | h3
   ·exact .src (List.count_pos_iff.mp h3) hn
   ·obtain ⟨j, hj, hjn⟩ := ins_pos h3
    obtain ⟨hj1, hj2⟩ := List.mem_filter.mp hj
    rcases or j (I.ld j hj1) with h4 | h4
    ·exact .step h4 hjn hn
    ·simp [h4] at hj2
  | step _ h hn ih => exact .step ih h hn
 rcases or k (I.ld k hk) with h1 | h1
 ·exact h1
 ·exact kp k ((T.kk k).mp (Classical.byContradiction fun hn => h ⟨h1, hn⟩))
theorem Ti.inv {ks' gl : List Nat} {w' : Nat → Nat} (hk : ks' = ks.filter fun k => !gone L K k) (hg : gl.Perm (ks.filter fun k => gone L K k)) (hw : ∀ k, k ∈ ks' → w' k = w k - ins gl r (some k)) : G hs ks' r w' [] m [] ∧ ∀ k, k ∈ ks' ↔ Rch ks r (fun k => some k ∈ hs) k := by
 have mem : ∀ k, k ∈ ks' ↔ k ∈ ks ∧ ¬ (k ∈ L ∧ k ∉ K) := fun k => by
  rw [hk, List.mem_filter, ← gone_iff]; simp
 have rh : ∀ k, k ∈ ks' ↔ Rch ks r (fun k => some k ∈ hs) k := fun k => by
  rw [mem]
  exact ⟨fun h => T.held I h.1 h.2, fun h => ⟨h.mem, T.safe I h⟩⟩
 have part : ∀ y, ins ks r y = ins gl r y + ins ks' r y := fun y => by
  rw [ins_part (p := gone L K), ins_perm hg, hk]
 have rc : ∀ k, Rch ks r (fun k => some k ∈ hs) k → Rch ks' r (fun k => some k ∈ hs) k := fun k h => by
  have h' := h
  induction h with
  | src h hn => exact .src h ((rh _).mpr (.src h hn))
  | step hj h hn ih => exact .step (ih hj) h ((rh _).mpr (.step hj h hn))
 have pos : ∀ k, k ∈ ks' → 1 ≤ cnt hs ks' r [] k := fun k hk => by
  have h := rc k ((rh k).mp hk)
  unfold cnt
  cases h with
  | src h _ => have := List.count_pos_iff.mpr h; lia
  | step hj h _ => have := ins_of hj.mem h; lia
 have ct : ∀ k, k ∈ ks' → w' k = cnt hs ks' r [] k := fun k hk => by
  have h1 := I.ct k ((mem k).mp hk).1
  have h2 := part (some k)
  rw [hw k hk]
  unfold cnt at h1 ⊢
  lia
 refine ⟨⟨I.hl, by rw [hk]; exact I.nd.filter _, fun k hk => I.lt k ((mem k).mp hk).1, fun k hk => ?_, ct, fun k hk => by rw [ct k hk]; exact pos k hk, fun k h => (nomatch h), List.nodup_nil, fun k hk => I.rl k ((mem k).mp hk).1, fun n hn => ?_⟩, rh⟩
 ·by_cases h : k ∈ ks
  ·have h1 : ¬ some k ∈ hs := fun h1 => hk ((rh k).mpr (.src h1 h))
   have h2 : ¬ 0 < ins ks' r (some k) := fun h2 => by
    obtain ⟨j, hj, hjk⟩ := ins_pos h2
    exact hk ((rh k).mpr (.step ((rh j).mp hj) hjk h))
   have h3 := List.count_eq_zero.mpr h1
   unfold cnt; rw [List.count_nil]; lia
  ·have h1 := I.al k h
   have h2 := part (some k)
   unfold cnt at h1 ⊢; lia
 ·have h := rc n ((rh n).mp hn)
  clear hn
  induction h with
  | src h hn => exact .src (.inl h) hn
  | step _ h hn ih => exact .step ih h hn
end
end
end Mine.Internal.Bx
set_option autoImplicit false
namespace Mine.Internal.L09
open Mine.Internal Mine.Internal.Bx
open PySem (Str PyData)
noncomputable def zF (z : Nat → Int) : Nat → V := fun k => .int (z k)
theorem zF_at {z : Nat → Int} {k : Nat} : zF z k = .int (z k) := rfl
theorem zF_upd {z : Nat → Int} {k : Nat} {v : Int} : updF (zF z) k (.int v) = zF (updF z k v) := by
 funext j; unfold zF; by_cases e : j = k
 ·subst e; rw [uF_is, uF_is]
 ·rw [uF_ne e, uF_ne e]
noncomputable def zz (z : Nat → Int) (l : List (Option Nat)) (k : Nat) : Int := z k - ((l.count (some k) : Nat) : Int)
theorem zz_nil {z : Nat → Int} : zz z [] = z := by funext k; unfold zz; rw [List.count_nil]; exact Int.sub_zero _
theorem zz_app {z : Nat → Int} {l l' : List (Option Nat)} : zz (zz z l) l' = zz z (l ++ l') := by
 funext k; unfold zz; rw [List.count_append]; lia
theorem zz_none {z : Nat → Int} {l : List (Option Nat)} : zz z (l ++ [none]) = zz z l := by
 funext k; unfold zz; rw [List.count_append, List.count_cons_of_ne (by simp)]; rfl
theorem zz_some {z : Nat → Int} {l : List (Option Nat)} {j : Nat} : zz z (l ++ [some j]) = updF (zz z l) j (zz z l j - 1) := by
 funext k
 by_cases e : k = j
 ·subst e; rw [uF_is]; unfold zz; rw [List.count_append, List.count_cons_self, List.count_nil]; lia
 ·rw [uF_ne e]; unfold zz; rw [List.count_append, List.count_cons_of_ne (by simpa using fun q => e q.symm)]; rfl
theorem nV_at {l : List Nat} {i : Nat} {y : V} (h : (nV l)[i]? = some y) : ∃ hi : i < l.length, y = .int ((l[i] : Nat) : Int) := by
 have hi : i < l.length := by have := (List.getElem?_eq_some_iff.mp h).1; rwa [nV_len] at this
 refine ⟨hi, ?_⟩
 unfold nV at h
 rw [List.getElem?_map, List.getElem?_eq_getElem hi] at h
 exact (Option.some.inj h).symm
section
variable {N : Ps} {σ σ' : H} {hs : List (Option Nat)} {ks : List Nat} {b : Nat → Nat} {r : Nat → List (Option Nat)} {w : Nat → Nat} {qa : Nat} {q : List Nat} {m : Nat} {d : Nat} {Q : V → H → Prop}
theorem take_one {α : Type} {l : List α} {i : Nat} (h : i < l.length) : l.take (i + 1) = l.take i ++ [l[i]] := by rw [List.take_succ, List.getElem?_eq_getElem h]; rfl
theorem nf_of {a : Nat} (h : 7 < a) : prog.nf ≤ a := Nat.le_trans (show prog.nf ≤ 7 by decide) (Nat.le_of_lt h)
theorem dec_ok {x da la : Nat} {z : Nat → Int} {LS : List Nat} {lc : Loc} {Q : Option V → Loc → H → Prop} (A : Pl N σ hs ks b r ks w qa q m) (hx : x ∈ ks) (h6 : (r x).length ≤ 6) (g : σ.get da = some (.dict (mD (zF z) LS))) (nd : LS.Nodup) (hl : LS.length ≤ 100) (cl : ∀ k, some k ∈ r x → k ∈ LS) (hda : 7 < da)
  (e100 : lc 100 = some (.ref 2)) (e104 : lc 104 = some (.ref la)) (e105 : lc 105 = some (.ref da)) (e53 : lc 53 = some (.int (x : Int)))
  (h : ∀ l' σ', Kx da da σ σ' → σ.length ≤ σ'.length → σ'.get da = some (.dict (mD (zF (zz z (r x))) LS)) → l' 100 = some (.ref 2) → l' 104 = some (.ref la) → l' 105 = some (.ref da) → Q none l' σ') :
  OkS (exs prog (run prog 1000 (d + 2)) 1000 f_trials_4f_1 lc σ) Q := by
 refine oks_step rfl ?_
 rw [s_for]
 simp (disch := decide) only [e100, e53, mx_inst A.p A.d, zX, qt, qu, qB, qC, qD, qE, qG, qH, qI, qJ]
 refine points_ok A hx h6 ?_
 have dl := get_lt g
 have g0 := get_keep (x := .list ((r x).map ov)) g
 have gp : (σ.push (.list ((r x).map ov))).get σ.length = some (.list ((r x).map ov)) := get_push_eq
 have k0 : Kx da da σ (σ.push (.list ((r x).map ov))) := (Kx.refl _ _ _).ext ((Ext.refl _).push _)
 have n0 : σ.length ≤ (σ.push (.list ((r x).map ov))).length := by rw [len_push]; exact Nat.le_succ _
 generalize σ.push (.list ((r x).map ov)) = τ at *
 generalize hpa : σ.length = pa at *
 have hne : pa ≠ da := by lia
 refine ⟨_, it_list gp, f_inv (fun i l s => s.get pa = τ.get pa ∧ Kx da da σ s ∧ pa ≤ s.length ∧ s.get da = some (.dict (mD (zF (zz z ((r x).take i))) LS)) ∧ l 100 = some (.ref 2) ∧ l 104 = some (.ref la) ∧ l 105 = some (.ref da)) ⟨rfl, k0, n0, by rw [List.take_zero, zz_nil]; exact g0, e100, e104, e105⟩ ?_ ?_⟩
 ·rintro i l s y hy ⟨h1, h2, h3, h4, m1, m2, m3⟩
  obtain ⟨hi, hy⟩ := List.getElem?_eq_some_iff.mp hy
  rw [List.length_map] at hi
  rw [List.getElem_map] at hy
  subst hy
  have ht := take_one hi
  refine oks_step rfl ?_
  cases hv : (r x)[i] with
  | none =>
   rw [hv] at ht
   simp (disch := decide) only [ov, ok_isNot, ok_truthb, zb, zc, zq, zs, zG, zT, zX, qb, qc, qF, qG, qH, qI, qL, Nat.reduceBEq, qM, qN, ne_eq, not_true_eq_false, decide_false]
   refine ⟨trivial, still_get h1, h1, h2, h3, ?_, m1, m2, m3⟩
   rw [ht, zz_none]; exact h4
  | some j =>
   rw [hv] at ht
   have hj : j ∈ LS := cl j (by rw [← hv]; exact List.getElem_mem hi)
   have hd : dset (mD (zF (zz z ((r x).take i))) LS) (.int (j : Int)) (.int (zz z ((r x).take i) j - 1)) = mD (zF (zz z ((r x).take (i + 1)))) LS := by rw [mD_set hj nd, zF_upd, ht, zz_some]
   simp (disch := decide) only [ov, ok_isNot, ok_truthb, zq, zr, zG, zT, zX, qb, qc, qF, qG, qH, qI, qL, Nat.reduceBEq, qM, reduceCtorEq, ne_eq, not_false_eq_true, decide_true]
   refine oks_step rfl ?_
   simp (disch := decide) only [m3, ok_getDict h4 rfl (mD_get hj), zF_at, ok_sub, ok_setDict (v := .int (zz z ((r x).take i) j - 1)) h4 (nf_of hda) (show isKey (.int (j : Int)) = true from rfl) (by rw [hd, mD_len]; exact le_lim (by lia)), hd, zb, zc, zf, zl, zm, zn, zo, zV, zX, zY, zZ, qm, qo, qF, qG, qH, qI, qK, qL, Nat.reduceBEq, qM, qN]
   refine ⟨trivial, still_get ?_, ?_, h2.putx _, by rw [len_put]; exact h3, put_self h4, m1, m2, trivial⟩
   ·rw [get_put_ne hne.symm]; exact h1
   ·rw [get_put_ne hne.symm]; exact h1
 ·rintro l s ⟨h1, h2, h3, h4, m1, m2, m3⟩
  rw [List.length_map, List.take_length] at h4
  exact h l s h2 h3 h4 m1 m2 m3
theorem rows_run {C : Calls} {z : Nat → Int} {LS : List Nat} {da la : Nat} {loc : Loc} {vs₀ : List V} (g : σ.get da = some (.dict (mD (zF z) LS))) (e105 : loc 105 = some (.ref da)) (hi : iterOf (.ref la) σ = some vs₀) : ∀ (l : List Nat) (τ : H), Ext σ τ → (∀ k, k ∈ l → k ∈ LS) → l.Nodup →
  ∃ (τ' : H) (ta : Nat → Nat), compL (.ref la) [53] false (tstAnd prog C .nil) (ev prog C (.tup (.cons (.loc 53) (.cons (.sub (.loc 105) (.loc 53)) .nil)))) loc σ (nV l) τ = some (.ok (l.map fun (k : Nat) => V.ref (ta k)), τ') ∧ Ext τ τ' ∧ ∀ k : Nat, k ∈ l → τ'.get (ta k) = some (.tup [.int (k : Int), .int (z k)])
 | [], τ, _, _, _ => ⟨τ, fun _ => 0, rfl, Ext.refl _, fun k h => nomatch h⟩
 | k :: l, τ, x, hs, nd => by
  have nd := List.nodup_cons.mp nd
  have okt : okO (.tup [.int (k : Int), .int (z k)]) = true := rfl
  have e1 : ev prog C (.tup (.cons (.loc 53) (.cons (.sub (.loc 105) (.loc 53)) .nil))) (loc.upd 53 (.int (k : Int))) τ = some (.ok (.ref τ.length), τ.push (.tup [.int (k : Int), .int (z k)])) := by
   refine ok_eq ?_
   have e2 : (loc.upd 53 (.int (k : Int))) 105 = some (.ref da) := e105
   simp (disch := decide) only [e2, ok_getDict (x _ _ g) rfl (mD_get (hs k (.head _))), zF_at, ok_alloc okt, zX, qh, qi, qm, qo, qB, qC, qD, qE, qF, qG, qH, qI, qJ, qL, Nat.reduceBEq, qM]
   exact ⟨trivial, trivial⟩
  have x1 := x.push (.tup [.int (k : Int), .int (z k)])
  obtain ⟨τ', ta, h1, h2, h3⟩ := rows_run g e105 hi l _ x1 (fun j hj => hs j (.tail _ hj)) nd.2
  refine ⟨τ', updF ta k τ.length, ?_, ((Ext.refl τ).push _).trans h2, fun j hj => ?_⟩
  ·show compL _ [53] false _ _ loc σ (V.int (k : Int) :: nV l) τ = _
   unfold compL
   have eb : bindTg [53] false (.int (k : Int)) loc τ = some (loc.upd 53 (.int (k : Int))) := rfl
   have et : tstAnd prog C .nil (loc.upd 53 (.int (k : Int))) τ = some (.ok true, τ) := rfl
   rw [eb]
   dsimp only
   rw [et]
   dsimp only
   rw [e1]
   dsimp only
   rw [if_pos (x1.still hi), h1]
   dsimp only
   rw [List.map_cons, uF_is]
   congr 4
   exact List.map_congr_left fun j hj => by rw [uF_ne fun e => nd.1 (by rw [← e]; exact hj)]
  ·by_cases e : j = k
   ·subst e; rw [uF_is]; exact h2 _ _ get_push_eq
   ·rw [uF_ne e]; exact h3 j ((List.mem_cons.mp hj).resolve_left e)
theorem trials_ok (A : Pl N σ hs ks b r ks w qa q m) (I : G hs ks r w q m []) (hm : m ≤ 99) (h60 : ks.length ≤ 60)
  (h : ∀ (L : List Nat) (ta : Nat → Nat) (ra : Nat) (σ' : H), Ext σ σ' → σ.length ≤ ra → L.Pairwise (· ≤ ·) → L.Nodup → (∀ k, k ∈ L ↔ Rch ks r (· ∈ q) k) → σ'.get ra = some (.list (L.map fun (k : Nat) => V.ref (ta k))) → (∀ k : Nat, k ∈ L → σ'.get (ta k) = some (.tup [.int (k : Int), .int ((w k : Int) - ((ins L r (some k) : Nat) : Int))])) → Q (.ref ra) σ') : Ok (run prog 1000 (d + 4) false 103 [.ref 2]) σ Q := by
 rw [ok_run (fd := f_trials) rfl rfl]
 unfold f_trials
 have kl := klen_of I
 have q60 : q.length ≤ 60 := Nat.le_trans (nd_len I.qn I.qs) h60
 refine oks_step rfl ?_
 simp (disch := decide) only [mx_inst A.p A.d, zg, zX, qr, qt, qu, qB, qC, qD, qF, qG, qI, qJ, List.zip_cons_cons, List.zip_nil_right, List.foldl_cons, List.foldl_nil, qL, Nat.reduceBEq, qM]
 refine suspects_ok A (by lia) ?_
 rw [sortN_v]
 simp (disch := decide) only [qB, qD, qE, qG, qH, qJ]
 have x0 : Ext σ (σ.push (.list (nV (sortN q)))) := (Ext.refl _).push _
 refine reached_ok (A.ex x0) I hm get_push_eq (fun k hk => I.qs k (sortN_mem.mp hk)) (by rw [sortN_len]; lia) h60 fun L₀ τ x1 ndL hL => ?_
 have x1 := x0.trans x1
 have hL : ∀ k, k ∈ sortN L₀ ↔ Rch ks r (· ∈ q) k := fun k => by
  rw [sortN_mem, hL]
  have e : (fun k => k ∈ sortN q) = (fun k => k ∈ q) := by funext k; exact propext sortN_mem
  rw [e]
 have ndL : (sortN L₀).Nodup := sortN_perm.nodup_iff.mpr ndL
 have sL := so_sort (l := L₀)
 generalize sortN L₀ = L at *
 have Lk : ∀ k, k ∈ L → k ∈ ks := fun k hk => ((hL k).mp hk).mem
 have L60 : L.length ≤ 60 := Nat.le_trans (nd_len ndL Lk) h60
 have gl : (τ.push (.list (nV L))).get τ.length = some (.list (nV L)) := get_push_eq
 have x2 := x1.push (.list (nV L))
 have n2 : (τ.push (.list (nV L))).length = τ.length + 1 := len_push
 generalize τ.push (.list (nV L)) = τ2 at *
 generalize τ.length = la at *
 simp (disch := decide) only [zh]
 refine then_step rfl ?_
 simp (disch := decide) only [ok_alloc (o := .dict []) rfl, zg, zh, qj]
 have gl3 := get_keep (x := .dict []) gl
 have gd3 : (τ2.push (.dict [])).get τ2.length = some (.dict (mD (zF fun k => (w k : Int)) (L.take 0))) := get_push_eq
 have x3 := x2.push (.dict [])
 have dl : σ.length ≤ τ2.length := ext_len x2
 have hld : la ≠ τ2.length := by lia
 generalize τ2.push (.dict []) = τ3 at *
 generalize τ2.length = da at *
 have big := A.big
 have n7 := A.n7
 refine then_step rfl ?_
 rw [s_for]
 simp (disch := decide) only [zy, zX, qK, qL, Nat.reduceBEq, qM, qN]
 refine ⟨_, it_list gl3, f_inv (fun i l s => Kx da da τ3 s ∧ τ3.length ≤ s.length ∧ s.get da = some (.dict (mD (zF fun k => (w k : Int)) (L.take i))) ∧ l 100 = some (.ref 2) ∧ l 104 = some (.ref la) ∧ l 105 = some (.ref da)) ⟨Kx.refl _ _ _, Nat.le_refl _, gd3, rfl, rfl, rfl⟩ ?_ ?_⟩
 ·rintro i l s y hy ⟨h1, h2, h3, m1, m2, m3⟩
  obtain ⟨hi, rfl⟩ := nV_at hy
  have hk : L[i] ∈ ks := Lk _ (List.getElem_mem hi)
  have hlk : ∀ a o, σ.get a = some o → s.get a = some o := fun a o g => h1 a o (by have := get_lt g; lia) (by have := get_lt g; lia) (x3 a o g)
  have As := A.ex hlk
  have ht := take_one hi
  have hn : L[i] ∉ L.take i := fun hm => by
   obtain ⟨j, hj, e⟩ := List.mem_take_iff_getElem.mp hm
   have := (List.getElem_inj ndL).mp e
   lia
  have hd : dset (mD (zF fun k => (w k : Int)) (L.take i)) (.int ((L[i] : Nat) : Int)) (.int (w L[i] : Int)) = mD (zF fun k => (w k : Int)) (L.take (i + 1)) := by
   rw [mD_add hn, ht]
   have e : updF (zF fun k => (w k : Int)) L[i] (.int (w L[i] : Int)) = zF fun k => (w k : Int) := by
    funext j
    by_cases e : j = L[i]
    ·rw [e, uF_is]; rfl
    ·rw [uF_ne e]
   rw [e]
  refine oks_step rfl ?_
  simp (disch := decide) only [m1, mx_inst As.p As.d, zl, zX, qt, qu, qB, qC, qD, qE, qG, qH, qI, qJ, qL, Nat.reduceBEq, qM, qN]
  refine weighs_ok As hk hk ?_
  simp (disch := decide) only [m3, ok_setDict (v := .int (w L[i] : Int)) h3 (nf_of (show 7 < da by lia)) (show isKey (.int ((L[i] : Nat) : Int)) = true from rfl) (by rw [hd, mD_len, List.length_take]; exact le_lim (by lia)), hd, zb, zc, zf, zm, zn, zo, zX, qK, qL, Nat.reduceBEq, qM, qN]
  refine ⟨trivial, still_get ?_, h1.putx _, by rw [len_put]; exact h2, put_self h3, m1, m2, trivial⟩
  rw [get_put_ne hld.symm, gl3]; exact h1 _ _ hld hld gl3
 ·rintro l s ⟨h1, h2, h3, m1, m2, m3⟩
  rw [nV_len, List.take_length] at h3
  have gls := h1 _ _ hld hld gl3
  have hxs : ∀ a o, σ.get a = some o → s.get a = some o := fun a o g => h1 a o (by have := get_lt g; lia) (by have := get_lt g; lia) (x3 a o g)
  refine then_step rfl ?_
  rw [s_for]
  simp (disch := decide) only [m2, zy, zX, qK]
  refine ⟨_, it_list gls, f_inv (fun i l t => Kx da da s t ∧ s.length ≤ t.length ∧ t.get da = some (.dict (mD (zF (zz (fun k => (w k : Int)) ((L.take i).flatMap r))) L)) ∧ l 100 = some (.ref 2) ∧ l 104 = some (.ref la) ∧ l 105 = some (.ref da)) ⟨Kx.refl _ _ _, Nat.le_refl _, by rw [List.take_zero, List.flatMap_nil, zz_nil]; exact h3, m1, m2, m3⟩ ?_ ?_⟩
  ·rintro i l t y hy ⟨k1, k2, k3, p1, p2, p3⟩
   obtain ⟨hi, rfl⟩ := nV_at hy
   have hk : L[i] ∈ ks := Lk _ (List.getElem_mem hi)
   have hlk : ∀ a o, σ.get a = some o → t.get a = some o := fun a o g => k1 a o (by have := get_lt g; lia) (by have := get_lt g; lia) (hxs a o g)
   have As := A.ex hlk
   have ht := take_one hi
   refine dec_ok (la := la) As hk (I.rl _ hk) k3 ndL (by lia) (fun j hj => (hL j).mpr (.step ((hL _).mp (List.getElem_mem hi)) hj (I.inR hk hj))) (by lia) p1 p2 p3 rfl fun l' t' k4 k5 k6 p4 p5 p6 => ?_
   have kk : Kx da da s t' := fun a o e1 e2 g => k4 a o e1 e2 (k1 a o e1 e2 g)
   refine ⟨rfl, still_get ?_, kk, Nat.le_trans k2 k5, ?_, p4, p5, p6⟩
   ·rw [gls]; exact kk _ _ hld hld gls
   ·rw [ht, List.flatMap_append, List.flatMap_cons, List.flatMap_nil, List.append_nil, ← zz_app]; exact k6
  ·rintro l t ⟨k1, k2, k3, p1, p2, p3⟩
   rw [nV_len, List.take_length] at k3
   have glt := k1 _ _ hld hld gls
   have hxt : ∀ a o, σ.get a = some o → t.get a = some o := fun a o g => k1 a o (by have := get_lt g; lia) (by have := get_lt g; lia) (hxs a o g)
   refine then_step rfl ?_
   simp (disch := decide) only [p2, zt, zX, qA, qI]
   obtain ⟨t', ta, hc, hx', hta⟩ := rows_run (C := run prog 1000 (d + 3)) (loc := l) k3 p3 (it_list glt) L t (Ext.refl _) (fun k hk => hk) ndL
   have okl : okO (.list (L.map fun (k : Nat) => V.ref (ta k))) = true := by
    show decide ((L.map fun (k : Nat) => V.ref (ta k)).length ≤ lim) = true
    rw [List.length_map]; exact decide_eq_true (le_lim (by lia))
   have hcx : compX [53] false (tstAnd prog (run prog 1000 (d + 3)) .nil) (ev prog (run prog 1000 (d + 3)) (.tup (.cons (.loc 53) (.cons (.sub (.loc 105) (.loc 53)) .nil)))) l (.ref la) t = some (.ok (.ref t'.length), t'.push (.list (L.map fun (k : Nat) => V.ref (ta k)))) := by
    unfold compX
    rw [it_list glt]
    dsimp only
    unfold X.bind
    rw [hc]
    dsimp only
    unfold alloc
    rw [if_pos okl]
   rw [ok_some hcx]
   simp (disch := decide) only [zd, zu, zw]
   have xt : Ext σ t' := fun a o g => hx' a o (hxt a o g)
   refine h L ta t'.length _ (xt.push _) (ext_len xt) sL ndL hL get_push_eq fun k hk => get_keep ?_
   rw [hta k hk]; rfl
end
end Mine.Internal.L09
set_option autoImplicit false
namespace Mine.Internal.L09
open Mine.Internal Mine.Internal.Bx
open PySem (Str PyData)
theorem ok_inD {P : Prog} {σ : H} {a : Nat} {es : List (V × V)} {k : V} {Q : V → H → Prop} (h1 : σ.get a = some (.dict es)) (hk : (isKey k || decide (k = .none)) = true) : Ok (cmpop P .In k (.ref a)) σ Q = Q (.bool (dget es k).isSome) σ := ok_some (by
 unfold cmpop contains X.bind; simp [h1, hk, X.pure])
theorem mD_none {f : Nat → V} : ∀ {ks : List Nat}, dget (mD f ks) .none = none
 | [] => rfl
 | a :: r => by
  show (if V.int (a : Int) = V.none then some (f a) else dget (mD f r) .none) = _
  rw [if_neg (by intro e; cases e), mD_none]
theorem mD_ext {f g : Nat → V} : ∀ {ks : List Nat}, (∀ k, k ∈ ks → f k = g k) → mD f ks = mD g ks
 | [], _ => rfl
 | a :: r, h => by
  show (V.int (a : Int), f a) :: mD f r = (V.int (a : Int), g a) :: mD g r
  rw [h a (.head _), mD_ext fun k hk => h k (.tail _ hk)]
noncomputable def wo (ks l : List Nat) : List Nat := ks.filter fun k => decide (k ∉ l)
theorem wo_nil {ks : List Nat} : wo ks [] = ks := List.filter_eq_self.mpr fun _ _ => rfl
theorem wo_mem {ks l : List Nat} {k : Nat} : k ∈ wo ks l ↔ k ∈ ks ∧ k ∉ l := by unfold wo; rw [List.mem_filter, decide_eq_true_iff]
theorem wo_len {ks l : List Nat} : (wo ks l).length ≤ ks.length := List.length_filter_le ..
theorem wo_er {ks l : List Nat} {k : Nat} (nd : ks.Nodup) : (wo ks l).erase k = wo ks (l ++ [k]) := by
 unfold wo
 have nd' : (ks.filter fun k => decide (k ∉ l)).Nodup := nd.filter _
 rw [nd'.erase_eq_filter, List.filter_filter]
 refine List.filter_congr fun j _ => ?_
 by_cases h1 : j = k
 ·subst h1; simp
 ·simp [h1]
section
variable {N : Ps} {σ σ' : H} {hs : List (Option Nat)} {ks : List Nat} {b : Nat → Nat} {r : Nat → List (Option Nat)} {w : Nat → Nat} {qa : Nat} {q : List Nat} {m : Nat} {d : Nat} {Q : V → H → Prop}
theorem pops_run {C : Calls} {es : List (Nat × V)} {a : Nat} {loc : Loc} {vs₀ : List V} {kb₀ : List Nat} (nd : kb₀.Nodup) (ha : a ≠ 5) (e46 : loc 46 = some (.ref 2)) (h48 : aget es 48 = some (.ref 5)) (hi : σ.get a = some (.list vs₀)) : ∀ (l p : List Nat) (τ : H), (∀ c o, c ≠ 5 → σ.get c = some o → τ.get c = some o) → σ.get 2 = some (.inst 24 1) → σ.get 1 = some (.attrs es) → τ.get 5 = some (.dict (mD (bF b) (wo kb₀ p))) → (∀ k, k ∈ l → k ∈ wo kb₀ p) → l.Nodup →
  ∃ τ' : H, compL (.ref a) [53] false (tstAnd prog C .nil) (ev prog C (.meth (.attr (.loc 46) 48) 7 (.cons (.loc 53) .nil))) loc σ (nV l) τ = some (.ok (l.map fun (k : Nat) => V.ref (b k)), τ') ∧ (∀ c o, c ≠ 5 → σ.get c = some o → τ'.get c = some o) ∧ τ'.get 5 = some (.dict (mD (bF b) (wo kb₀ (p ++ l)))) ∧ τ'.length = τ.length
 | [], p, τ, x, _, _, g, _, _ => ⟨τ, rfl, x, by rw [List.append_nil]; exact g, rfl⟩
 | k :: l, p, τ, x, g2, g1, g, hs, ndl => by
  have ndl := List.nodup_cons.mp ndl
  have hk := hs k (.head _)
  have e1 : ev prog C (.meth (.attr (.loc 46) 48) 7 (.cons (.loc 53) .nil)) (loc.upd 53 (.int (k : Int))) τ = some (.ok (.ref (b k)), τ.put 5 (.dict (mD (bF b) (wo kb₀ (p ++ [k]))))) := by
   refine ok_eq ?_
   have e2 : (loc.upd 53 (.int (k : Int))) 46 = some (.ref 2) := e46
   simp (disch := decide) only [e2, ok_getAttr (x _ _ (by first | decide | lia) g2) (x _ _ (by first | decide | lia) g1) h48, mx_dict g, ok_dpop1 g (show prog.nf ≤ 5 by decide) (show isKey (.int (k : Int)) = true from rfl) (mD_get hk), bF_at, mD_del, wo_er nd, zX, qk, ql, qt, qB, qC, qD, qE, qF, qG, qH, qI, qJ, qL, Nat.reduceBEq, qM]
   exact ⟨trivial, trivial⟩
  have x1 : ∀ c o, c ≠ 5 → σ.get c = some o → (τ.put 5 (.dict (mD (bF b) (wo kb₀ (p ++ [k]))))).get c = some o := fun c o hc h => (get_put_ne (Ne.symm hc)).trans (x c o hc h)
  obtain ⟨τ', h1, h2, h3, h4⟩ := pops_run nd ha e46 h48 hi l (p ++ [k]) _ x1 g2 g1 (put_self g) (fun j hj => by
   have := wo_mem.mp (hs j (.tail _ hj))
   refine wo_mem.mpr ⟨this.1, fun h => ?_⟩
   rcases List.mem_append.mp h with h | h
   ·exact this.2 h
   ·exact ndl.1 (by rw [← List.mem_singleton.mp h]; exact hj)) ndl.2
  refine ⟨τ', ?_, h2, by rw [List.append_assoc] at h3; exact h3, by rw [h4, len_put]⟩
  show compL _ [53] false _ _ loc σ (V.int (k : Int) :: nV l) τ = _
  unfold compL
  have eb : bindTg [53] false (.int (k : Int)) loc τ = some (loc.upd 53 (.int (k : Int))) := rfl
  have et : tstAnd prog C .nil (loc.upd 53 (.int (k : Int))) τ = some (.ok true, τ) := rfl
  rw [eb]
  dsimp only
  rw [et]
  dsimp only
  rw [e1]
  dsimp only
  rw [if_pos (still_get (by rw [hi]; exact x1 a _ ha hi)), h1]
  rfl
theorem less_ok {x ga : Nat} {z : Nat → Int} {kw : List Nat} {es : List (Nat × V)} {lc : Loc} {Q : Option V → Loc → H → Prop} (g2 : σ.get 2 = some (.inst 24 1)) (g1 : σ.get 1 = some (.attrs es)) (h49 : aget es 49 = some (.ref 6)) (g : σ.get 6 = some (.dict (mD (zF z) kw))) (nd : kw.Nodup) (hl : kw.length ≤ 100) (gx : σ.get x = some (.list ((r m).map ov))) (hx6 : x ≠ 6)
  (e46 : lc 46 = some (.ref 2)) (e98 : lc 98 = some (.ref ga)) (e62 : lc 62 = some (.ref x))
  (h : ∀ l' σ', (∀ c o, c ≠ 6 → σ.get c = some o → σ'.get c = some o) → σ'.length = σ.length → σ'.get 6 = some (.dict (mD (zF (zz z (r m))) kw)) → l' 46 = some (.ref 2) → l' 98 = some (.ref ga) → Q none l' σ') :
  OkS (exs prog (run prog 1000 d) 1000 PP.m_swept_3f_1 lc σ) Q := by
 refine oks_step rfl ?_
 rw [s_for]
 simp (disch := decide) only [e62, zy, zX, qK]
 refine ⟨_, it_list gx, f_inv (fun i l s => (∀ c o, c ≠ 6 → σ.get c = some o → s.get c = some o) ∧ s.length = σ.length ∧ s.get 6 = some (.dict (mD (zF (zz z ((r m).take i))) kw)) ∧ l 46 = some (.ref 2) ∧ l 98 = some (.ref ga)) ⟨fun _ _ _ h => h, rfl, by rw [List.take_zero, zz_nil]; exact g, e46, e98⟩ ?_ ?_⟩
 ·rintro i l s y hy ⟨h1, h2, h3, m1, m2⟩
  obtain ⟨hi, hy⟩ := List.getElem?_eq_some_iff.mp hy
  rw [List.length_map] at hi
  rw [List.getElem_map] at hy
  subst hy
  have ht := take_one hi
  have i2 := h1 _ _ (by first | decide | lia) g2
  have i1 := h1 _ _ (by first | decide | lia) g1
  have hst : s.get x = σ.get x := by rw [gx]; exact h1 _ _ hx6 gx
  refine oks_step rfl ?_
  cases hv : (r m)[i] with
  | none =>
   rw [hv] at ht
   simp (disch := decide) only [ov, m1, ok_getAttr i2 i1 h49, ok_inD h3 (k := .none) rfl, mD_none, Option.isSome_none, ok_truthb, zb, zc, zq, zs, zG, zX, qb, qc, qk, ql, qF, qG, qI, qL, Nat.reduceBEq, qM, qN, ne_eq]
   refine ⟨trivial, still_get hst, h1, h2, ?_, trivial, m2⟩
   rw [ht, zz_none]; exact h3
  | some j =>
   rw [hv] at ht
   by_cases hj : j ∈ kw
   ·have hd : dset (mD (zF (zz z ((r m).take i))) kw) (.int (j : Int)) (.int (zz z ((r m).take i) j - 1)) = mD (zF (zz z ((r m).take (i + 1)))) kw := by rw [mD_set hj nd, zF_upd, ht, zz_some]
    simp (disch := decide) only [ov, m1, ok_getAttr i2 i1 h49, ok_inD h3 (k := .int (j : Int)) rfl, mD_get hj, Option.isSome_some, ok_truthb, zq, zr, zG, zX, qb, qc, qk, ql, qF, qG, qI, qL, Nat.reduceBEq, qM, qN, ne_eq]
    refine oks_step rfl ?_
    simp (disch := decide) only [m1, ok_getAttr i2 i1 h49, ok_getDict h3 rfl (mD_get hj), zF_at, ok_sub, ok_setDict (v := .int (zz z ((r m).take i) j - 1)) h3 (show prog.nf ≤ 6 by decide) (show isKey (.int (j : Int)) = true from rfl) (by rw [hd, mD_len]; exact le_lim (by lia)), hd, zb, zc, zf, zl, zm, zn, zo, zV, zX, zY, zZ, qk, ql, qm, qo, qF, qG, qH, qI, qK, qL, Nat.reduceBEq, qM, qN]
    refine ⟨trivial, still_get ?_, fun c o hc g => (get_put_ne (Ne.symm hc)).trans (h1 c o hc g), by rw [len_put]; exact h2, put_self h3, trivial, m2⟩
    rw [get_put_ne (Ne.symm hx6)]; exact hst
   ·simp (disch := decide) only [ov, m1, ok_getAttr i2 i1 h49, ok_inD h3 (k := .int (j : Int)) rfl, mD_miss hj, Option.isSome_none, ok_truthb, zb, zc, zq, zs, zG, zX, qb, qc, qk, ql, qF, qG, qI, qL, Nat.reduceBEq, qM, qN, ne_eq]
    refine ⟨trivial, still_get hst, h1, h2, ?_, trivial, m2⟩
    have e : mD (zF (zz z ((r m).take (i + 1)))) kw = mD (zF (zz z ((r m).take i))) kw := by
     rw [ht, zz_some, ← zF_upd, mD_no hj]
    rw [e]; exact h3
 ·rintro l s ⟨h1, h2, h3, m1, m2⟩
  rw [List.length_map, List.take_length] at h3
  exact h l s h1 h2 h3 m1 m2
end
end Mine.Internal.L09
set_option autoImplicit false
namespace Mine.Internal.L09
open Mine.Internal Mine.Internal.Bx
open PySem (Str PyData)
theorem ins_le {gl ks : List Nat} {r : Nat → List (Option Nat)} {y : Option Nat} (nd : gl.Nodup) (ndk : ks.Nodup) (h : ∀ k, k ∈ gl → k ∈ ks) : ins gl r y ≤ ins ks r y := by
 have e : gl.Perm (ks.filter fun k => decide (k ∈ gl)) := (List.perm_ext_iff_of_nodup nd (ndk.filter _)).mpr fun k => by
  rw [List.mem_filter, decide_eq_true_iff]
  exact ⟨fun hk => ⟨h k hk, hk⟩, fun hk => hk.2⟩
 rw [ins_part (ks := ks) (p := fun k => decide (k ∈ gl)), ins_perm e]
 exact Nat.le_add_right _ _
section
variable {N : Ps} {σ σ' : H} {hs : List (Option Nat)} {ks : List Nat} {b : Nat → Nat} {r : Nat → List (Option Nat)} {w : Nat → Nat} {qa : Nat} {q : List Nat} {m : Nat} {d : Nat} {Q : V → H → Prop}
theorem at5_q {qa' n : Nat} : aset [(47, V.ref 4), (48, .ref 5), (49, .ref 6), (50, .ref qa), (51, .int (n : Int))] 50 (.ref qa') = [(47, .ref 4), (48, .ref 5), (49, .ref 6), (50, .ref qa'), (51, .int (n : Int))] := rfl
theorem swept_ok {a : Nat} {gl : List Nat} (A : Pl N σ hs ks b r ks w qa q m) (I : G hs ks r w q m []) (g : σ.get a = some (.list (nV gl))) (ndg : gl.Nodup) (sub : ∀ k, k ∈ gl → k ∈ ks) (hm : m ≤ 99)
  (h : ∀ qa' σ', Pl N σ' hs (wo ks gl) b r (wo ks gl) (fun k => w k - ins gl r (some k)) qa' [] m → Kp N σ σ' → σ'.get a = some (.list (nV gl)) → Q .none σ') : Ok (run prog 1000 (d + 1) true 40 [.ref 2, .ref a]) σ Q := by
 rw [ok_run (fd := PP.m_swept) rfl rfl]
 unfold PP.m_swept
 have n7 := A.n7
 have big := A.big
 have kl := klen_of I
 have gl60 : gl.length ≤ ks.length := nd_len ndg sub
 have ha5 : a ≠ 5 := fun e => by rw [e, A.b'] at g; cases g
 have ha6 : a ≠ 6 := fun e => by rw [e, A.w'] at g; cases g
 have ha1 : a ≠ 1 := fun e => by rw [e, A.d] at g; cases g
 obtain ⟨τ, hc, hx, g5, hlen⟩ := pops_run (σ := σ) (b := b) (C := run prog 1000 d) (loc := ((PP.m_swept.params.zip [V.ref 2, .ref a]).foldl (fun l p => l.upd p.1 p.2) (fun _ => none))) (kb₀ := ks) I.nd ha5 rfl (show aget [(47, V.ref 4), (48, .ref 5), (49, .ref 6), (50, .ref qa), (51, .int (m : Int))] 48 = some (.ref 5) from rfl) g gl [] σ (fun _ _ _ h => h) A.p A.d (by rw [wo_nil]; exact A.b') (fun k hk => by rw [wo_nil]; exact sub k hk) ndg
 rw [List.nil_append] at g5
 have okl : okO (.list (gl.map fun (k : Nat) => V.ref (b k))) = true := by
  show decide ((gl.map fun (k : Nat) => V.ref (b k)).length ≤ lim) = true
  rw [List.length_map]; exact decide_eq_true (le_lim (by lia))
 have hcx : compX [53] false (tstAnd prog (run prog 1000 d) .nil) (ev prog (run prog 1000 d) (.meth (.attr (.loc 46) 48) 7 (.cons (.loc 53) .nil))) ((PP.m_swept.params.zip [V.ref 2, .ref a]).foldl (fun l p => l.upd p.1 p.2) (fun _ => none)) (.ref a) σ = some (.ok (.ref τ.length), τ.push (.list (gl.map fun (k : Nat) => V.ref (b k)))) := by
  unfold compX
  rw [it_list g]
  dsimp only
  unfold X.bind
  rw [hc]
  dsimp only
  unfold alloc
  rw [if_pos okl]
 refine oks_step rfl ?_
 rw [zg, qA, qF]
 rw [show ev prog (run prog 1000 d) (.loc 61) (([46, 61].zip [V.ref 2, .ref a]).foldl (fun l p => Loc.upd l p.1 p.2) (fun _ => none)) = X.pure (.ref a) from rfl, qJ, qG]
 change Ok (compX [53] false (tstAnd prog (run prog 1000 d) .nil) (ev prog (run prog 1000 d) (.meth (.attr (.loc 46) 48) 7 (.cons (.loc 53) .nil))) ((PP.m_swept.params.zip [V.ref 2, .ref a]).foldl (fun l p => l.upd p.1 p.2) (fun _ => none)) (.ref a)) σ _
 rw [ok_some hcx, zh]
 clear hc hcx okl
 have gq : (τ.push (.list (gl.map fun (k : Nat) => V.ref (b k)))).get τ.length = some (.list (gl.map fun (k : Nat) => V.ref (b k))) := get_push_eq
 have x1 : ∀ c o, c ≠ 5 → σ.get c = some o → (τ.push (.list (gl.map fun (k : Nat) => V.ref (b k)))).get c = some o := fun c o hc g => get_keep (hx c o hc g)
 have g51 := get_keep (x := .list (gl.map fun (k : Nat) => V.ref (b k))) g5
 have len1 : (τ.push (.list (gl.map fun (k : Nat) => V.ref (b k)))).length = σ.length + 1 := by rw [len_push, hlen]
 rw [hlen] at gq ⊢
 generalize τ.push (.list (gl.map fun (k : Nat) => V.ref (b k))) = τ1 at *
 generalize hga : σ.length = ga at *
 have al := get_lt g
 have f1 := x1 _ _ (by first | decide | lia) A.d
 have f2 := x1 _ _ (by first | decide | lia) A.p
 have f6 := x1 _ _ (by first | decide | lia) A.w'
 have fa := x1 _ _ ha5 g
 refine then_step rfl ?_
 rw [s_for]
 simp (disch := decide) only [zy, zX, qK, List.zip_cons_cons, List.zip_nil_right, List.foldl_cons, List.foldl_nil, qL, Nat.reduceBEq, qM, qN]
 refine ⟨_, it_list fa, f_inv (fun i l s => (∀ c o, c ≠ 6 → τ1.get c = some o → s.get c = some o) ∧ s.length = τ1.length ∧ s.get 6 = some (.dict (mD (wF w) (wo ks (gl.take i)))) ∧ l 46 = some (.ref 2) ∧ l 98 = some (.ref ga)) ⟨fun _ _ _ h => h, rfl, by rw [List.take_zero, wo_nil]; exact f6, rfl, rfl⟩ ?_ ?_⟩
 ·rintro i l s y hy ⟨h1, h2, h3, m1, m2⟩
  obtain ⟨hi, rfl⟩ := nV_at hy
  have hn : gl[i] ∉ gl.take i := fun hm => by
   obtain ⟨j, hj, e⟩ := List.mem_take_iff_getElem.mp hm
   have := (List.getElem_inj ndg).mp e
   lia
  have hk : gl[i] ∈ wo ks (gl.take i) := wo_mem.mpr ⟨sub _ (List.getElem_mem hi), hn⟩
  have hw : (wo ks (gl.take i)).erase gl[i] = wo ks (gl.take (i + 1)) := by rw [wo_er I.nd, take_one hi]
  refine oks_step rfl ?_
  simp (disch := decide) only [m1, ok_getAttr (h1 _ _ (by first | decide | lia) f2) (h1 _ _ (by first | decide | lia) f1) (n := 49) (v := .ref 6) rfl, mx_dict h3, ok_dpop1 h3 (show prog.nf ≤ 6 by decide) (show isKey (.int ((gl[i] : Nat) : Int)) = true from rfl) (mD_get hk), mD_del, hw, zb, zc, ze, zf, zX, qk, ql, qt, qB, qC, qD, qE, qF, qG, qH, qI, qJ, qL, Nat.reduceBEq, qM, qN, ne_eq]
  refine ⟨trivial, still_get ?_, fun c o hc g => (get_put_ne (Ne.symm hc)).trans (h1 c o hc g), by rw [len_put]; exact h2, put_self h3, trivial, m2⟩
  rw [get_put_ne (Ne.symm ha6), fa]; exact h1 _ _ ha6 fa
 ·rintro l s ⟨h1, h2, h3, m1, m2⟩
  rw [nV_len, List.take_length] at h3
  have g6 : s.get 6 = some (.dict (mD (zF fun k => (w k : Int)) (wo ks gl))) := h3
  have hga6 : ga ≠ 6 := by lia
  have gqs := h1 _ _ hga6 gq
  have i1 := h1 _ _ (by first | decide | lia) f1
  have i2 := h1 _ _ (by first | decide | lia) f2
  have ndw : (wo ks gl).Nodup := I.nd.filter _
  have lw : (wo ks gl).length ≤ 100 := Nat.le_trans wo_len (by lia)
  refine then_step rfl ?_
  rw [s_for]
  simp (disch := decide) only [m2, zy, zX, qK]
  refine ⟨_, it_list gqs, f_inv (fun i l t => (∀ c o, c ≠ 6 → s.get c = some o → t.get c = some o) ∧ t.length = s.length ∧ t.get 6 = some (.dict (mD (zF (zz (fun k => (w k : Int)) ((gl.take i).flatMap r))) (wo ks gl))) ∧ l 46 = some (.ref 2) ∧ l 98 = some (.ref ga)) ⟨fun _ _ _ h => h, rfl, by rw [List.take_zero, List.flatMap_nil, zz_nil]; exact g6, m1, m2⟩ ?_ ?_⟩
  ·rintro i l t y hy ⟨k1, k2, k3, p1, p2⟩
   have hi : i < gl.length := by have := (List.getElem?_eq_some_iff.mp hy).1; rwa [List.length_map] at this
   rw [List.getElem?_map, List.getElem?_eq_getElem hi] at hy
   have hy : V.ref (b gl[i]) = y := Option.some.inj hy
   subst hy
   have hk : gl[i] ∈ ks := sub _ (List.getElem_mem hi)
   have hb := A.bx _ hk
   have gb := k1 _ _ (by lia) (h1 _ _ (by lia) (x1 _ _ (by lia) hb.2))
   have ht := take_one hi
   refine less_ok (m := gl[i]) (ga := ga) (k1 _ _ (by first | decide | lia) i2) (k1 _ _ (by first | decide | lia) i1) (show aget [(47, V.ref 4), (48, .ref 5), (49, .ref 6), (50, .ref qa), (51, .int (m : Int))] 49 = some (.ref 6) from rfl) k3 ndw lw gb (by lia) p1 p2 rfl fun l' t' j1 j2 j3 q1 q2 => ?_
   refine ⟨rfl, still_get ?_, fun c o hc g => j1 c o hc (k1 c o hc g), j2.trans k2, ?_, q1, q2⟩
   ·rw [gqs]; exact j1 _ _ hga6 (k1 _ _ hga6 gqs)
   ·rw [ht, List.flatMap_append, List.flatMap_cons, List.flatMap_nil, List.append_nil, ← zz_app]; exact j3
  ·rintro l t ⟨k1, k2, k3, p1, p2⟩
   rw [List.length_map, List.take_length] at k3
   have e6 : mD (zF (zz (fun k => (w k : Int)) (gl.flatMap r))) (wo ks gl) = mD (wF fun k => w k - ins gl r (some k)) (wo ks gl) := mD_ext fun k hk => by
    have hk := (wo_mem.mp hk).1
    have h1 := I.ct k hk
    have h2 := ins_le (r := r) (y := some k) ndg I.nd sub
    unfold zF zz wF
    unfold cnt at h1
    show V.int ((w k : Int) - ((ins gl r (some k) : Nat) : Int)) = _
    congr 1; lia
   rw [e6] at k3
   have xt : ∀ c o, c ≠ 5 → c ≠ 6 → σ.get c = some o → t.get c = some o := fun c o h5 h6 g => k1 c o h6 (h1 c o h6 (x1 c o h5 g))
   have t5 := k1 _ _ (by first | decide | lia) (h1 _ _ (by first | decide | lia) g51)
   have tl : t.length = ga + 1 := by rw [k2, h2, len1]
   have At : Pl N t hs (wo ks gl) b r (wo ks gl) (fun k => w k - ins gl r (some k)) qa q m :=
    ⟨xt _ _ (by first | decide | lia) (by first | decide | lia) A.d, xt _ _ (by first | decide | lia) (by first | decide | lia) A.p, xt _ _ (by first | decide | lia) (by first | decide | lia) A.h, t5, k3, xt _ _ (by have := A.qne; lia) (by have := A.qne; lia) A.q', fun k hk => let ⟨c1, c2⟩ := A.bx k (wo_mem.mp hk).1; ⟨c1, xt _ _ (by lia) (by lia) c2⟩, fun i j hi hj e => A.ij i j (wo_mem.mp hi).1 (wo_mem.mp hj).1 e, A.qa7, by lia, n7, ⟨lw, lw, A.sm.2.2⟩, A.uo, A.uq, fun k hk => A.ub k (wo_mem.mp hk).1, fun c h => by have := A.ul c h; lia⟩
   have kpt : Kp N σ t := fun c o e g => by
    by_cases h5 : c = 5
    ·subst h5; rw [A.b'] at g; cases g; rcases e with e | e
     ·cases e
     ·exact absurd e A.u5
    ·by_cases h6 : c = 6
     ·subst h6; rw [A.w'] at g; cases g; rcases e with e | e
      ·cases e
      ·exact absurd e A.u6
     ·exact xt c o h5 h6 g
   have ta := xt _ _ ha5 ha6 g
   refine then_step rfl ?_
   have A2 := At.push (.dict [])
   have gd : (t.push (.dict [])).get t.length = some (.dict (mD tF [])) := get_push_eq
   have kp2 := kpt.push (.dict [])
   have ta2 := get_keep (x := .dict []) ta
   have hq1 : (aset [(47, V.ref 4), (48, .ref 5), (49, .ref 6), (50, .ref qa), (51, .int (m : Int))] 50 (.ref t.length)).length ≤ 100 := by rw [at5_q]; exact (show 5 ≤ 100 by decide)
   simp (disch := decide) only [p1, ok_alloc (o := .dict []) rfl, ok_setAttr A2.p A2.d (show prog.nf ≤ 1 by decide) (show prog.attrs.contains 50 = true by decide) hq1, at5_q, zb, zc, zx, zf, zi, zj, zk, zx, zX, qj, qK]
   exact h _ _ (A2.setD m (.inr (by lia)) gd (Nat.zero_le _) fun h => Nat.lt_irrefl _ (At.ul _ h)) (kp2.put A2.d rfl A2.u1 _) ((get_put_ne (Ne.symm ha1)).trans ta2)
end
end Mine.Internal.L09
set_option autoImplicit false
namespace Mine.Internal.L09
open Mine.Internal Mine.Internal.Bx
open PySem (Str PyData)
section
variable {σ : H}
theorem data_ints {h : H} {n : Nat} : ∀ {l : List Nat}, optAll (dataOf h (n + 1)) (nV l) = some (l.map fun (k : Nat) => PyData.int (k : Int))
 | [] => rfl
 | a :: r => by
  show optAll (dataOf h (n + 1)) (V.int (a : Int) :: nV r) = _
  unfold optAll; rw [data_ints]; rfl
theorem any_ints {n : Nat} : ∀ {l : List Nat}, (l.map fun (k : Nat) => PyData.int (k : Int)).any (fun y => PyData.eqv y (.int (n : Int))) = decide (n ∈ l)
 | [] => rfl
 | a :: r => by
  show (PyData.eqv (.int (a : Int)) (.int (n : Int)) || (r.map fun (k : Nat) => PyData.int (k : Int)).any (fun y => PyData.eqv y (.int (n : Int)))) = _
  rw [any_ints, eqv_int]
  have e : decide ((a : Int) = (n : Int)) = decide (n = a) := by
   by_cases h : n = a
   ·subst h; rw [decide_eq_true rfl, decide_eq_true rfl]
   ·rw [decide_eq_false h, decide_eq_false (by lia)]
  rw [e]; simp only [List.mem_cons, Bool.decide_or]
theorem ok_notInL {n a : Nat} {l : List Nat} {Q : V → H → Prop} (h : σ.get a = some (.list (nV l))) : Ok (cmpop prog .NotIn (.int (n : Int)) (.ref a)) σ Q = Q (.bool (!decide (n ∈ l))) σ := ok_some (by
 have e : inList σ (.int (n : Int)) (nV l) = some (decide (n ∈ l)) := by
  unfold inList
  rw [data_ints]
  show some ((l.map fun (k : Nat) => PyData.int (k : Int)).any (fun y => PyData.eqv y (.int (n : Int)))) = _
  rw [any_ints]
 unfold cmpop contains X.bind
 simp only [h, e, Option.map_some, X.pure])
end
noncomputable def rowK (σ : H) : V → V
 | .ref t => match σ.get t with
  | some (.tup [a, _]) => a
  | _ => .none
 | _ => .none
noncomputable def rowP (σ : H) (p : V → V → Bool) : V → Bool
 | .ref t => match σ.get t with
  | some (.tup [a, b]) => p a b
  | _ => false
 | _ => false
theorem rowK_at {σ : H} {t : Nat} {a b : V} (h : σ.get t = some (.tup [a, b])) : rowK σ (.ref t) = a := by unfold rowK; simp only [h]
theorem rowP_at {σ : H} {t : Nat} {a b : V} {p : V → V → Bool} (h : σ.get t = some (.tup [a, b])) : rowP σ p (.ref t) = p a b := by unfold rowP; simp only [h]
theorem rows_f {σ : H} {p : V → V → Bool} {f : Nat → Bool} {ta : Nat → Nat} {z : Nat → Int} : ∀ {L : List Nat}, (∀ k : Nat, k ∈ L → σ.get (ta k) = some (.tup [.int (k : Int), .int (z k)]) ∧ p (.int (k : Int)) (.int (z k)) = f k) →
  ((L.map fun (k : Nat) => V.ref (ta k)).filter (rowP σ p)).map (rowK σ) = nV (L.filter f)
 | [], _ => rfl
 | k :: L, h => by
  have ih := rows_f (L := L) fun j hj => h j (.tail _ hj)
  obtain ⟨h1, h2⟩ := h k (.head _)
  rw [List.map_cons, List.filter_cons, List.filter_cons, rowP_at h1, h2]
  cases f k with
  | true => simp only [if_true, List.map_cons]; rw [ih, rowK_at h1]; rfl
  | false => simp only [Bool.false_eq_true, if_false]; exact ih
section
variable {N : Ps} {σ σ' : H} {hs : List (Option Nat)} {ks : List Nat} {b : Nat → Nat} {r : Nat → List (Option Nat)} {w : Nat → Nat} {qa : Nat} {q : List Nat} {m : Nat} {d : Nat} {Q : V → H → Prop}
theorem tidy_ok (A : Pl N σ hs ks b r ks w qa q m) (I : G hs ks r w q m []) (hm : m ≤ 99) (h60 : ks.length ≤ 60)
  (h : ∀ v qa' ks' w' σ', Pl N σ' hs ks' b r ks' w' qa' [] m → G hs ks' r w' [] m [] → ks'.length ≤ 60 → Kp N σ σ' → Q v σ') : Ok (run prog 1000 (d + 5) false 106 [.ref 2]) σ Q := by
 rw [ok_run (fd := f_tidy) rfl rfl]
 unfold f_tidy
 refine oks_step rfl ?_
 simp (disch := decide) only [zg, zX, qr, qB, qC, qD, qE, qH, qI, List.zip_cons_cons, List.zip_nil_right, List.foldl_cons, List.foldl_nil, qL, Nat.reduceBEq, qM]
 refine trials_ok A I hm h60 fun L ta ra σ1 x1 _ sL ndL hL gr ht => ?_
 have A1 := A.ex x1
 have Lk : ∀ k, k ∈ L → k ∈ ks := fun k hk => ((hL k).mp hk).mem
 have L60 : L.length ≤ 60 := Nat.le_trans (nd_len ndL Lk) h60
 simp (disch := decide) only [zh]
 refine then_step rfl ?_
 simp (disch := decide) only [zg, zX, qr, qA, qC, qD, qF, qI, qL, Nat.reduceBEq, qM, qN]
 have lf : ∀ f : Nat → Bool, (nV (L.filter f)).length ≤ lim := fun f => le_lim (by rw [nV_len]; exact Nat.le_trans (List.length_filter_le ..) (by lia))
 have zp : ∀ k : Nat, decide (((w k : Int) - ((ins L r (some k) : Nat) : Int)) > 0) = decide (ins L r (some k) < w k) := fun k => decide_eq_decide.mpr (by lia)
 have rp1 : ∀ k : Nat, k ∈ L → σ1.get (ta k) = some (.tup [.int (k : Int), .int ((w k : Int) - ((ins L r (some k) : Nat) : Int))]) ∧ (fun _ v => (match v with | V.int z => decide (z > 0) | _ => false : Bool)) (V.int (k : Int)) (V.int ((w k : Int) - ((ins L r (some k) : Nat) : Int))) = decide (ins L r (some k) < w k) := fun k hk => ⟨ht k hk, zp k⟩
 rw [c_pure (rowP σ1 fun _ v => match v with | .int z => decide (z > 0) | _ => false) (rowK σ1) (it_list gr) (fun y hy => ?_) (fun y hy _ => ?_) (by rw [rows_f rp1]; exact lf _), rows_f rp1]
 ·have x2 := x1.push (.list (nV (L.filter fun k => decide (ins L r (some k) < w k))))
  have y2 : Ext σ1 (σ1.push (.list (nV (L.filter fun k => decide (ins L r (some k) < w k))))) := (Ext.refl _).push _
  have g2 : (σ1.push (.list (nV (L.filter fun k => decide (ins L r (some k) < w k))))).get σ1.length = some (.list (nV (L.filter fun k => decide (ins L r (some k) < w k)))) := get_push_eq
  generalize σ1.push (.list (nV (L.filter fun k => decide (ins L r (some k) < w k)))) = σ2 at *
  simp (disch := decide) only [qB, qD, qE, qG, qH, qJ]
  refine reached_ok (d := d + 1) (A.ex x2) I hm g2 (fun k hk => Lk k (List.mem_filter.mp hk).1) (Nat.le_trans (List.length_filter_le ..) (by lia)) h60 fun K₀ σ3 x3 ndK hK => ?_
  have hK : ∀ k, k ∈ sortN K₀ ↔ Rch ks r (fun k => k ∈ L ∧ ins L r (some k) < w k) k := fun k => by
   rw [sortN_mem, hK]
   have e : (fun k => k ∈ L.filter fun k => decide (ins L r (some k) < w k)) = (fun k => k ∈ L ∧ ins L r (some k) < w k) := by
    funext k; rw [List.mem_filter, decide_eq_true_iff]
   rw [e]
  generalize sortN K₀ = K at *
  have T : Ti hs ks r w q L K := ⟨ndL, hL, hK⟩
  have g4 : (σ3.push (.list (nV K))).get σ3.length = some (.list (nV K)) := get_push_eq
  have y4 : Ext σ1 (σ3.push (.list (nV K))) := (y2.trans x3).push _
  have x4 : Ext σ (σ3.push (.list (nV K))) := x1.trans y4
  generalize σ3.push (.list (nV K)) = σ4 at *
  generalize σ3.length = ka at *
  simp (disch := decide) only [zh]
  refine then_step rfl ?_
  simp (disch := decide) only [zg, zX, qA, qI, qL, Nat.reduceBEq, qM, qN]
  have rp2 : ∀ k : Nat, k ∈ L → σ4.get (ta k) = some (.tup [.int (k : Int), .int ((w k : Int) - ((ins L r (some k) : Nat) : Int))]) ∧ (fun v _ => (match v with | V.int z => !decide (z.toNat ∈ K) | _ => false : Bool)) (V.int (k : Int)) (V.int ((w k : Int) - ((ins L r (some k) : Nat) : Int))) = !decide (k ∈ K) := fun k hk => ⟨y4 _ _ (ht k hk), rfl⟩
  rw [c_pure (rowP σ4 fun v _ => match v with | .int z => !decide (z.toNat ∈ K) | _ => false) (rowK σ4) (it_list (y4 _ _ gr)) (fun y hy => ?_) (fun y hy _ => ?_) (by rw [rows_f rp2]; exact lf _), rows_f rp2]
  ·have x5 := x4.push (.list (nV (L.filter fun k => !decide (k ∈ K))))
   have g5 : (σ4.push (.list (nV (L.filter fun k => !decide (k ∈ K))))).get σ4.length = some (.list (nV (L.filter fun k => !decide (k ∈ K)))) := get_push_eq
   generalize σ4.push (.list (nV (L.filter fun k => !decide (k ∈ K)))) = σ5 at *
   generalize σ4.length = ga at *
   have A5 := A.ex x5
   simp (disch := decide) only [zh]
   refine then_step rfl ?_
   simp (disch := decide) only [mx_inst A5.p A5.d, ze, zX, qt, qu, qB, qC, qD, qE, qG, qH, qI, qJ, qL, Nat.reduceBEq, qM, qN]
   have ndg : (L.filter fun k => !decide (k ∈ K)).Nodup := ndL.filter _
   have gm : ∀ k, k ∈ (L.filter fun k => !decide (k ∈ K)) ↔ k ∈ L ∧ k ∉ K := fun k => by rw [List.mem_filter]; simp
   refine swept_ok (d := d + 3) A5 I g5 ndg (fun k hk => Lk k ((gm k).mp hk).1) hm fun qa' σ6 A6 k6 g6 => ?_
   have inv := T.inv I (ks' := wo ks (L.filter fun k => !decide (k ∈ K))) (gl := L.filter fun k => !decide (k ∈ K)) (w' := fun k => w k - ins (L.filter fun k => !decide (k ∈ K)) r (some k)) (by
    unfold wo
    refine List.filter_congr fun k _ => ?_
    have e : (k ∉ L.filter fun k => !decide (k ∈ K)) ↔ ¬ (gone L K k = true) := by rw [gone_iff, gm]
    cases hg : gone L K k with
    | true => rw [decide_eq_false fun h => (e.mp h) hg]; rfl
    | false => rw [decide_eq_true (e.mpr (by rw [hg]; exact Bool.false_ne_true))]; rfl) ((List.perm_ext_iff_of_nodup ndg (I.nd.filter _)).mpr fun k => by
    rw [gm, List.mem_filter, gone_iff]
    exact ⟨fun hk => ⟨Lk k hk.1, hk⟩, fun hk => hk.2⟩) (fun k _ => rfl)
   refine then_step rfl ?_
   simp (disch := decide) only [zd, zt, zu, zw, zX, qK, qL, Nat.reduceBEq, qM, qN]
   exact h _ qa' _ _ σ6 A6 inv.1 (Nat.le_trans wo_len h60) ((fun a o e g => k6 a o e (x5 a o g) : Kp N σ σ6))
  ·obtain ⟨k, hk, rfl⟩ := List.mem_map.mp hy
   have hk' := (rp2 k hk).1
   rw [rowP_at hk']
   show _ = some (R.ok (!decide (k ∈ K)), σ4)
   refine ok_eq ?_
   simp (disch := decide) only [ok_getTup hk' (k := 0) (Int.le_refl 0) rfl, ok_notInL g4, ok_truthb, zG, zN, zV, zX, qb, qc, qm, qo, qF, qG, qH, qI, qL, Nat.reduceBEq, qM, qN]
   show bindK _ _ _ _
   cases (!decide (k ∈ K)) <;> exact ⟨rfl, rfl⟩
  ·obtain ⟨k, hk, rfl⟩ := List.mem_map.mp hy
   have hk' := (rp2 k hk).1
   rw [rowK_at hk']
   refine ok_eq ?_
   simp (disch := decide) only [ok_getTup hk' (k := 0) (Int.le_refl 0) rfl, zV, zX, qm, qo, qH, qI, qL, Nat.reduceBEq, qM, qN]
   exact ⟨trivial, trivial⟩
 ·obtain ⟨k, hk, rfl⟩ := List.mem_map.mp hy
  have hk' := ht k hk
  rw [rowP_at hk']
  refine ok_eq ?_
  simp (disch := decide) only [ok_getTup hk' (k := 1) (by decide) rfl, ok_gt, ok_truthb, zG, zN, zV, zX, qb, qc, qm, qo, qF, qG, qH, qI, qL, Nat.reduceBEq, qM, qN]
  show bindK _ _ _ _
  cases (decide (((w k : Int) - ((ins L r (some k) : Nat) : Int)) > 0)) <;> exact ⟨rfl, rfl⟩
 ·obtain ⟨k, hk, rfl⟩ := List.mem_map.mp hy
  have hk' := ht k hk
  rw [rowK_at hk']
  refine ok_eq ?_
  simp (disch := decide) only [ok_getTup hk' (k := 0) (Int.le_refl 0) rfl, zV, zX, qm, qo, qH, qI, qL, Nat.reduceBEq, qM, qN]
  exact ⟨trivial, trivial⟩
end
end Mine.Internal.L09
set_option autoImplicit false
namespace Mine.Internal.L09
open Mine.Internal Mine.Internal.Bx
open PySem (Str PyData)
inductive Dd where
 | make (i z : Nat)
 | hold (i j : Nat)
 | drop (i : Nat)
 | put (i s j : Nat)
 | empty (i s : Nat)
 | take (i j s : Nat)
 | tidy
noncomputable abbrev s_make : Str := .ofString "make"
noncomputable abbrev s_hold : Str := .ofString "hold"
noncomputable abbrev s_drop : Str := .ofString "drop"
noncomputable abbrev s_put : Str := .ofString "put"
noncomputable abbrev s_empty : Str := .ofString "empty"
noncomputable abbrev s_take : Str := .ofString "take"
noncomputable abbrev s_tidy : Str := .ofString "tidy"
noncomputable def Dd.obj : Dd → O
 | .make i z => .tup [.str s_make, .int (i : Int), .int (z : Int)]
 | .hold i j => .tup [.str s_hold, .int (i : Int), .int (j : Int)]
 | .drop i => .tup [.str s_drop, .int (i : Int)]
 | .put i s j => .tup [.str s_put, .int (i : Int), .int (s : Int), .int (j : Int)]
 | .empty i s => .tup [.str s_empty, .int (i : Int), .int (s : Int)]
 | .take i j s => .tup [.str s_take, .int (i : Int), .int (j : Int), .int (s : Int)]
 | .tidy => .tup [.str s_tidy]
theorem q_drop_drop : PyData.eqv (.str s_drop) (.str s_drop) = true := by kernel_rfl
theorem q_drop_hold : PyData.eqv (.str s_drop) (.str s_hold) = false := by kernel_rfl
theorem q_drop_make : PyData.eqv (.str s_drop) (.str s_make) = false := by kernel_rfl
theorem q_empty_drop : PyData.eqv (.str s_empty) (.str s_drop) = false := by kernel_rfl
theorem q_empty_empty : PyData.eqv (.str s_empty) (.str s_empty) = true := by kernel_rfl
theorem q_empty_hold : PyData.eqv (.str s_empty) (.str s_hold) = false := by kernel_rfl
theorem q_empty_make : PyData.eqv (.str s_empty) (.str s_make) = false := by kernel_rfl
theorem q_empty_put : PyData.eqv (.str s_empty) (.str s_put) = false := by kernel_rfl
theorem q_hold_hold : PyData.eqv (.str s_hold) (.str s_hold) = true := by kernel_rfl
theorem q_hold_make : PyData.eqv (.str s_hold) (.str s_make) = false := by kernel_rfl
theorem q_make_make : PyData.eqv (.str s_make) (.str s_make) = true := by kernel_rfl
theorem q_put_drop : PyData.eqv (.str s_put) (.str s_drop) = false := by kernel_rfl
theorem q_put_empty : PyData.eqv (.str s_put) (.str s_empty) = false := by kernel_rfl
theorem q_put_hold : PyData.eqv (.str s_put) (.str s_hold) = false := by kernel_rfl
theorem q_put_make : PyData.eqv (.str s_put) (.str s_make) = false := by kernel_rfl
theorem q_put_put : PyData.eqv (.str s_put) (.str s_put) = true := by kernel_rfl
theorem q_take_drop : PyData.eqv (.str s_take) (.str s_drop) = false := by kernel_rfl
theorem q_take_empty : PyData.eqv (.str s_take) (.str s_empty) = false := by kernel_rfl
theorem q_take_hold : PyData.eqv (.str s_take) (.str s_hold) = false := by kernel_rfl
theorem q_take_make : PyData.eqv (.str s_take) (.str s_make) = false := by kernel_rfl
theorem q_take_put : PyData.eqv (.str s_take) (.str s_put) = false := by kernel_rfl
theorem q_take_take : PyData.eqv (.str s_take) (.str s_take) = true := by kernel_rfl
theorem q_tidy_drop : PyData.eqv (.str s_tidy) (.str s_drop) = false := by kernel_rfl
theorem q_tidy_empty : PyData.eqv (.str s_tidy) (.str s_empty) = false := by kernel_rfl
theorem q_tidy_hold : PyData.eqv (.str s_tidy) (.str s_hold) = false := by kernel_rfl
theorem q_tidy_make : PyData.eqv (.str s_tidy) (.str s_make) = false := by kernel_rfl
theorem q_tidy_put : PyData.eqv (.str s_tidy) (.str s_put) = false := by kernel_rfl
theorem q_tidy_take : PyData.eqv (.str s_tidy) (.str s_take) = false := by kernel_rfl
section
variable {P : Prog} {C : Calls} {F : Nat} {loc : Loc} {σ σ' σ₁ : H} {r : R V}
noncomputable def rS : R V → R (Option V)
 | .ok v => .ok (some v)
 | .err k => .err k
noncomputable def ToS (x : Option (R (Option V) × Loc × H)) (r : R V) (σ' : H) : Prop := ∃ l, x = some (rS r, l, σ')
theorem tos_ret {e : Ex} {ss : Sts} (h : ev P C e loc σ = some (r, σ')) : ToS (exs P C F (.cons (.ret e) ss) loc σ) r σ' := by
 refine ⟨loc, ?_⟩
 have e1 : ex P C F (.ret e) loc σ = some (rS r, loc, σ') := by
  show onX (ev P C e loc) loc _ σ = _
  unfold onX; rw [h]; cases r <;> rfl
 show (match ex P C F (.ret e) loc σ with | some (.ok none, l₁, h₁) => exs P C F ss l₁ h₁ | r => r) = _
 rw [e1]; cases r <;> rfl
theorem tos_skip {s : St} {ss : Sts} (h : OkS (ex P C F s loc σ) (fun o l σ₁ => o = none ∧ ToS (exs P C F ss l σ₁) r σ')) : ToS (exs P C F (.cons s ss) loc σ) r σ' := by
 obtain ⟨o, l, σ₁, h, rfl, l', h2⟩ := oks_iff.mp h
 refine ⟨l', ?_⟩
 show (match ex P C F s loc σ with | some (.ok none, l₁, h₁) => exs P C F ss l₁ h₁ | r => r) = _
 rw [h]; exact h2
theorem tos_ite {c : Ex} {a b ss : Sts} (ht : tst P C c loc (ev P C c loc) σ = some (.ok true, σ₁)) (h : ToS (exs P C F a loc σ₁) r σ') : ToS (exs P C F (.cons (.ite c a b) ss) loc σ) r σ' := by
 obtain ⟨l, h⟩ := h
 refine ⟨l, ?_⟩
 have e1 : ex P C F (.ite c a b) loc σ = some (rS r, l, σ') := by
  show onX (tst P C c loc (ev P C c loc)) loc _ σ = _
  unfold onX; rw [ht]; exact h
 show (match ex P C F (.ite c a b) loc σ with | some (.ok none, l₁, h₁) => exs P C F ss l₁ h₁ | r => r) = _
 rw [e1]; cases r <;> rfl
theorem run_tos {d f : Nat} {m : Bool} {args : List V} {fd : FD} (h1 : (if m then P.meths else P.funs).lookup f = some fd) (h2 : args.length = fd.params.length) (h : ToS (exs P (run P F d) F fd.body ((fd.params.zip args).foldl (fun l p => l.upd p.1 p.2) (fun _ => none)) σ) r σ') :
  run P F (d + 1) m f args σ = some (r, σ') := by
 obtain ⟨l, h⟩ := h
 unfold run
 rw [h1]
 dsimp only
 rw [if_pos h2, h]
 cases r <;> rfl
end
section
variable {C : Calls} {loc : Loc} {σ σ' : H} {r : R V} {v : Nat} {s t : Str} {a ss : Sts}
theorem tst_word {b : Bool} (h : loc v = some (.str s)) (he : PyData.eqv (.str s) (.str t) = b) : tst prog C (.cmp .Eq (.loc v) (.cstr t)) loc (ev prog C (.cmp .Eq (.loc v) (.cstr t)) loc) σ = some (.ok b, σ) := by
 subst he
 refine ok_eq ?_
 rw [zG, qb]
 simp only [zX, h, zW, qc, qF, qG, qK, qH]
 exact ⟨rfl, rfl⟩
theorem word_skip (h : loc v = some (.str s)) (he : PyData.eqv (.str s) (.str t) = false) (k : ToS (exs prog C 1000 ss loc σ) r σ') : ToS (exs prog C 1000 (.cons (.ite (.cmp .Eq (.loc v) (.cstr t)) a .nil) ss) loc σ) r σ' := by
 refine tos_skip ?_
 show OkS (onX (tst prog C (.cmp .Eq (.loc v) (.cstr t)) loc (ev prog C (.cmp .Eq (.loc v) (.cstr t)) loc)) loc _ σ) _
 unfold onX
 rw [tst_word h he]
 exact ⟨rfl, k⟩
theorem word_no {Q : Option V → Loc → H → Prop} (h : loc v = some (.str s)) (he : PyData.eqv (.str s) (.str t) = false) (k : OkS (exs prog C 1000 ss loc σ) Q) : OkS (exs prog C 1000 (.cons (.ite (.cmp .Eq (.loc v) (.cstr t)) a .nil) ss) loc σ) Q := by
 rw [za]
 show OkS (onX (tst prog C (.cmp .Eq (.loc v) (.cstr t)) loc (ev prog C (.cmp .Eq (.loc v) (.cstr t)) loc)) loc _ σ) _
 unfold onX
 rw [tst_word h he]
 exact k
theorem word_yes {Q : Option V → Loc → H → Prop} (h : loc v = some (.str s)) (he : PyData.eqv (.str s) (.str t) = true) (k : OkS (exs prog C 1000 a loc σ) (andThen prog C 1000 ss Q)) : OkS (exs prog C 1000 (.cons (.ite (.cmp .Eq (.loc v) (.cstr t)) a .nil) ss) loc σ) Q := by
 rw [za]
 show OkS (onX (tst prog C (.cmp .Eq (.loc v) (.cstr t)) loc (ev prog C (.cmp .Eq (.loc v) (.cstr t)) loc)) loc _ σ) _
 unfold onX
 rw [tst_word h he]
 exact k
end
section
variable {N : Ps} {M : Nat} {σ σ' : H} {d : Nat} {Q : V → H → Prop}
theorem Wd.at (W : Wd N M σ) : ∃ es, σ.get 1 = some (.attrs es) ∧ σ.get 2 = some (.inst 24 1) := by cases W with | mk hs ks b r w qa q m A I hm h60 => exact ⟨_, A.d, A.p⟩
theorem done_cd {D : Nat} {dd : Dd} (W : Wd N M σ) (hM : M ≤ 98) (g : σ.get D = some dd.obj) : Co N M σ (run prog 1000 (d + 6) false 118 [.ref 2, .ref D] σ) := by
 obtain ⟨es, d1, d2⟩ := W.at
 cases dd with
 | make i z =>
  obtain ⟨r, σ', e, h1, h2, h3⟩ := make_co (d := d + 1) (i := i) (z := z) W hM
  refine ⟨r, σ', run_tos (fd := f_done) rfl rfl ?_, h1, h2, h3⟩
  have g : σ.get D = some (.tup [.str s_make, .int (i : Int), .int (z : Int)]) := g
  have t1 : ∀ Q : V → H → Prop, Ok (getItem prog (.ref D) (.int 1)) σ Q = Q (.int (i : Int)) σ := fun Q => ok_getTup g (by decide) rfl
  have t2 : ∀ Q : V → H → Prop, Ok (getItem prog (.ref D) (.int 2)) σ Q = Q (.int (z : Int)) σ := fun Q => ok_getTup g (by decide) rfl
  unfold f_done
  refine tos_skip (ss := f_done_2) ?_
  simp (disch := decide) only [ok_getTup g (k := 0) (Int.le_refl 0) rfl, zg, zh, zV, zX, qm, qo, qH, qI, List.zip_cons_cons, List.zip_nil_right, List.foldl_cons, List.foldl_nil, qL, Nat.reduceBEq, qM, qN]
  refine ⟨trivial, ?_⟩
  refine tos_ite (ss := f_done_3) (tst_word rfl q_make_make) ?_
  refine tos_ret (ss := .nil) ((ev_meth (vs := [.int (i : Int), .int (z : Int)]) rfl (ok_eq ?_) d2 d1 (by decide)).trans e)
  simp (disch := decide) only [t1, t2, zV, zX, qm, qo, qB, qC, qD, qE, qF, qG, qH, qI, qJ, qL, Nat.reduceBEq, qM, qN]
  exact ⟨trivial, trivial⟩
 | hold i j =>
  obtain ⟨r, σ', e, h1, h2, h3⟩ := hold_co (d := d + 1) (i := i) (j := j) W hM
  refine ⟨r, σ', run_tos (fd := f_done) rfl rfl ?_, h1, h2, h3⟩
  have g : σ.get D = some (.tup [.str s_hold, .int (i : Int), .int (j : Int)]) := g
  have t1 : ∀ Q : V → H → Prop, Ok (getItem prog (.ref D) (.int 1)) σ Q = Q (.int (i : Int)) σ := fun Q => ok_getTup g (by decide) rfl
  have t2 : ∀ Q : V → H → Prop, Ok (getItem prog (.ref D) (.int 2)) σ Q = Q (.int (j : Int)) σ := fun Q => ok_getTup g (by decide) rfl
  unfold f_done
  refine tos_skip (ss := f_done_2) ?_
  simp (disch := decide) only [ok_getTup g (k := 0) (Int.le_refl 0) rfl, zg, zh, zV, zX, qm, qo, qH, qI, List.zip_cons_cons, List.zip_nil_right, List.foldl_cons, List.foldl_nil, qL, Nat.reduceBEq, qM, qN]
  refine ⟨trivial, ?_⟩
  refine word_skip (ss := f_done_3) rfl q_hold_make ?_
  refine tos_ite (ss := f_done_4) (tst_word rfl q_hold_hold) ?_
  refine tos_ret (ss := .nil) ((ev_meth (vs := [.int (i : Int), .int (j : Int)]) rfl (ok_eq ?_) d2 d1 (by decide)).trans e)
  simp (disch := decide) only [t1, t2, zV, zX, qm, qo, qB, qC, qD, qE, qF, qG, qH, qI, qJ, qL, Nat.reduceBEq, qM, qN]
  exact ⟨trivial, trivial⟩
 | drop i =>
  obtain ⟨r, σ', e, h1, h2, h3⟩ := drop_co (d := d + 1) (i := i) W hM
  refine ⟨r, σ', run_tos (fd := f_done) rfl rfl ?_, h1, h2, h3⟩
  have g : σ.get D = some (.tup [.str s_drop, .int (i : Int)]) := g
  have t1 : ∀ Q : V → H → Prop, Ok (getItem prog (.ref D) (.int 1)) σ Q = Q (.int (i : Int)) σ := fun Q => ok_getTup g (by decide) rfl
  unfold f_done
  refine tos_skip (ss := f_done_2) ?_
  simp (disch := decide) only [ok_getTup g (k := 0) (Int.le_refl 0) rfl, zg, zh, zV, zX, qm, qo, qH, qI, List.zip_cons_cons, List.zip_nil_right, List.foldl_cons, List.foldl_nil, qL, Nat.reduceBEq, qM, qN]
  refine ⟨trivial, ?_⟩
  refine word_skip (ss := f_done_3) rfl q_drop_make ?_
  refine word_skip (ss := f_done_4) rfl q_drop_hold ?_
  refine tos_ite (ss := f_done_5) (tst_word rfl q_drop_drop) ?_
  refine tos_ret (ss := .nil) ((ev_meth (vs := [.int (i : Int)]) rfl (ok_eq ?_) d2 d1 (by decide)).trans e)
  simp (disch := decide) only [t1, zV, zX, qm, qo, qB, qC, qD, qE, qF, qG, qH, qI, qJ, qL, Nat.reduceBEq, qM, qN]
  exact ⟨trivial, trivial⟩
 | put i s j =>
  obtain ⟨r, σ', e, h1, h2, h3⟩ := put_co (d := d + 1) (k := i) (i := s) (j := j) W hM
  refine ⟨r, σ', run_tos (fd := f_done) rfl rfl ?_, h1, h2, h3⟩
  have g : σ.get D = some (.tup [.str s_put, .int (i : Int), .int (s : Int), .int (j : Int)]) := g
  have t1 : ∀ Q : V → H → Prop, Ok (getItem prog (.ref D) (.int 1)) σ Q = Q (.int (i : Int)) σ := fun Q => ok_getTup g (by decide) rfl
  have t2 : ∀ Q : V → H → Prop, Ok (getItem prog (.ref D) (.int 2)) σ Q = Q (.int (s : Int)) σ := fun Q => ok_getTup g (by decide) rfl
  have t3 : ∀ Q : V → H → Prop, Ok (getItem prog (.ref D) (.int 3)) σ Q = Q (.int (j : Int)) σ := fun Q => ok_getTup g (by decide) rfl
  unfold f_done
  refine tos_skip (ss := f_done_2) ?_
  simp (disch := decide) only [ok_getTup g (k := 0) (Int.le_refl 0) rfl, zg, zh, zV, zX, qm, qo, qH, qI, List.zip_cons_cons, List.zip_nil_right, List.foldl_cons, List.foldl_nil, qL, Nat.reduceBEq, qM, qN]
  refine ⟨trivial, ?_⟩
  refine word_skip (ss := f_done_3) rfl q_put_make ?_
  refine word_skip (ss := f_done_4) rfl q_put_hold ?_
  refine word_skip (ss := f_done_5) rfl q_put_drop ?_
  refine tos_ite (ss := f_done_6) (tst_word rfl q_put_put) ?_
  refine tos_ret (ss := .nil) ((ev_meth (vs := [.int (i : Int), .int (s : Int), .int (j : Int)]) rfl (ok_eq ?_) d2 d1 (by decide)).trans e)
  simp (disch := decide) only [t1, t2, t3, zV, zX, qm, qo, qB, qC, qD, qE, qF, qG, qH, qI, qJ, qL, Nat.reduceBEq, qM, qN]
  exact ⟨trivial, trivial⟩
 | empty i s =>
  obtain ⟨r, σ', e, h1, h2, h3⟩ := empty_co (d := d + 1) (k := i) (i := s) W hM
  refine ⟨r, σ', run_tos (fd := f_done) rfl rfl ?_, h1, h2, h3⟩
  have g : σ.get D = some (.tup [.str s_empty, .int (i : Int), .int (s : Int)]) := g
  have t1 : ∀ Q : V → H → Prop, Ok (getItem prog (.ref D) (.int 1)) σ Q = Q (.int (i : Int)) σ := fun Q => ok_getTup g (by decide) rfl
  have t2 : ∀ Q : V → H → Prop, Ok (getItem prog (.ref D) (.int 2)) σ Q = Q (.int (s : Int)) σ := fun Q => ok_getTup g (by decide) rfl
  unfold f_done
  refine tos_skip (ss := f_done_2) ?_
  simp (disch := decide) only [ok_getTup g (k := 0) (Int.le_refl 0) rfl, zg, zh, zV, zX, qm, qo, qH, qI, List.zip_cons_cons, List.zip_nil_right, List.foldl_cons, List.foldl_nil, qL, Nat.reduceBEq, qM, qN]
  refine ⟨trivial, ?_⟩
  refine word_skip (ss := f_done_3) rfl q_empty_make ?_
  refine word_skip (ss := f_done_4) rfl q_empty_hold ?_
  refine word_skip (ss := f_done_5) rfl q_empty_drop ?_
  refine word_skip (ss := f_done_6) rfl q_empty_put ?_
  refine tos_ite (ss := f_done_7) (tst_word rfl q_empty_empty) ?_
  refine tos_ret (ss := .nil) ((ev_meth (vs := [.int (i : Int), .int (s : Int)]) rfl (ok_eq ?_) d2 d1 (by decide)).trans e)
  simp (disch := decide) only [t1, t2, zV, zX, qm, qo, qB, qC, qD, qE, qF, qG, qH, qI, qJ, qL, Nat.reduceBEq, qM, qN]
  exact ⟨trivial, trivial⟩
 | take i j s =>
  obtain ⟨r, σ', e, h1, h2, h3⟩ := take_co (d := d + 1) (k := i) (i := s) (j := j) W hM
  refine ⟨r, σ', run_tos (fd := f_done) rfl rfl ?_, h1, h2, h3⟩
  have g : σ.get D = some (.tup [.str s_take, .int (i : Int), .int (j : Int), .int (s : Int)]) := g
  have t1 : ∀ Q : V → H → Prop, Ok (getItem prog (.ref D) (.int 1)) σ Q = Q (.int (i : Int)) σ := fun Q => ok_getTup g (by decide) rfl
  have t2 : ∀ Q : V → H → Prop, Ok (getItem prog (.ref D) (.int 2)) σ Q = Q (.int (j : Int)) σ := fun Q => ok_getTup g (by decide) rfl
  have t3 : ∀ Q : V → H → Prop, Ok (getItem prog (.ref D) (.int 3)) σ Q = Q (.int (s : Int)) σ := fun Q => ok_getTup g (by decide) rfl
  unfold f_done
  refine tos_skip (ss := f_done_2) ?_
  simp (disch := decide) only [ok_getTup g (k := 0) (Int.le_refl 0) rfl, zg, zh, zV, zX, qm, qo, qH, qI, List.zip_cons_cons, List.zip_nil_right, List.foldl_cons, List.foldl_nil, qL, Nat.reduceBEq, qM, qN]
  refine ⟨trivial, ?_⟩
  refine word_skip (ss := f_done_3) rfl q_take_make ?_
  refine word_skip (ss := f_done_4) rfl q_take_hold ?_
  refine word_skip (ss := f_done_5) rfl q_take_drop ?_
  refine word_skip (ss := f_done_6) rfl q_take_put ?_
  refine word_skip (ss := f_done_7) rfl q_take_empty ?_
  refine tos_ite (ss := f_done_8) (tst_word rfl q_take_take) ?_
  refine tos_ret (ss := .nil) ((ev_meth (vs := [.int (i : Int), .int (j : Int), .int (s : Int)]) rfl (ok_eq ?_) d2 d1 (by decide)).trans e)
  simp (disch := decide) only [t1, t2, t3, zV, zX, qm, qo, qB, qC, qD, qE, qF, qG, qH, qI, qJ, qL, Nat.reduceBEq, qM, qN]
  exact ⟨trivial, trivial⟩
 | tidy =>
  cases W with
  | mk hs ks b r w qa q m A I hm h60 =>
   obtain ⟨v, σ', e, W2, k2⟩ := ok_iff.mp (tidy_ok (d := d) A I (by lia) h60 (Q := fun v σ' => Wd N (M + 1) σ' ∧ Kp N σ σ') fun v qa' ks' w' σ' A' I' h60' k' => ⟨.mk hs ks' b r w' qa' [] m A' I' (by lia) h60', k'⟩)
   refine ⟨.ok v, σ', run_tos (fd := f_done) rfl rfl ?_, W2, k2, fun k e => (nomatch e)⟩
   have g : σ.get D = some (.tup [.str s_tidy]) := g
   unfold f_done
   refine tos_skip (ss := f_done_2) ?_
   simp (disch := decide) only [ok_getTup g (k := 0) (Int.le_refl 0) rfl, zg, zh, zV, zX, qm, qo, qH, qI, List.zip_cons_cons, List.zip_nil_right, List.foldl_cons, List.foldl_nil, qL, Nat.reduceBEq, qM, qN]
   refine ⟨trivial, ?_⟩
   refine word_skip (ss := f_done_3) rfl q_tidy_make ?_
   refine word_skip (ss := f_done_4) rfl q_tidy_hold ?_
   refine word_skip (ss := f_done_5) rfl q_tidy_drop ?_
   refine word_skip (ss := f_done_6) rfl q_tidy_put ?_
   refine word_skip (ss := f_done_7) rfl q_tidy_empty ?_
   refine word_skip (ss := f_done_8) rfl q_tidy_take ?_
   refine tos_ret (ss := .nil) ?_
   exact e
theorem law_done_ok {D : Nat} {dd : Dd} (W : Wd N M σ) (hM : M ≤ 98) (g : σ.get D = some dd.obj) (h : ∀ v σ', Wd N (M + 1) σ' → Kp N σ σ' → Q v σ') : Ok (run prog 1000 (d + 7) false 86 [.ref 2, .ref D]) σ Q := by
 rw [ok_run (fd := f__law_done) rfl rfl]
 obtain ⟨r, σ', e, h1, h3, h4⟩ := done_cd (d := d) W hM g
 unfold f__law_done
 refine oks_step rfl ?_
 have e1 : ToS (exs prog (run prog 1000 (d + 6)) 1000 f__law_done_1t_1 (([75, 87].zip [V.ref 2, .ref D]).foldl (fun l p => Loc.upd l p.1 p.2) (fun _ => none)) σ) r σ' := tos_ret (ss := .nil) e
 cases r with
 | ok v =>
  refine s_try_ok ?_
  obtain ⟨l, e1⟩ := e1
  refine oks_iff.mpr ⟨_, l, σ', e1, ?_⟩
  exact h v σ' h1 h3
 | err k =>
  refine s_try_err (k := k) (v := .none) ?_ ?_ fun l => h .none σ' h1 h3
  ·obtain ⟨l, e1⟩ := e1; exact ⟨l, e1⟩
  ·show (if k = 16 ∨ 16 = prog.xb then kstV .cnone else _) = _
   rw [if_pos (.inr rfl)]; rfl
end
end Mine.Internal.L09
set_option autoImplicit false
namespace Mine.Internal.L09
open Mine.Internal Mine.Internal.Bx
open PySem (Str PyData)
inductive Wo where | make | hold | drop | put | empty | take | tidy
noncomputable def Wo.str : Wo → Str
 | .make => s_make
 | .hold => s_hold
 | .drop => s_drop
 | .put => s_put
 | .empty => s_empty
 | .take => s_take
 | .tidy => s_tidy
noncomputable def wl : List V := [.str s_make, .str s_put, .str s_take, .str s_hold, .str s_drop, .str s_put, .str s_make, .str s_empty, .str s_take, .str s_tidy, .str s_put]
noncomputable def wos : List Wo := [.make, .put, .take, .hold, .drop, .put, .make, .empty, .take, .tidy, .put]
theorem wl_at {a : Nat} (h : a < 11) : ∃ k : Wo, wl[((a : Int)).toNat]? = some (.str k.str) := by
 have e : wl = wos.map fun k => V.str k.str := rfl
 rw [Int.toNat_natCast, e, List.getElem?_map, List.getElem?_eq_getElem (show a < wos.length from h)]
 exact ⟨_, rfl⟩
theorem two_at : ∀ {a : Nat}, a < 2 → ∃ k : Nat, 0 < k ∧ [V.int 3, V.int 8][((a : Int)).toNat]? = some (.int (k : Int))
 | 0, _ => ⟨3, by decide, rfl⟩
 | 1, _ => ⟨8, by decide, rfl⟩
section
variable {σ σ' : H} {d : Nat} {Q : V → H → Prop}
theorem deed_ok {c1 c2 : Int} {few : Nat} (hf : 0 < few) (hf2 : few ≤ 9) (h : ∀ D dd σ', Ext σ σ' → σ'.get D = some (Dd.obj dd) → Q (.ref D) σ') : Ok (run prog 1000 (d + 1) false 130 [.int c1, .int c2, .int (few : Int)]) σ Q := by
 rw [ok_run (fd := f__law_deed_by) rfl rfl]
 unfold f__law_deed_by
 have fz : (few : Int) ≠ 0 := by lia
 have fs : small (few : Int) = true := by unfold small; rw [decide_eq_true_iff]; show few < _; exact Nat.lt_of_le_of_lt hf2 (by decide)
 obtain ⟨a, ha, ha2⟩ := fmod_nat (a := c1) (b := 11) (by decide)
 obtain ⟨i, hi, _⟩ := fmod_nat (a := Int.fdiv c1 11) (b := (few : Int)) (by lia)
 obtain ⟨j, hj, _⟩ := fmod_nat (a := c2) (b := (few : Int)) (by lia)
 obtain ⟨z, hz, _⟩ := fmod_nat (a := Int.fdiv c2 (few : Int)) (b := 8) (by decide)
 obtain ⟨e, he, he2⟩ := fmod_nat (a := Int.fdiv (Int.fdiv c1 11) (few : Int)) (b := 2) (by decide)
 obtain ⟨t, ht, ht2⟩ := two_at (a := e) (by lia)
 obtain ⟨s, hs, _⟩ := fmod_nat (a := (z : Int)) (b := (t : Int)) (by lia)
 obtain ⟨k, hk⟩ := wl_at (a := a) (by lia)
 have tz : (t : Int) ≠ 0 := by lia
 have okw : okO (.list wl) = true := rfl
 have okt : okO (.list [V.int 3, V.int 8]) = true := rfl
 refine oks_step rfl ?_
 simp (disch := decide) only [zg, zW, qf, qg, qB, qC, qD, qE, qH, List.zip_cons_cons, List.zip_nil_right, List.foldl_cons, List.foldl_nil]
 change Ok (alloc (.list wl)) σ _
 rw [ok_alloc okw]
 simp (disch := decide) only [zh]
 have g1 : (σ.push (.list wl)).get σ.length = some (.list wl) := get_push_eq
 have x1 : Ext σ (σ.push (.list wl)) := (Ext.refl _).push _
 generalize σ.push (.list wl) = σ1 at *
 refine then_step rfl ?_
 simp (disch := decide) only [ok_mod (b := 11) (by decide), ha, ok_getList g1 (Int.natCast_nonneg _) hk, zg, zh, zV, zX, zY, zZ, qm, qo, qF, qG, qH, qI, qL, Nat.reduceBEq, qM, qN]
 refine then_step rfl ?_
 simp (disch := decide) only [ok_div (b := 11) (by decide) (by decide), ok_mod fz, hi, zg, zh, zV, zX, zY, zZ, qF, qG, qH, qI, qL, Nat.reduceBEq, qM, qN]
 refine then_step rfl ?_
 simp (disch := decide) only [ok_mod fz, hj, zg, zh, zX, zY, zZ, qI, qL, Nat.reduceBEq, qM, qN]
 refine then_step rfl ?_
 simp (disch := decide) only [ok_div fz fs, ok_mod (b := 8) (by decide), hz, zg, zh, zV, zX, zY, zZ, qF, qG, qH, qI, qL, Nat.reduceBEq, qM, qN]
 refine then_step rfl ?_
 simp (disch := decide) only [ok_alloc okt, ok_div (b := 11) (by decide) (by decide), ok_div fz fs, ok_mod (b := 2) (by decide), he, ok_getList (get_push_eq (σ := σ1) (o := .list [V.int 3, V.int 8])) (Int.natCast_nonneg _) ht2, ok_mod tz, hs, zg, zh, zV, zX, zY, zZ, qf, qg, qm, qo, qB, qC, qD, qE, qF, qG, qH, qI, qL, Nat.reduceBEq, qM, qN]
 have x2 := x1.push (.list [V.int 3, V.int 8])
 generalize σ1.push (.list [V.int 3, V.int 8]) = σ2 at *
 clear ha hi hj hz he hs hk g1
 cases k with
 | make =>
  have okd : okO (.tup [.str s_make, .int (i : Int), .int (z : Int)]) = true := rfl
  refine word_yes (ss := f__law_deed_by_8) rfl q_make_make ?_
  refine oks_step rfl ?_
  simp (disch := decide) only [zt, zX, qh, qi, qB, qC, qD, qE, qH, qI, qL, Nat.reduceBEq, qM, qN]
  exact h _ (.make i z) _ (x2.push _) get_push_eq
 | hold =>
  have okd : okO (.tup [.str s_hold, .int (i : Int), .int (j : Int)]) = true := rfl
  refine word_no (ss := f__law_deed_by_8) rfl q_hold_make ?_
  refine word_yes (ss := f__law_deed_by_9) rfl q_hold_hold ?_
  refine oks_step rfl ?_
  simp (disch := decide) only [zt, zX, qh, qi, qB, qC, qD, qE, qH, qI, qL, Nat.reduceBEq, qM, qN]
  exact h _ (.hold i j) _ (x2.push _) get_push_eq
 | drop =>
  have okd : okO (.tup [.str s_drop, .int (i : Int)]) = true := rfl
  refine word_no (ss := f__law_deed_by_8) rfl q_drop_make ?_
  refine word_no (ss := f__law_deed_by_9) rfl q_drop_hold ?_
  refine word_yes (ss := f__law_deed_by_10) rfl q_drop_drop ?_
  refine oks_step rfl ?_
  simp (disch := decide) only [zt, zX, qh, qi, qB, qC, qD, qE, qH, qI, qL, Nat.reduceBEq, qM, qN]
  exact h _ (.drop i) _ (x2.push _) get_push_eq
 | put =>
  have okd : okO (.tup [.str s_put, .int (i : Int), .int (s : Int), .int (j : Int)]) = true := rfl
  refine word_no (ss := f__law_deed_by_8) rfl q_put_make ?_
  refine word_no (ss := f__law_deed_by_9) rfl q_put_hold ?_
  refine word_no (ss := f__law_deed_by_10) rfl q_put_drop ?_
  refine word_no (ss := f__law_deed_by_11) rfl q_put_empty ?_
  refine word_yes (ss := f__law_deed_by_12) rfl q_put_put ?_
  refine oks_step rfl ?_
  simp (disch := decide) only [zt, zX, qh, qi, qB, qC, qD, qE, qH, qI, qL, Nat.reduceBEq, qM, qN]
  exact h _ (.put i s j) _ (x2.push _) get_push_eq
 | empty =>
  have okd : okO (.tup [.str s_empty, .int (i : Int), .int (s : Int)]) = true := rfl
  refine word_no (ss := f__law_deed_by_8) rfl q_empty_make ?_
  refine word_no (ss := f__law_deed_by_9) rfl q_empty_hold ?_
  refine word_no (ss := f__law_deed_by_10) rfl q_empty_drop ?_
  refine word_yes (ss := f__law_deed_by_11) rfl q_empty_empty ?_
  refine oks_step rfl ?_
  simp (disch := decide) only [zt, zX, qh, qi, qB, qC, qD, qE, qH, qI, qL, Nat.reduceBEq, qM, qN]
  exact h _ (.empty i s) _ (x2.push _) get_push_eq
 | take =>
  have okd : okO (.tup [.str s_take, .int (i : Int), .int (j : Int), .int (s : Int)]) = true := rfl
  refine word_no (ss := f__law_deed_by_8) rfl q_take_make ?_
  refine word_no (ss := f__law_deed_by_9) rfl q_take_hold ?_
  refine word_no (ss := f__law_deed_by_10) rfl q_take_drop ?_
  refine word_no (ss := f__law_deed_by_11) rfl q_take_empty ?_
  refine word_no (ss := f__law_deed_by_12) rfl q_take_put ?_
  refine word_yes (ss := f__law_deed_by_13) rfl q_take_take ?_
  refine oks_step rfl ?_
  simp (disch := decide) only [zt, zX, qh, qi, qB, qC, qD, qE, qH, qI, qL, Nat.reduceBEq, qM, qN]
  exact h _ (.take i j s) _ (x2.push _) get_push_eq
 | tidy =>
  have okd : okO (.tup [.str s_tidy]) = true := rfl
  refine word_no (ss := f__law_deed_by_8) rfl q_tidy_make ?_
  refine word_no (ss := f__law_deed_by_9) rfl q_tidy_hold ?_
  refine word_no (ss := f__law_deed_by_10) rfl q_tidy_drop ?_
  refine word_no (ss := f__law_deed_by_11) rfl q_tidy_empty ?_
  refine word_no (ss := f__law_deed_by_12) rfl q_tidy_put ?_
  refine word_no (ss := f__law_deed_by_13) rfl q_tidy_take ?_
  refine oks_step rfl ?_
  simp (disch := decide) only [zt, zX, qh, qi, qB, qC, qD, qE, qH, qI, qL, Nat.reduceBEq, qM, qN]
  exact h _ (.tidy) _ (x2.push _) get_push_eq
end
end Mine.Internal.L09
set_option autoImplicit false
namespace Mine.Internal.L09
open Mine.Internal Mine.Internal.Bx
open PySem (Str PyData)
noncomputable def meet (a : List Nat) : Option Nat → List Nat
 | none => a
 | some k => addN a k
noncomputable def mt (a : List Nat) (l : List (Option Nat)) : List Nat := l.foldl meet a
theorem meet_mem {a : List Nat} {x : Option Nat} {k : Nat} : k ∈ meet a x ↔ k ∈ a ∨ x = some k := by
 cases x with
 | none => exact ⟨.inl, fun h => h.resolve_right (by simp)⟩
 | some j => exact addN_mem.trans (or_congr_right ⟨fun h => by rw [h], fun h => (Option.some.inj h).symm⟩)
theorem mt_mem {k : Nat} : ∀ {l : List (Option Nat)} {a : List Nat}, k ∈ mt a l ↔ k ∈ a ∨ some k ∈ l
 | [], a => by simp [mt]
 | x :: l, a => by
  show k ∈ mt (meet a x) l ↔ _
  rw [mt_mem, meet_mem, List.mem_cons, or_assoc]
  exact or_congr_right (or_congr_left ⟨fun h => h.symm, fun h => h.symm⟩)
theorem meet_nd {a : List Nat} {x : Option Nat} (h : a.Nodup) : (meet a x).Nodup := by
 cases x with
 | none => exact h
 | some k => exact addN_nd h
theorem meet_pre {a : List Nat} {x : Option Nat} : a <+: meet a x := by
 cases x with
 | none => exact List.prefix_rfl
 | some k =>
  show a <+: addN a k
  unfold addN
  split
  ·exact List.prefix_rfl
  ·exact List.prefix_append _ _
theorem mt_pre : ∀ {l : List (Option Nat)} {a : List Nat}, a <+: mt a l
 | [], a => List.prefix_rfl
 | x :: l, a => meet_pre.trans (mt_pre (l := l) (a := meet a x))
theorem mt_nd : ∀ {l : List (Option Nat)} {a : List Nat}, a.Nodup → (mt a l).Nodup
 | [], a, h => h
 | x :: l, a, h => mt_nd (l := l) (meet_nd h)
noncomputable def meetS (v : Nat) : Sts := .cons (.ite (.band (.cons (.cmp .IsNot (.loc v) .cnone) (.cons (.cmp .NotIn (.loc v) (.loc 166)) .nil))) (.cons (.asg (.sub (.loc 166) (.loc v)) (.cbool true)) (.cons (.expr (.meth (.loc 165) 6 (.cons (.loc v) .nil))) .nil)) .nil) .nil
section
variable {N : Ps} {σ σ' : H} {hs : List (Option Nat)} {ks : List Nat} {b : Nat → Nat} {r : Nat → List (Option Nat)} {w : Nat → Nat} {qa : Nat} {q : List Nat} {m : Nat} {d : Nat} {Q : V → H → Prop}
theorem meet_ok {C : Calls} {v ra ma : Nat} {x : Option Nat} {a : List Nat} {loc : Loc} {Q : Option V → Loc → H → Prop} (hv : loc v = some (ov x)) (h165 : loc 165 = some (.ref ra)) (h166 : loc 166 = some (.ref ma)) (gr : σ.get ra = some (.list (nV a))) (gm : σ.get ma = some (.dict (mD tF a))) (nd : a.Nodup) (hl : a.length ≤ 900) (hr7 : 7 < ra) (hm7 : 7 < ma) (hne : ra ≠ ma)
  (h : ∀ σ', Kx ra ma σ σ' → σ'.length = σ.length → σ'.get ra = some (.list (nV (meet a x))) → σ'.get ma = some (.dict (mD tF (meet a x))) → Q none loc σ') : OkS (exs prog C 1000 (meetS v) loc σ) Q := by
 unfold meetS
 cases x with
 | none =>
  simp (disch := decide) only [hv, ov, ok_isNot, ok_truthb, za, zb, zc, zq, zs, zB, zG, zN, zP, zT, zX, z9, qb, qc, qF, qG, qH, qI, qJ, ne_eq, not_true_eq_false, decide_false]
  exact h σ (Kx.refl _ _ _) rfl gr gm
 | some k =>
  by_cases hk : k ∈ a
  ·have e : meet a (some k) = a := if_pos hk
   simp (disch := decide) only [hv, h166, ov, ok_isNot, ok_truthb, ok_notInD gm (k := .int (k : Int)) rfl, mD_get hk, Option.isSome_some, za, zb, zc, zq, zs, zB, zG, zN, zO, zP, zT, zX, z9, qb, qc, qF, qG, qH, qI, qJ, reduceCtorEq, ne_eq, not_false_eq_true, decide_true, Bool.not_true]
   exact h σ (Kx.refl _ _ _) rfl (by rw [e]; exact gr) (by rw [e]; exact gm)
  ·have e : meet a (some k) = a ++ [k] := if_neg hk
   rw [e] at h
   have hd : dset (mD tF a) (.int (k : Int)) (.bool true) = mD tF (a ++ [k]) := by
    rw [tD_set nd]; unfold addN; rw [if_neg hk]
   have gr1 : (σ.put ma (.dict (mD tF (a ++ [k])))).get ra = some (.list (nV a)) := (get_put_ne hne.symm).trans gr
   simp (disch := decide) only [hv, h165, h166, ov, ok_isNot, ok_truthb, ok_notInD gm (k := .int (k : Int)) rfl, mD_miss hk, Option.isSome_none, ok_setDict gm (nf_of hm7) (show isKey (.int (k : Int)) = true from rfl) (by rw [hd, mD_len, List.length_append]; exact le_lim (show a.length + 1 ≤ 1000 by lia)), hd, mx_list gr1 (.inl rfl), ok_append gr1 (nf_of hr7) (le_lim (by rw [List.length_append, nV_len]; show a.length + 1 ≤ 1000; lia)), nV_app, za, zb, zc, ze, zf, zl, zm, zn, zo, zq, zr, zB, zG, zM, zN, zO, zT, zU, zX, z9, qb, qc, qt, qB, qC, qD, qE, qF, qG, qH, qI, qJ, qK, reduceCtorEq, ne_eq, not_false_eq_true, decide_true, Bool.not_false]
   exact h _ (((Kx.refl ra ma σ).puty _).putx _) (by rw [len_put, len_put]) (put_self gr1) ((get_put_ne hne).trans (put_self gm))
theorem meets_ok {C : Calls} {v ra ma xa : Nat} {xs : List (Option Nat)} {a : List Nat} {lc : Loc} {h₀ : H} {Q : Option V → Loc → H → Prop} (hv1 : 165 ≠ v) (hv2 : 166 ≠ v) (h165 : lc 165 = some (.ref ra)) (h166 : lc 166 = some (.ref ma)) (gx : h₀.get xa = some (.list (xs.map ov))) (gx' : σ.get xa = some (.list (xs.map ov))) (hx1 : xa ≠ ra) (hx2 : xa ≠ ma) (gr : σ.get ra = some (.list (nV a))) (gm : σ.get ma = some (.dict (mD tF a))) (nd : a.Nodup) (hsub : ∀ k, k ∈ a → k ∈ ks) (hxs : ∀ k, some k ∈ xs → k ∈ ks) (hk : ks.length ≤ 900) (hr7 : 7 < ra) (hm7 : 7 < ma) (hne : ra ≠ ma)
  (h : ∀ l' σ', (∀ j, j ≠ v → l' j = lc j) → Kx ra ma σ σ' → σ'.length = σ.length → σ'.get ra = some (.list (nV (mt a xs))) → σ'.get ma = some (.dict (mD tF (mt a xs))) → Q none l' σ') : OkF prog C 1000 (.ref xa) [v] false (meetS v) h₀ (xs.map ov) lc σ Q := by
 refine f_inv (fun i l s => (∀ j, j ≠ v → l j = lc j) ∧ Kx ra ma σ s ∧ s.length = σ.length ∧ s.get ra = some (.list (nV (mt a (xs.take i)))) ∧ s.get ma = some (.dict (mD tF (mt a (xs.take i))))) ⟨fun _ _ => rfl, Kx.refl _ _ _, rfl, gr, gm⟩ ?_ ?_
 ·rintro i l s y hy ⟨h1, h2, h3, h4, h5⟩
  obtain ⟨hi, hy⟩ := List.getElem?_eq_some_iff.mp hy
  rw [List.length_map] at hi
  rw [List.getElem_map] at hy
  subst hy
  have ht : mt a (xs.take (i + 1)) = meet (mt a (xs.take i)) xs[i] := by
   rw [take_one hi]; unfold mt; rw [List.foldl_append]; rfl
  have hl : (mt a (xs.take i)).length ≤ 900 := Nat.le_trans (nd_len (mt_nd nd) fun k hk => by
   rcases mt_mem.mp hk with h | h
   ·exact hsub k h
   ·exact hxs k (List.mem_of_mem_take h)) hk
  refine meet_ok (ra := ra) (ma := ma) (x := xs[i]) upd_at ((upd_no hv1).trans ((h1 _ hv1).trans h165)) ((upd_no hv2).trans ((h1 _ hv2).trans h166)) h4 h5 (mt_nd nd) hl hr7 hm7 hne fun s' k1 k2 k3 k4 => ?_
  refine ⟨rfl, still_get ?_, fun j hj => (upd_no hj).trans (h1 j hj), fun c o e1 e2 g => k1 c o e1 e2 (h2 c o e1 e2 g), k2.trans h3, by rw [ht]; exact k3, by rw [ht]; exact k4⟩
  rw [gx]; exact k1 _ _ hx1 hx2 (h2 _ _ hx1 hx2 gx')
 ·rintro l s ⟨h1, h2, h3, h4, h5⟩
  rw [List.length_map, List.take_length] at h4 h5
  exact h l s h1 h2 h3 h4 h5
theorem clos_ok {xa : Nat} {xs : List (Option Nat)} (A : Pl N σ hs ks b r ks w qa q m) (I : G hs ks r w q m []) (hm : m ≤ 99) (gx : σ.get xa = some (.list (xs.map ov))) (hxs : ∀ k, some k ∈ xs → k ∈ ks)
  (h : ∀ rl ma σ', Ext σ σ' → σ.length ≤ ma → rl.Nodup → (∀ k, k ∈ rl ↔ Rch ks r (fun k => some k ∈ xs) k) → σ'.get ma = some (.dict (mD tF rl)) → Q (.ref ma) σ') : Ok (run prog 1000 (d + 3) false 164 [.ref 2, .ref xa]) σ Q := by
 rw [ok_run (fd := f__law_closure) rfl rfl]
 unfold f__law_closure
 have kl := klen_of I
 have n7 := A.n7
 have big := A.big
 have xl := get_lt gx
 refine oks_step rfl ?_
 simp (disch := decide) only [ok_alloc (o := .list []) rfl, zg, zh, qf, qg, qB, qH, List.zip_cons_cons, List.zip_nil_right, List.foldl_cons, List.foldl_nil]
 refine then_step rfl ?_
 simp (disch := decide) only [ok_alloc (o := .dict []) rfl, zg, zh, qj]
 have n1 : (σ.push (.list [])).length = σ.length + 1 := len_push
 have x1 : Ext σ ((σ.push (.list [])).push (.dict [])) := ((Ext.refl _).push _).push _
 have gr : ((σ.push (.list [])).push (.dict [])).get σ.length = some (.list (nV [])) := get_keep get_push_eq
 have gm : ((σ.push (.list [])).push (.dict [])).get (σ.length + 1) = some (.dict (mD tF [])) := by rw [← n1]; exact get_push_eq
 rw [n1]
 generalize (σ.push (.list [])).push (.dict []) = τ at *
 generalize hra : σ.length = ra at *
 refine then_step rfl ?_
 rw [s_for]
 simp (disch := decide) only [zy, zX, qK, qL, Nat.reduceBEq, qM, qN]
 refine ⟨_, it_list (x1 _ _ gx), ?_⟩
 change OkF prog _ 1000 (.ref xa) [78] false (meetS 78) τ (xs.map ov) _ τ _
 refine meets_ok (ks := ks) (ra := ra) (ma := ra + 1) (by decide) (by decide) rfl rfl (x1 _ _ gx) (x1 _ _ gx) (by lia) (by lia) gr gm List.nodup_nil (fun k h => (nomatch h)) hxs (by lia) (by lia) (by lia) (by lia) fun l σ1 hl k1 len1 gr1 gm1 => ?_
 refine then_step rfl ?_
 simp (disch := decide) only [zg, zh, zV, qJ]
 refine then_step rfl ?_
 rw [s_whl]
 have e75 : l 75 = some (.ref 2) := hl 75 (by decide)
 have e165 : l 165 = some (.ref ra) := hl 165 (by decide)
 have e166 : l 166 = some (.ref (ra + 1)) := hl 166 (by decide)
 have hle : σ.length ≤ σ1.length := by rw [len1]; exact ext_len x1
 refine w_inv (fun n l s => l 75 = some (.ref 2) ∧ l 165 = some (.ref ra) ∧ l 166 = some (.ref (ra + 1)) ∧ Kx ra (ra + 1) τ s ∧ τ.length ≤ s.length ∧ ∃ rl i, l 167 = some (.int ((i : Nat) : Int)) ∧ s.get ra = some (.list (nV rl)) ∧ s.get (ra + 1) = some (.dict (mD tF rl)) ∧ rl.Nodup ∧ (∀ k, k ∈ rl → Rch ks r (fun k => some k ∈ xs) k) ∧ (∀ k, some k ∈ xs → k ∈ rl) ∧ (∀ (c k : Nat) (hc : c < rl.length), c < i → some k ∈ r rl[c] → k ∈ rl) ∧ i ≤ rl.length ∧ ks.length - i = n) ?_ 1000 ks.length _ σ1 (by lia)
  ⟨e75, e165, e166, k1, by rw [len1]; exact Nat.le_refl _, mt [] xs, 0, rfl, gr1, gm1, mt_nd List.nodup_nil, fun k hk => .src ((mt_mem.mp hk).resolve_left (fun h => (nomatch h))) (hxs k ((mt_mem.mp hk).resolve_left (fun h => (nomatch h)))), fun k hk => mt_mem.mpr (.inr hk), fun c k hc h0 => absurd h0 (Nat.not_lt_zero _), Nat.zero_le _, rfl⟩
 rintro n l s ⟨m75, m165, m166, kx, len, rl, i, m167, g1, g2, nd, sub, st, cl, hi, hn⟩
 have rk : rl.length ≤ ks.length := nd_len nd fun k hk => (sub k hk).mem
 have kσ : ∀ c o, σ.get c = some o → s.get c = some o := fun c o g => kx c o (by have := get_lt g; lia) (by have := get_lt g; lia) (x1 c o g)
 simp (disch := decide) only [m165, m167, ok_lenL g1, nV_len, ok_lt, ok_truthb, zc, zG, zX, qb, qc, qw, qB, qC, qD, qE, qF, qG, qH, qI]
 by_cases hlt : i < rl.length
 ·have hlt' : (i : Int) < ((rl.length : Nat) : Int) := by lia
  rw [decide_eq_true hlt']
  show OkS (exs prog (run prog 1000 (d + 2)) 1000 f__law_closure_5w_1 l s) _
  have As := A.ex kσ
  have hx : rl[i] ∈ ks := (sub _ (List.getElem_mem hlt)).mem
  have i0 : (nV rl)[((i : Int)).toNat]? = some (.int ((rl[i] : Nat) : Int)) := by unfold nV; simp [hlt]
  refine oks_step rfl ?_
  simp (disch := decide) only [m75, m165, m167, mx_inst As.p As.d, ok_getList g1 (Int.natCast_nonneg _) i0, zg, zX, qm, qo, qt, qu, qB, qC, qD, qE, qF, qG, qH, qI, qJ]
  refine points_ok As hx (I.rl _ hx) ?_
  have g1' := get_keep (x := .list ((r rl[i]).map ov)) g1
  have g2' := get_keep (x := .list ((r rl[i]).map ov)) g2
  have gp : (s.push (.list ((r rl[i]).map ov))).get s.length = some (.list ((r rl[i]).map ov)) := get_push_eq
  have kx' : Kx ra (ra + 1) τ (s.push (.list ((r rl[i]).map ov))) := kx.ext ((Ext.refl _).push _)
  have len' : τ.length ≤ (s.push (.list ((r rl[i]).map ov))).length := by rw [len_push]; exact Nat.le_succ_of_le len
  have tl := get_lt gm
  generalize s.push (.list ((r rl[i]).map ov)) = s1 at *
  simp (disch := decide) only [zh]
  refine then_step rfl ?_
  have e1 : (i : Int) + 1 = ((i + 1 : Nat) : Int) := rfl
  simp (disch := decide) only [m167, ok_add, e1, zg, zh, zV, zX, zY, zZ, qH, qI, qL, Nat.reduceBEq, qN]
  refine then_step rfl ?_
  rw [s_for]
  simp (disch := decide) only [zy, zX, qK, qL, Nat.reduceBEq, qM, qN]
  refine ⟨_, it_list gp, ?_⟩
  change OkF prog _ 1000 (.ref s.length) [92] false (meetS 92) s1 ((r rl[i]).map ov) _ s1 _
  refine meets_ok (ks := ks) (ra := ra) (ma := ra + 1) (by decide) (by decide) m165 m166 gp gp (by lia) (by lia) g1' g2' nd (fun k hk => (sub k hk).mem) (fun k hk => I.inR hx hk) (by lia) (by lia) (by lia) (by lia) fun l' s2 hl2 k2 len2 gr2 gm2 => ?_
  have p75 : l' 75 = some (.ref 2) := (hl2 75 (by decide)).trans m75
  have p165 : l' 165 = some (.ref ra) := (hl2 165 (by decide)).trans m165
  have p166 : l' 166 = some (.ref (ra + 1)) := (hl2 166 (by decide)).trans m166
  have p167 : l' 167 = some (.int ((i + 1 : Nat) : Int)) := hl2 167 (by decide)
  have pre : rl <+: mt rl (r rl[i]) := mt_pre
  have sub2 : ∀ k, k ∈ mt rl (r rl[i]) → Rch ks r (fun k => some k ∈ xs) k := fun k hk => by
   rcases mt_mem.mp hk with h | h
   ·exact sub k h
   ·exact .step (sub _ (List.getElem_mem hlt)) h (I.inR hx h)
  refine ⟨rfl, ks.length - (i + 1), by lia, p75, p165, p166, fun c o e1 e2 g => k2 c o e1 e2 (kx' c o e1 e2 g), by rw [len2]; exact len', mt rl (r rl[i]), i + 1, p167, gr2, gm2, mt_nd nd, sub2, fun k hk => mt_mem.mpr (.inl (st k hk)), fun c k hc hci hk => ?_, Nat.le_trans hlt pre.length_le, rfl⟩
  have hc' : c < rl.length := by lia
  have eq : (mt rl (r rl[i]))[c] = rl[c] := by
   obtain ⟨t, ht⟩ := pre
   have : (mt rl (r rl[i]))[c]? = rl[c]? := by rw [← ht, List.getElem?_append_left hc']
   rw [List.getElem?_eq_getElem hc, List.getElem?_eq_getElem hc'] at this
   exact Option.some.inj this
  rw [eq] at hk
  by_cases e : c = i
  ·subst e; exact mt_mem.mpr (.inr hk)
  ·exact mt_mem.mpr (.inl (cl c k hc' (by lia) hk))
 ·have hlt' : ¬ ((i : Int) < ((rl.length : Nat) : Int)) := by lia
  rw [decide_eq_false hlt']
  show andThen prog (run prog 1000 (d + 2)) 1000 f__law_closure_6 (runK Q) none l s
  refine then_step rfl ?_
  simp (disch := decide) only [m166, zd, zt, zu, zw, zX, qK]
  refine h rl (ra + 1) s kσ (Nat.le_succ _) nd (fun k => ⟨sub k, fun hk => ?_⟩) g2
  induction hk with
  | src h _ => exact st _ h
  | @step j k _ h _ ih =>
   obtain ⟨c, hc, e⟩ := List.getElem_of_mem ih
   exact cl c k hc (by lia) (by rw [e]; exact h)
end
end Mine.Internal.L09
set_option autoImplicit false
namespace Mine.Internal.L09
open Mine.Internal Mine.Internal.Bx
open PySem (Str PyData)
noncomputable def hv (hs : List (Option Nat)) : V → V
 | .int i => ov ((hs[i.toNat]?).getD none)
 | _ => .none
theorem hv_all {hs : List (Option Nat)} (h : hs.length = 8) : ((((List.range (8 : Int).toNat).map fun (k : Nat) => V.int (k : Int)).filter fun _ => true).map (hv hs)) = hs.map ov := by
 rw [List.filter_eq_self.mpr (fun _ _ => rfl)]
 apply List.ext_getElem?
 intro i
 rw [List.getElem?_map, List.getElem?_map, List.getElem?_map]
 by_cases hi : i < 8
 ·rw [show (8 : Int).toNat = 8 from rfl, List.getElem?_range hi]
  show some (ov ((hs[i]?).getD none)) = _
  rw [List.getElem?_eq_getElem (by lia)]; rfl
 ·rw [List.getElem?_eq_none (by rw [List.length_range]; exact Nat.le_of_not_lt hi), List.getElem?_eq_none (by lia)]; rfl
section
variable {N : Ps} {M : Nat} {σ σ' : H} {hs : List (Option Nat)} {ks : List Nat} {b : Nat → Nat} {r : Nat → List (Option Nat)} {w : Nat → Nat} {qa : Nat} {q : List Nat} {m : Nat} {d : Nat} {Q : V → H → Prop}
theorem comp_hands {loc : Loc} {a : Nat} {Q : V → H → Prop} (A : Pl N σ hs ks b r ks w qa q m) (hl : hs.length = 8) (h : σ.get a = some (.rng 0 8 1)) (h75 : loc 75 = some (.ref 2)) :
  Ok (compX [79] false (tstAnd prog (run prog 1000 (d + 2)) .nil) (ev prog (run prog 1000 (d + 2)) (.meth (.loc 75) 41 (.cons (.loc 79) .nil))) loc (.ref a)) σ Q = Q (.ref σ.length) (σ.push (.list (hs.map ov))) := by
 rw [c_pure (fun _ => true) (hv hs) (it_range h (by decide) (by decide)) (fun y hy => rfl) (fun y hy _ => ?_) (by rw [hv_all hl, List.length_map, hl]; decide), hv_all hl]
 obtain ⟨k, hk, rfl⟩ := List.mem_map.mp hy
 have hk : k < 8 := List.mem_range.mp hk
 refine ok_eq ?_
 have e1 : (loc.upd 79 (.int (k : Int))) 75 = some (.ref 2) := h75
 rw [qt]
 simp (disch := decide) only [e1, mx_inst A.p A.d, zX, qu, qB, qC, qD, qE, qG, qH, qI, qJ, qL, Nat.reduceBEq, qM]
 exact holds_ok A hl hk ⟨by simp [hv], rfl⟩
inductive Hd (N : Ps) (M L : Nat) (t : Option Nat) (σ : H) : Prop
 | mk (hs : List (Option Nat)) (ks : List Nat) (b : Nat → Nat) (r : Nat → List (Option Nat)) (w : Nat → Nat) (qa : Nat) (q : List Nat) (A : Pl N σ hs ks b r ks w qa q M) (I : G hs ks r w q M []) (c : Nat) (h0 : (hs[0]?).getD none = some c) (l0 : (r c).length = L) (h2 : ∀ z, t = some z → ∃ c, (hs[2]?).getD none = some c ∧ (r c).length = z) : Hd N M L t σ
theorem set_getD {xs : List (Option Nat)} {i j : Nat} {x : Option Nat} (h : i ≠ j) : ((xs.set i x)[j]?).getD none = (xs[j]?).getD none := by rw [List.getElem?_set_ne h]
theorem set_getD_self {xs : List (Option Nat)} {i : Nat} {x : Option Nat} (h : i < xs.length) : ((xs.set i x)[i]?).getD none = x := by rw [List.getElem?_set_self h]; rfl
theorem upd_len {c i : Nat} {x : Option Nat} (k : Nat) : (updF r c ((r c).set i x) k).length = (r k).length := by
 by_cases e : k = c
 ·subst e; rw [uF_is, List.length_set]
 ·rw [uF_ne e]
variable {L : Nat} {t : Option Nat}
theorem Hd.wd (X : Hd N M L t σ) (hM : M ≤ 60) : Wd N M σ := by cases X with | mk hs ks b r w qa q A I c h0 l0 h2 => exact .mk hs ks b r w qa q M A I (Nat.le_refl _) (Nat.le_trans (klen_of I) hM)
theorem Hd.at (X : Hd N M L t σ) : ∃ es, σ.get 1 = some (.attrs es) ∧ σ.get 2 = some (.inst 24 1) := by cases X with | mk hs ks b r w qa q A I c h0 l0 h2 => exact ⟨_, A.d, A.p⟩
theorem hd_make2 {z : Nat} (X : Hd N M L t σ) (hM : M ≤ 58) (hz : z ≤ 6) (h : ∀ v σ', Hd N (M + 1) L (some z) σ' → Kp N σ σ' → Q v σ') : Ok (run prog 1000 (d + 4) true 34 [.ref 2, .int 2, .int (z : Int)]) σ Q := by
 cases X with
 | mk hs ks b r w qa q A I c h0 l0 h2 =>
  have kl := klen_of I
  have hc : c ∈ ks := inHand I h0
  have hcm : c ≠ M := by have := I.lt c hc; lia
  refine make_ok (i := 2) A I (by decide) hz (by lia) (by lia) fun v σ' D => ?_
  cases D with
  | mk f ks' b' w' q' fr hv A' I' k g sub =>
   refine h v σ' (.mk _ ks' b' _ w' qa q' A' I' c ((set_getD (by decide)).trans h0) (by rw [uF_ne hcm]; exact l0) fun z' e => ⟨M, set_getD_self (by rw [I.hl]; decide), ?_⟩) k
   cases e; rw [uF_is, List.length_replicate]
theorem hd_put2 {z s j : Nat} (X : Hd N M L (some z) σ) (hM : M ≤ 60) (hs' : s < z) (hj : j < 8) (h : ∀ v σ', Hd N M L (some z) σ' → Kp N σ σ' → Q v σ') : Ok (run prog 1000 (d + 4) true 37 [.ref 2, .int 2, .int (s : Int), .int (j : Int)]) σ Q := by
 cases X with
 | mk hs ks b r w qa q A I c h0 l0 h2 =>
  obtain ⟨e, he, hl⟩ := h2 z rfl
  refine put_ok (k := 2) A I (by decide) hj he (by lia) (by lia) fun v σ' D => ?_
  cases D with
  | mk f ks' b' w' q' fr hv A' I' k g sub => exact h v σ' (.mk _ ks' b' _ w' qa q' A' I' c h0 ((upd_len c).trans l0) fun z' e' => ⟨e, he, (upd_len e).trans (by cases e'; exact hl)⟩) k
theorem hd_put0 {s j : Nat} (X : Hd N M L t σ) (hM : M ≤ 60) (hs' : s < L) (hj : j < 8) (h : ∀ v σ', Hd N M L none σ' → Kp N σ σ' → Q v σ') : Ok (run prog 1000 (d + 4) true 37 [.ref 2, .int 0, .int (s : Int), .int (j : Int)]) σ Q := by
 cases X with
 | mk hs ks b r w qa q A I c h0 l0 h2 =>
  refine put_ok (k := 0) A I (by decide) hj h0 (by lia) (by lia) fun v σ' D => ?_
  cases D with
  | mk f ks' b' w' q' fr hv A' I' k g sub => exact h v σ' (.mk _ ks' b' _ w' qa q' A' I' c h0 ((upd_len c).trans l0) fun z' e' => nomatch e') k
theorem hd_hold {i j : Nat} (X : Hd N M L t σ) (hM : M ≤ 60) (hi : i < 8) (hj : j < 8) (h0' : i ≠ 0) (h2' : i ≠ 2) (h : ∀ v σ', Hd N M L t σ' → Kp N σ σ' → Q v σ') : Ok (run prog 1000 (d + 4) true 35 [.ref 2, .int (i : Int), .int (j : Int)]) σ Q := by
 cases X with
 | mk hs ks b r w qa q A I c h0 l0 h2 =>
  refine hold_ok A I hi hj (by lia) fun v σ' D => ?_
  cases D with
  | mk f ks' b' w' q' fr hv A' I' k g sub => exact h v σ' (.mk _ ks' b' _ w' qa q' A' I' c ((set_getD h0').trans h0) l0 fun z e => let ⟨c, hc, hl⟩ := h2 z e; ⟨c, (set_getD h2').trans hc, hl⟩) k
theorem hd_drop {i : Nat} (X : Hd N M L t σ) (hM : M ≤ 60) (hi : i < 8) (h0' : i ≠ 0) (h : ∀ v σ', Hd N M L none σ' → Kp N σ σ' → Q v σ') : Ok (run prog 1000 (d + 4) true 36 [.ref 2, .int (i : Int)]) σ Q := by
 cases X with
 | mk hs ks b r w qa q A I c h0 l0 h2 =>
  refine drop_ok A I hi (by lia) fun v σ' D => ?_
  cases D with
  | mk f ks' b' w' q' fr hv A' I' k g sub => exact h v σ' (.mk _ ks' b' _ w' qa q' A' I' c ((set_getD h0').trans h0) l0 fun z e => nomatch e) k
theorem hd_drop0 (X : Hd N M L t σ) (hM : M ≤ 60) (h : ∀ v σ', Wd N M σ' → Kp N σ σ' → Q v σ') : Ok (run prog 1000 (d + 4) true 36 [.ref 2, .int 0]) σ Q := by
 cases X with
 | mk hs ks b r w qa q A I c h0 l0 h2 => exact drop_ok (i := 0) A I (by decide) (by lia) fun v σ' D => h v σ' (D.wd (Nat.le_refl _) (Nat.le_trans (klen_of I) hM)) D.kp
theorem hd_make0 {z : Nat} {hs : List (Option Nat)} {ks : List Nat} {b : Nat → Nat} {r : Nat → List (Option Nat)} {w : Nat → Nat} {qa : Nat} {q : List Nat} (A : Pl N σ hs ks b r ks w qa q M) (I : G hs ks r w q M []) (hM : M ≤ 58) (hz : z ≤ 6) (h : ∀ v σ', Hd N (M + 1) z none σ' → Kp N σ σ' → Q v σ') : Ok (run prog 1000 (d + 4) true 34 [.ref 2, .int 0, .int (z : Int)]) σ Q := by
 have kl := klen_of I
 refine make_ok (i := 0) A I (by decide) hz (by lia) (by lia) fun v σ' D => ?_
 cases D with
 | mk f ks' b' w' q' fr hv A' I' k g sub => exact h v σ' (.mk _ ks' b' _ w' qa q' A' I' M (set_getD_self (by rw [I.hl]; decide)) (by rw [uF_is, List.length_replicate]) fun z e => nomatch e) k
theorem wd_drop {i : Nat} (W : Wd N M σ) (hM : M ≤ 98) (hi : i < 8) (h : ∀ v σ', Wd N M σ' → Kp N σ σ' → Q v σ') : Ok (run prog 1000 (d + 4) true 36 [.ref 2, .int (i : Int)]) σ Q := by
 cases W with
 | mk hs ks b r w qa q m A I hm h60 => exact drop_ok A I hi (by lia) fun v σ' D => h v σ' (D.wd hm h60) D.kp
end
end Mine.Internal.L09
set_option autoImplicit false
namespace Mine.Internal.L09
open Mine.Internal Mine.Internal.Bx
open PySem (Str PyData)
theorem hL : LawP prog := ⟨rfl, rfl, rfl⟩
section
variable {N : Ps} {M : Nat} {σ σ' : H} {hs : List (Option Nat)} {ks : List Nat} {b : Nat → Nat} {r : Nat → List (Option Nat)} {w : Nat → Nat} {qa : Nat} {q : List Nat} {d : Nat} {Q : V → H → Prop}
theorem ring_turn {k : Nat} {t : Option Nat} {lc : Loc} {Q : Option V → Loc → H → Prop} (X : Hd N M 1 t σ) (hM : M ≤ 58) (e75 : lc 75 = some (.ref 2)) (e71 : lc 71 = some (.int (k : Int))) (h : ∀ z σ', Hd N (M + 1) 1 (some z) σ' → Kp N σ σ' → Q none lc σ') : OkS (exs prog (run prog 1000 (d + 4)) 1000 f__law_ring_4f_1 lc σ) Q := by
 obtain ⟨a, ha, ha2⟩ := fmod_nat (a := (k : Int)) (b := 6) (by decide)
 obtain ⟨c, hc, hc2⟩ := fmod_nat (a := (k : Int)) (b := 5) (by decide)
 have e1 : (1 : Int) + (a : Int) = ((1 + a : Nat) : Int) := by lia
 obtain ⟨es, d1, d2⟩ := X.at
 refine oks_step rfl ?_
 simp (disch := decide) only [e75, e71, mx_inst d2 d1, ok_mod (b := 6) (by decide), ha, ok_add, e1, ze, zV, zX, zY, zZ, qt, qu, qB, qC, qD, qE, qF, qG, qH, qI, qJ]
 refine hd_make2 X hM (by lia) fun v σ1 X1 k1 => ?_
 obtain ⟨es, d1, d2⟩ := X1.at
 refine then_step rfl ?_
 simp (disch := decide) only [e75, e71, mx_inst d2 d1, ok_mod (b := 6) (by decide), ha, ze, zV, zX, zY, zZ, qt, qu, qB, qC, qD, qE, qF, qG, qH, qI, qJ]
 refine hd_put2 (j := 1) X1 (by lia) (by lia) (by decide) fun v σ2 X2 k2 => ?_
 have k2 := k1.trans k2
 clear X1 k1
 have fin : ∀ τ, Hd N (M + 1) 1 (some (1 + a)) τ → Kp N σ τ → OkS (exs prog (run prog 1000 (d + 4)) 1000 f__law_ring_4f_4 lc τ) Q := fun τ X3 k3 => by
  have last : ∀ τ, Hd N (M + 1) 1 (some (1 + a)) τ → Kp N σ τ → OkS (exs prog (run prog 1000 (d + 4)) 1000 f__law_ring_4f_5 lc τ) Q := fun τ X4 k4 => by
   obtain ⟨es, d1, d2⟩ := X4.at
   refine oks_step rfl ?_
   simp (disch := decide) only [e75, mx_inst d2 d1, ze, zV, zX, qt, qu, qB, qC, qD, qE, qG, qH, qI, qJ]
   refine hd_hold (i := 1) (j := 2) X4 (by lia) (by decide) (by decide) (by decide) (by decide) fun v σ5 X5 k5 => ?_
   simp (disch := decide) only [zb, zc, zf]
   exact h _ σ5 X5 (k4.trans k5)
  obtain ⟨es, d1, d2⟩ := X3.at
  refine oks_step rfl ?_
  by_cases h3 : c = 3
  ·subst h3
   have e3 : ((3 : Nat) : Int) = 3 := rfl
   simp (disch := decide) only [e71, ok_mod (b := 5) (by decide), hc, ok_eqI, e3, ok_truthb, zq, zr, zG, zV, zX, zY, zZ, qb, qc, qF, qG, qH, qI, decide_true]
   refine oks_step rfl ?_
   simp (disch := decide) only [e75, mx_inst d2 d1, ze, zV, zX, qt, qu, qB, qC, qD, qE, qG, qH, qI, qJ]
   refine hd_hold (i := 3) (j := 1) X3 (by lia) (by decide) (by decide) (by decide) (by decide) fun v σ5 X5 k5 => ?_
   simp (disch := decide) only [zb, zc, zf]
   exact last σ5 X5 (k3.trans k5)
  ·have e3 : ¬ ((c : Int) = 3) := by lia
   simp (disch := decide) only [e71, ok_mod (b := 5) (by decide), hc, ok_eqI, e3, ok_truthb, zb, zc, zq, zs, zG, zV, zX, zY, zZ, qb, qc, qF, qG, qH, qI, decide_false]
   exact last τ X3 k3
 obtain ⟨es, d1, d2⟩ := X2.at
 refine then_step rfl ?_
 by_cases h0 : 0 < a
 ·have e0 : (a : Int) > 0 := by lia
  simp (disch := decide) only [e71, ok_mod (b := 6) (by decide), ha, ok_gt, e0, ok_truthb, zq, zr, zG, zV, zX, zY, zZ, qb, qc, qF, qG, qH, qI, decide_true]
  refine oks_step rfl ?_
  simp (disch := decide) only [e75, mx_inst d2 d1, ze, zV, zX, qt, qu, qB, qC, qD, qE, qG, qH, qI, qJ]
  refine hd_put2 (s := 0) (j := 3) X2 (by lia) (by lia) (by decide) fun v σ3 X3 k3 => ?_
  simp (disch := decide) only [zb, zc, zf]
  exact fin σ3 X3 (k2.trans k3)
 ·have e0 : ¬ ((a : Int) > 0) := by lia
  simp (disch := decide) only [e71, ok_mod (b := 6) (by decide), ha, ok_gt, e0, ok_truthb, zb, zc, zq, zs, zG, zV, zX, zY, zZ, qb, qc, qF, qG, qH, qI, decide_false]
  exact fin σ2 X2 k2
theorem ring_ok {many : Nat} {cl : Bool} (A : Pl N σ hs ks b r ks w qa q 0) (I : G hs ks r w q 0 []) (hm : many < 30) (h : ∀ σ', Wd N 31 σ' → Kp N σ σ' → Q .none σ') : Ok (run prog 1000 (d + 5) false 135 [.ref 2, .int (many : Int), .bool cl]) σ Q := by
 rw [ok_run (fd := f__law_ring) rfl rfl]
 unfold f__law_ring
 refine oks_step rfl ?_
 simp (disch := decide) only [mx_inst A.p A.d, ze, zV, zX, qt, qu, qB, qC, qD, qE, qG, qH, qI, qJ, List.zip_cons_cons, List.zip_nil_right, List.foldl_cons, List.foldl_nil, qL, Nat.reduceBEq, qM, qN]
 refine hd_make0 (z := 1) A I (by decide) (by decide) fun v σ1 X1 k1 => ?_
 obtain ⟨es, d1, d2⟩ := X1.at
 refine then_step rfl ?_
 simp (disch := decide) only [mx_inst d2 d1, ze, zV, zX, qt, qu, qB, qC, qD, qE, qG, qH, qI, qJ, qL, Nat.reduceBEq, qM, qN]
 refine hd_hold (i := 1) (j := 0) X1 (by decide) (by decide) (by decide) (by decide) (by decide) fun v σ2 X2 k2 => ?_
 have k2 := k1.trans k2
 obtain ⟨es, d1, d2⟩ := X2.at
 refine then_step rfl ?_
 simp (disch := decide) only [mx_inst d2 d1, ze, zV, zX, qt, qu, qB, qC, qD, qE, qG, qH, qI, qJ, qL, Nat.reduceBEq, qM, qN]
 refine hd_hold (i := 3) (j := 0) X2 (by decide) (by decide) (by decide) (by decide) (by decide) fun v σ3 X3 k3 => ?_
 have k3 := k2.trans k3
 refine then_step rfl ?_
 rw [s_for]
 simp (disch := decide) only [ok_range1, zy, zX, qw, qB, qC, qD, qE, qH, qI, qL, Nat.reduceBEq, qM, qN]
 have X4 : Hd N 1 1 none (σ3.push (.rng 0 (many : Int) 1)) := by cases X3 with | mk hs ks b r w qa q A I c h0 l0 h2 => exact .mk hs ks b r w qa q (A.push _) I c h0 l0 h2
 have k4 := k3.push (.rng 0 (many : Int) 1)
 have g4 : (σ3.push (.rng 0 (many : Int) 1)).get σ3.length = some (.rng 0 (many : Int) 1) := get_push_eq
 generalize σ3.push (.rng 0 (many : Int) 1) = σ4 at *
 generalize σ3.length = ra at *
 refine ⟨_, it_range g4 (Int.natCast_nonneg _) (by lia), f_inv (fun j l s => l 75 = some (.ref 2) ∧ l 136 = some (.bool cl) ∧ Kp N σ4 s ∧ ∃ t, Hd N (1 + j) 1 t s) ⟨rfl, rfl, Kp.refl _ _, none, X4⟩ ?_ ?_⟩
 ·rintro j l s y hy ⟨m1, m2, ks', t, X⟩
  obtain ⟨hj, rfl⟩ := rng_at hy
  have hj : j < many := by lia
  refine ring_turn (k := j) X (by lia) m1 rfl fun z σ' X' k' => ?_
  exact ⟨rfl, still_get (by rw [g4]; exact k' _ _ (.inl rfl) (ks' _ _ (.inl rfl) g4)), m1, m2, ks'.trans k', some z, X'⟩
 ·rintro l s ⟨m1, m2, ks', t, X⟩
  have kk := k4.trans ks'
  rw [List.length_map, List.length_range, Int.toNat_natCast] at X
  obtain ⟨es, d1, d2⟩ := X.at
  refine then_step rfl ?_
  simp (disch := decide) only [m1, mx_inst d2 d1, ze, zV, zX, qt, qu, qB, qC, qD, qE, qG, qH, qI, qJ]
  refine hd_drop (i := 2) X (by lia) (by decide) (by decide) fun v σ5 X5 k5 => ?_
  have k5 := kk.trans k5
  refine then_step rfl ?_
  have up : ∀ {τ : H}, Wd N (1 + many) τ → Wd N 31 τ := fun W => by cases W with | mk hs ks b r w qa q m A I hm h60 => exact .mk hs ks b r w qa q m A I (by lia) h60
  cases cl with
  | false =>
   simp (disch := decide) only [m2, ok_truthb, zb, zc, zx, zq, zs, zx, zE, zX, qI]
   exact h σ5 (up (X5.wd (by lia))) k5
  | true =>
   obtain ⟨es, d1, d2⟩ := X5.at
   simp (disch := decide) only [m2, ok_truthb, zq, zr, zE, zX, qI]
   refine oks_step rfl ?_
   simp (disch := decide) only [m1, mx_inst d2 d1, ze, zV, zX, qt, qu, qB, qC, qD, qE, qG, qH, qI, qJ]
   refine hd_put0 (s := 0) (j := 1) X5 (by lia) (by decide) (by decide) fun v σ6 X6 k6 => ?_
   have k6 := k5.trans k6
   obtain ⟨es, d1, d2⟩ := X6.at
   refine then_step rfl ?_
   simp (disch := decide) only [m1, mx_inst d2 d1, ze, zV, zX, qt, qu, qB, qC, qD, qE, qG, qH, qI, qJ]
   refine hd_drop (i := 1) X6 (by lia) (by decide) (by decide) fun v σ7 X7 k7 => ?_
   have k7 := k6.trans k7
   obtain ⟨es, d1, d2⟩ := X7.at
   refine then_step rfl ?_
   simp (disch := decide) only [m1, mx_inst d2 d1, ze, zV, zX, qt, qu, qB, qC, qD, qE, qG, qH, qI, qJ]
   refine hd_drop (i := 3) X7 (by lia) (by decide) (by decide) fun v σ8 X8 k8 => ?_
   simp (disch := decide) only [zb, zc, zx, zf, zx]
   exact h σ8 (up (X8.wd (by lia))) (k7.trans k8)
theorem star_turn {t : Option Nat} {lc : Loc} {Q : Option V → Loc → H → Prop} (X : Hd N M 6 t σ) (hM : M ≤ 58) (e75 : lc 75 = some (.ref 2)) (h : ∀ z l' σ', (∀ j, j ≠ 96 → l' j = lc j) → Hd N (M + 1) 6 (some z) σ' → Kp N σ σ' → Q none l' σ') : OkS (exs prog (run prog 1000 (d + 4)) 1000 f__law_star_4f_1 lc σ) Q := by
 obtain ⟨es, d1, d2⟩ := X.at
 refine oks_step rfl ?_
 simp (disch := decide) only [e75, mx_inst d2 d1, ze, zV, zX, qt, qu, qB, qC, qD, qE, qG, qH, qI, qJ]
 refine hd_make2 (z := 6) X hM (by decide) fun v σ1 X1 k1 => ?_
 refine then_step rfl ?_
 rw [s_for]
 simp (disch := decide) only [ok_range1, zy, zV, qw, qB, qC, qD, qE, qH]
 have X2 : Hd N (M + 1) 6 (some 6) (σ1.push (.rng 0 5 1)) := by cases X1 with | mk hs ks b r w qa q A I c h0 l0 h2 => exact .mk hs ks b r w qa q (A.push _) I c h0 l0 h2
 have k2 := k1.push (.rng 0 5 1)
 have g2 : (σ1.push (.rng 0 5 1)).get σ1.length = some (.rng 0 5 1) := get_push_eq
 generalize σ1.push (.rng 0 5 1) = σ2 at *
 generalize σ1.length = ra at *
 refine ⟨_, it_range g2 (by decide) (by decide), f_inv (fun j l s => (∀ j, j ≠ 96 → l j = lc j) ∧ Kp N σ2 s ∧ Hd N (M + 1) 6 (some 6) s) ⟨fun _ _ => rfl, Kp.refl _ _, X2⟩ ?_ ?_⟩
 ·rintro j l s y hy ⟨m1, k3, X3⟩
  obtain ⟨hj, rfl⟩ := rng_at hy
  have hj : j < 5 := by lia
  obtain ⟨es, d1, d2⟩ := X3.at
  have m75 : l 75 = some (.ref 2) := (m1 75 (by decide)).trans e75
  refine oks_step rfl ?_
  simp (disch := decide) only [m75, mx_inst d2 d1, ze, zV, zX, qt, qu, qB, qC, qD, qE, qG, qH, qI, qJ, qL, Nat.reduceBEq, qM, qN, ne_eq]
  refine hd_put2 (s := j) (j := 3) X3 (by lia) (by lia) (by decide) fun v σ4 X4 k4 => ?_
  simp (disch := decide) only [zb, zc, zf, qL]
  refine ⟨trivial, still_get (by rw [g2]; exact k4 _ _ (.inl rfl) (k3 _ _ (.inl rfl) g2)), fun i hi => (upd_no hi).trans (m1 i hi), k3.trans k4, X4⟩
 ·rintro l s ⟨m1, k3, X3⟩
  have m75 : l 75 = some (.ref 2) := (m1 75 (by decide)).trans e75
  obtain ⟨es, d1, d2⟩ := X3.at
  refine then_step rfl ?_
  simp (disch := decide) only [m75, mx_inst d2 d1, ze, zV, zX, qt, qu, qB, qC, qD, qE, qG, qH, qI, qJ]
  refine hd_put2 (s := 5) (j := 1) X3 (by lia) (by decide) (by decide) fun v σ4 X4 k4 => ?_
  obtain ⟨es, d1, d2⟩ := X4.at
  refine then_step rfl ?_
  simp (disch := decide) only [m75, mx_inst d2 d1, ze, zV, zX, qt, qu, qB, qC, qD, qE, qG, qH, qI, qJ]
  refine hd_hold (i := 1) (j := 2) X4 (by lia) (by decide) (by decide) (by decide) (by decide) fun v σ5 X5 k5 => ?_
  simp (disch := decide) only [zb, zc, zf]
  exact h _ l σ5 m1 X5 (k2.trans (k3.trans (k4.trans k5)))
theorem star_ok {many : Nat} {cl : Bool} (A : Pl N σ hs ks b r ks w qa q 0) (I : G hs ks r w q 0 []) (hm : many < 25) (h : ∀ σ', Wd N 31 σ' → Kp N σ σ' → Q .none σ') : Ok (run prog 1000 (d + 5) false 137 [.ref 2, .int (many : Int), .bool cl]) σ Q := by
 rw [ok_run (fd := f__law_star) rfl rfl]
 unfold f__law_star
 have kl := klen_of I
 refine oks_step rfl ?_
 simp (disch := decide) only [mx_inst A.p A.d, ze, zV, zX, qt, qu, qB, qC, qD, qE, qG, qH, qI, qJ, List.zip_cons_cons, List.zip_nil_right, List.foldl_cons, List.foldl_nil, qL, Nat.reduceBEq, qM, qN]
 refine make_ok (i := 3) (z := 0) A I (by decide) (by decide) (by lia) (by decide) fun v σ0 D => ?_
 cases D with
 | mk f ks' b' w' q' fr hv A' I' k0 g sub =>
 refine then_step rfl ?_
 simp (disch := decide) only [mx_inst A'.p A'.d, ze, zV, zX, qt, qu, qB, qC, qD, qE, qG, qH, qI, qJ, qL, Nat.reduceBEq, qM, qN]
 refine hd_make0 (z := 6) A' I' (by decide) (by decide) fun v σ1 X1 k1 => ?_
 have k1 := k0.trans k1
 obtain ⟨es, d1, d2⟩ := X1.at
 refine then_step rfl ?_
 simp (disch := decide) only [mx_inst d2 d1, ze, zV, zX, qt, qu, qB, qC, qD, qE, qG, qH, qI, qJ, qL, Nat.reduceBEq, qM, qN]
 refine hd_hold (i := 1) (j := 0) X1 (by decide) (by decide) (by decide) (by decide) (by decide) fun v σ3 X3 k3 => ?_
 have k3 := k1.trans k3
 refine then_step rfl ?_
 rw [s_for]
 simp (disch := decide) only [ok_range1, zy, zX, qw, qB, qC, qD, qE, qH, qI, qL, Nat.reduceBEq, qM, qN]
 have X4 : Hd N 2 6 none (σ3.push (.rng 0 (many : Int) 1)) := by cases X3 with | mk hs ks b r w qa q A I c h0 l0 h2 => exact .mk hs ks b r w qa q (A.push _) I c h0 l0 h2
 have k4 := k3.push (.rng 0 (many : Int) 1)
 have g4 : (σ3.push (.rng 0 (many : Int) 1)).get σ3.length = some (.rng 0 (many : Int) 1) := get_push_eq
 generalize σ3.push (.rng 0 (many : Int) 1) = σ4 at *
 generalize σ3.length = ra at *
 refine ⟨_, it_range g4 (Int.natCast_nonneg _) (by lia), f_inv (fun j l s => l 75 = some (.ref 2) ∧ l 136 = some (.bool cl) ∧ Kp N σ4 s ∧ ∃ t, Hd N (2 + j) 6 t s) ⟨rfl, rfl, Kp.refl _ _, none, X4⟩ ?_ ?_⟩
 ·rintro j l s y hy ⟨m1, m2, ks', t, X⟩
  obtain ⟨hj, rfl⟩ := rng_at hy
  have hj : j < many := by lia
  refine star_turn X (by lia) m1 fun z l' σ' hl X' k' => ?_
  exact ⟨rfl, still_get (by rw [g4]; exact k' _ _ (.inl rfl) (ks' _ _ (.inl rfl) g4)), (hl 75 (by decide)).trans m1, (hl 136 (by decide)).trans m2, ks'.trans k', some z, X'⟩
 ·rintro l s ⟨m1, m2, ks', t, X⟩
  have kk := k4.trans ks'
  rw [List.length_map, List.length_range, Int.toNat_natCast] at X
  obtain ⟨es, d1, d2⟩ := X.at
  refine then_step rfl ?_
  simp (disch := decide) only [m1, mx_inst d2 d1, ze, zV, zX, qt, qu, qB, qC, qD, qE, qG, qH, qI, qJ]
  refine hd_drop (i := 2) X (by lia) (by decide) (by decide) fun v σ5 X5 k5 => ?_
  have k5 := kk.trans k5
  refine then_step rfl ?_
  have up : ∀ {τ : H}, Wd N (2 + many) τ → Wd N 31 τ := fun W => by cases W with | mk hs ks b r w qa q m A I hm h60 => exact .mk hs ks b r w qa q m A I (by lia) h60
  cases cl with
  | false =>
   simp (disch := decide) only [m2, ok_truthb, zb, zc, zx, zq, zs, zx, zE, zX, qI]
   exact h σ5 (up (X5.wd (by lia))) k5
  | true =>
   obtain ⟨es, d1, d2⟩ := X5.at
   simp (disch := decide) only [m2, ok_truthb, zq, zr, zE, zX, qI]
   refine oks_step rfl ?_
   simp (disch := decide) only [m1, mx_inst d2 d1, ze, zV, zX, qt, qu, qB, qC, qD, qE, qG, qH, qI, qJ]
   refine hd_put0 (s := 5) (j := 1) X5 (by lia) (by decide) (by decide) fun v σ6 X6 k6 => ?_
   have k6 := k5.trans k6
   obtain ⟨es, d1, d2⟩ := X6.at
   refine then_step rfl ?_
   simp (disch := decide) only [m1, mx_inst d2 d1, ze, zV, zX, qt, qu, qB, qC, qD, qE, qG, qH, qI, qJ]
   refine hd_drop0 X6 (by lia) fun v σ7 X7 k7 => ?_
   have k7 := k6.trans k7
   obtain ⟨es, d1, d2⟩ := X7.at
   refine then_step rfl ?_
   simp (disch := decide) only [m1, mx_inst d2 d1, ze, zV, zX, qt, qu, qB, qC, qD, qE, qG, qH, qI, qJ]
   refine wd_drop (i := 1) X7 (by lia) (by decide) fun v σ8 X8 k8 => ?_
   simp (disch := decide) only [zb, zc, zx, zf, zx]
   exact h σ8 (up X8) (k7.trans k8)
end
end Mine.Internal.L09
set_option autoImplicit false
namespace Mine.Internal.L09
open Mine.Internal Mine.Internal.Bx
open PySem (Str PyData)
theorem few_at : ∀ {a : Nat}, a < 3 → ∃ k : Nat, 0 < k ∧ k ≤ 9 ∧ [V.int 3, V.int 9, V.int 4][((a : Int)).toNat]? = some (.int (k : Int))
 | 0, _ => ⟨3, by decide, by decide, rfl⟩
 | 1, _ => ⟨9, by decide, by decide, rfl⟩
 | 2, _ => ⟨4, by decide, by decide, rfl⟩
theorem ok_range3 {P : Prog} {σ : H} {a b c : Int} {Q : V → H → Prop} (hc : c ≠ 0) (hs : small c = true) : Ok (builtin .range [.int a, .int b, .int c]) σ Q = Q (.ref σ.length) (σ.push (.rng a b c)) := ok_some (by
 show biRange [.int a, .int b, .int c] σ = _
 simp [biRange, twoInts, onInt, hc, hs, alloc, okO])
theorem ok_min {P : Prog} {σ : H} {a b : Int} {Q : V → H → Prop} : Ok (builtin .min [.int a, .int b]) σ Q = Q (.int (if b < a then b else a)) σ := rfl
section
variable {N : Ps} {σ σ' : H} {hs : List (Option Nat)} {b : Nat → Nat} {r : Nat → List (Option Nat)} {w : Nat → Nat} {qa : Nat} {q : List Nat} {d : Nat} {Q : V → H → Prop} {ns : List Int}
theorem begun_ok (A : Pl N σ hs [] b r [] w qa q 0) (I : G hs [] r w q 0 []) (hz : σ.get 0 = some (.list (ns.map .int))) (h : ∀ few σ', 0 < few → few ≤ 9 → Wd N 31 σ' → Kp N σ σ' → Q (.int ((few : Nat) : Int)) σ') : Ok (run prog 1000 (d + 6) false 138 [.ref 2, .ref 0]) σ Q := by
 rw [ok_run (fd := f__law_begun) rfl rfl]
 unfold f__law_begun
 refine oks_step rfl ?_
 simp (disch := decide) only [zg, zV, zX, qr, qB, qC, qD, qE, qH, qI, List.zip_cons_cons, List.zip_nil_right, List.foldl_cons, List.foldl_nil, qL, Nat.reduceBEq, qM, qN]
 refine cell_ok hL (ns := ns) (k := 0) hz ?_
 generalize cellAt ns 0 = c
 obtain ⟨a, ha, ha2⟩ := fmod_nat (a := c) (b := 3) (by decide)
 obtain ⟨n1, hn1, hn1'⟩ := fmod_nat (a := Int.fdiv c 3) (b := 30) (by decide)
 obtain ⟨n2, hn2, hn2'⟩ := fmod_nat (a := Int.fdiv c 3) (b := 25) (by decide)
 obtain ⟨e, he, he2⟩ := fmod_nat (a := Int.fdiv c 300) (b := 3) (by decide)
 obtain ⟨few, hf1, hf2, hf⟩ := few_at (a := e) (by lia)
 simp (disch := decide) only [zh]
 have W0 : Wd N 31 σ := .mk hs [] b r w qa q 0 A I (Nat.zero_le _) (Nat.zero_le _)
 have fin : ∀ lc τ, lc 139 = some (.int c) → Wd N 31 τ → Kp N σ τ → OkS (exs prog (run prog 1000 (d + 5)) 1000 f__law_begun_4 lc τ) (runK Q) := fun lc τ e139 W k => by
  have ok3 : okO (.list [V.int 3, V.int 9, V.int 4]) = true := rfl
  refine oks_step rfl ?_
  simp (disch := decide) only [e139, ok_alloc ok3, ok_div (b := 300) (by decide) (by decide), ok_mod (b := 3) (by decide), he, ok_getList (get_push_eq (σ := τ) (o := .list [V.int 3, V.int 9, V.int 4])) (Int.natCast_nonneg _) hf, zd, zw, zt, zu, zw, zV, zX, zY, zZ, qf, qg, qm, qo, qB, qC, qD, qE, qF, qG, qH, qI]
  refine h few _ hf1 hf2 ?_ (k.push _)
  cases W with | mk hs ks b r w qa q m A I hm h60 => exact .mk hs ks b r w qa q m (A.push _) I hm h60
 refine then_step rfl ?_
 have hcase : a = 0 ∨ a = 1 ∨ a = 2 := by lia
 rcases hcase with rfl | rfl | rfl
 ·simp (disch := decide) only [ok_mod (b := 3) (by decide), ha, ok_eqI, Int.natCast_zero, Int.reduceEq, ok_truthb, zb, zq, zs, zG, zV, zX, zY, zZ, qb, qc, qF, qG, qH, qI, qL, Nat.reduceBEq, qM, qN, decide_false]
  refine then_step rfl ?_
  simp (disch := decide) only [ok_mod (b := 3) (by decide), ha, ok_eqI, Int.natCast_zero, Int.reduceEq, ok_truthb, zb, zc, zq, zs, zG, zV, zX, zY, zZ, qb, qc, qF, qG, qH, qI, qL, Nat.reduceBEq, qM, qN, decide_false]
  exact fin _ σ rfl W0 (Kp.refl _ _)
 ·simp (disch := decide) only [ok_mod (b := 3) (by decide), ha, ok_eqI, Int.natCast_one, Int.reduceEq, ok_truthb, zb, zq, zs, zG, zV, zX, zY, zZ, qb, qc, qF, qG, qH, qI, qL, Nat.reduceBEq, qM, qN, decide_false]
  refine then_step rfl ?_
  simp (disch := decide) only [ok_mod (b := 3) (by decide), ha, ok_eqI, Int.natCast_one, ok_truthb, zq, zr, zG, zV, zX, zY, zZ, qb, qc, qF, qG, qH, qI, qL, Nat.reduceBEq, qM, qN, decide_true]
  refine oks_step rfl ?_
  simp (disch := decide) only [ok_div (b := 3) (by decide) (by decide), ok_mod (b := 25) (by decide), hn2, ok_div (b := 75) (by decide) (by decide), ok_mod (b := 2) (by decide), ok_eqI, ze, zV, zX, zY, zZ, qb, qc, qr, qB, qC, qD, qE, qF, qG, qH, qI, qJ, qL, Nat.reduceBEq, qM, qN]
  refine star_ok A I (by lia) fun σ' W k => ?_
  simp (disch := decide) only [zb, zc, zf]
  exact fin _ σ' rfl W k
 ·have n2 : ((2 : Nat) : Int) = 2 := rfl
  simp (disch := decide) only [ok_mod (b := 3) (by decide), ha, ok_eqI, n2, ok_truthb, zq, zr, zG, zV, zX, zY, zZ, qb, qc, qF, qG, qH, qI, qL, Nat.reduceBEq, qM, qN, decide_true]
  refine oks_step rfl ?_
  simp (disch := decide) only [ok_div (b := 3) (by decide) (by decide), ok_mod (b := 30) (by decide), hn1, ok_div (b := 90) (by decide) (by decide), ok_mod (b := 2) (by decide), ok_eqI, ze, zV, zX, zY, zZ, qb, qc, qr, qB, qC, qD, qE, qF, qG, qH, qI, qJ, qL, Nat.reduceBEq, qM, qN]
  refine ring_ok A I (by lia) fun σ' W k => ?_
  simp (disch := decide) only [zb, zc, zf]
  refine then_step rfl ?_
  simp (disch := decide) only [ok_mod (b := 3) (by decide), ha, ok_eqI, n2, Int.reduceEq, ok_truthb, zb, zc, zq, zs, zG, zV, zX, zY, zZ, qb, qc, qF, qG, qH, qI, qL, Nat.reduceBEq, qM, qN, decide_false]
  exact fin _ σ' rfl W k
theorem wd_ex {M : Nat} (W : Wd N M σ) (x : Ext σ σ') : Wd N M σ' := by cases W with | mk hs ks b r w qa q m A I hm h60 => exact .mk hs ks b r w qa q m (A.ex x) I hm h60
end
noncomputable def n8 : List V := [.none, .none, .none, .none, .none, .none, .none, .none]
noncomputable def hs8 : List (Option Nat) := [none, none, none, none, none, none, none, none]
noncomputable def Hn (xs : List V) : H := [.list xs, at5 7 0, .inst 24 1, .rng 0 8 1, .list n8, .dict [], .dict [], .dict []]
theorem new_at {xs : List V} : ex prog (run prog 1000 20) 1000 (.asg (.var 75) (.new 24)) ((f_law.params.zip [V.ref 0]).foldl (fun l p => Loc.upd l p.1 p.2) (fun _ => none)) [.list xs] = some (.ok none, Loc.upd (Loc.upd (fun _ => none) 70 (.ref 0)) 75 (.ref 2), Hn xs) := by kernel_rfl
theorem exs_at {P : Prog} {C : Calls} {F : Nat} {s : St} {ss : Sts} {l l' : Loc} {σ σ' : H} (h : ex P C F s l σ = some (.ok none, l', σ')) : exs P C F (.cons s ss) l σ = exs P C F ss l' σ' := by
 show (match ex P C F s l σ with | some (.ok none, l₁, h₁) => exs P C F ss l₁ h₁ | r => r) = _
 rw [h]
theorem g0 : G hs8 [] (fun _ => []) (fun _ => 0) [] 0 [] :=
 ⟨rfl, List.nodup_nil, fun k h => (nomatch h), fun k _ => by unfold cnt hs8 ins; simp, fun k h => (nomatch h), fun k h => (nomatch h), fun k h => (nomatch h), List.nodup_nil, fun k h => (nomatch h), fun n h => (nomatch h)⟩
end Mine.Internal.L09
set_option autoImplicit false
namespace Mine.Internal.L09
open Mine.Internal Mine.Internal.Bx
open PySem (Str PyData)
noncomputable def fordK (P : Prog) (C : Calls) (F i : Nat) (b : Sts) (loc : Loc) (Q : Option V → Loc → H → Prop) : V → H → Prop := fun v σ => ∃ a es, v = .ref a ∧ σ.getM P a = some (.dict es) ∧ (intsOf (es.map (·.1))).isSome = true ∧ OkF P C F (.ref a) [i] false b (σ.put a (.lck es)) (es.map (·.1)) loc (σ.put a (.lck es)) (fun r l s => r = none ∧ s.get a = some (.lck es) ∧ Q none l (s.put a (.dict es)))
theorem s_ford {P : Prog} {C : Calls} {F i : Nat} {e : Ex} {b : Sts} {loc : Loc} {σ : H} {Q : Option V → Loc → H → Prop} (h : Ok (ev P C e loc) σ (fordK P C F i b loc Q)) : OkS (ex P C F (.ford i e b) loc σ) Q := by
 obtain ⟨v, σ1, e1, a, es, rfl, hk, hi, hF⟩ := ok_iff.mp h
 obtain ⟨r, l, s, e2, rfl, g, hq⟩ := oks_iff.mp hF
 refine oks_iff.mpr ⟨none, l, s.put a (.dict es), ?_, hq⟩
 show onX (ev P C e loc) loc (fun v h₁ => forD P v i (exs P C F b) loc h₁) σ = _
 unfold onX
 rw [e1]
 dsimp only
 unfold forD
 dsimp only
 rw [hk]
 dsimp only
 rw [if_pos hi, e2]
 exact if_pos g
theorem d_inv {C : Calls} {i a : Nat} {e : Ex} {b : Sts} {loc : Loc} {σ : H} {f : Nat → V} {ks : List Nat} {Q : Option V → Loc → H → Prop} (I : Nat → Loc → H → Prop) (he : ev prog C e loc σ = some (.ok (.ref a), σ)) (g : σ.get a = some (.dict (mD f ks))) (ha : prog.nf ≤ a) (h0 : I 0 loc (σ.put a (.lck (mD f ks))))
  (step : ∀ (j : Nat) (l : Loc) (s : H) (k : Nat), ks[j]? = some k → s.get a = some (.lck (mD f ks)) → I j l s → OkS (exs prog C 1000 b (l.upd i (.int (k : Int))) s) (fun r l' s' => r = none ∧ s'.get a = some (.lck (mD f ks)) ∧ I (j + 1) l' s')) (fin : ∀ l s, s.get a = some (.lck (mD f ks)) → I ks.length l s → Q none l (s.put a (.dict (mD f ks)))) : OkS (ex prog C 1000 (.ford i e b) loc σ) Q := by
 refine s_ford ((ok_some he).mpr ⟨a, mD f ks, rfl, getM_of g ha, by rw [mD_keys]; rfl, ?_⟩)
 have g1 : (σ.put a (.lck (mD f ks))).get a = some (.lck (mD f ks)) := put_self g
 have em : (mD f ks).map (·.1) = nV ks := by unfold mD nV; rw [List.map_map]; rfl
 rw [em]
 refine f_inv (fun j l s => s.get a = some (.lck (mD f ks)) ∧ I j l s) ⟨g1, h0⟩ ?_ ?_
 ·rintro j l s y hy ⟨h1, hI⟩
  obtain ⟨hj, rfl⟩ := nV_at hy
  refine oks_mono (step j l s ks[j] (List.getElem?_eq_getElem hj) h1 hI) fun r l' s' ⟨e1, e2, e3⟩ => ⟨e1, still_get (e2.trans g1.symm), e2, e3⟩
 ·rintro l s ⟨h1, hI⟩
  rw [nV_len] at hI
  exact ⟨rfl, h1, fin l s h1 hI⟩
section
variable {N : Ps} {σ σ' : H} {hs : List (Option Nat)} {ks : List Nat} {b : Nat → Nat} {r : Nat → List (Option Nat)} {w : Nat → Nat} {qa : Nat} {q : List Nat} {m : Nat} {d : Nat} {Q : V → H → Prop}
theorem dec2_ok {x da la : Nat} {z : Nat → Int} {LS : List Nat} {lc : Loc} {Q : Option V → Loc → H → Prop} (A : Pl N σ hs ks b r ks w qa q m) (hx : x ∈ ks) (h6 : (r x).length ≤ 6) (g : σ.get da = some (.dict (mD (zF z) LS))) (nd : LS.Nodup) (hl : LS.length ≤ 100) (cl : ∀ k, some k ∈ r x → k ∈ LS) (hda : 7 < da)
  (e75 : lc 75 = some (.ref 2)) (e214 : lc 214 = some (.ref la)) (e215 : lc 215 = some (.ref da)) (e78 : lc 78 = some (.int (x : Int)))
  (h : ∀ l' σ', Kx da da σ σ' → σ.length ≤ σ'.length → σ'.get da = some (.dict (mD (zF (zz z (r x))) LS)) → l' 75 = some (.ref 2) → l' 214 = some (.ref la) → l' 215 = some (.ref da) → Q none l' σ') :
  OkS (exs prog (run prog 1000 (d + 2)) 1000 f__law_pairs_due_4f_1 lc σ) Q := by
 refine oks_step rfl ?_
 rw [s_for]
 simp (disch := decide) only [e75, e78, mx_inst A.p A.d, zX, qt, qu, qB, qC, qD, qE, qG, qH, qI, qJ]
 refine points_ok A hx h6 ?_
 have dl := get_lt g
 have g0 := get_keep (x := .list ((r x).map ov)) g
 have gp : (σ.push (.list ((r x).map ov))).get σ.length = some (.list ((r x).map ov)) := get_push_eq
 have k0 : Kx da da σ (σ.push (.list ((r x).map ov))) := (Kx.refl _ _ _).ext ((Ext.refl _).push _)
 have n0 : σ.length ≤ (σ.push (.list ((r x).map ov))).length := by rw [len_push]; exact Nat.le_succ _
 generalize σ.push (.list ((r x).map ov)) = τ at *
 generalize hpa : σ.length = pa at *
 have hne : pa ≠ da := by lia
 refine ⟨_, it_list gp, f_inv (fun i l s => s.get pa = τ.get pa ∧ Kx da da σ s ∧ pa ≤ s.length ∧ s.get da = some (.dict (mD (zF (zz z ((r x).take i))) LS)) ∧ l 75 = some (.ref 2) ∧ l 214 = some (.ref la) ∧ l 215 = some (.ref da)) ⟨rfl, k0, n0, by rw [List.take_zero, zz_nil]; exact g0, e75, e214, e215⟩ ?_ ?_⟩
 ·rintro i l s y hy ⟨h1, h2, h3, h4, m1, m2, m3⟩
  obtain ⟨hi, hy⟩ := List.getElem?_eq_some_iff.mp hy
  rw [List.length_map] at hi
  rw [List.getElem_map] at hy
  subst hy
  have ht := take_one hi
  refine oks_step rfl ?_
  cases hv : (r x)[i] with
  | none =>
   rw [hv] at ht
   simp (disch := decide) only [ov, ok_isNot, ok_truthb, zb, zc, zq, zs, zG, zT, zX, qb, qc, qF, qG, qH, qI, qL, Nat.reduceBEq, qM, qN, ne_eq, not_true_eq_false, decide_false]
   refine ⟨trivial, still_get h1, h1, h2, h3, ?_, m1, m2, m3⟩
   rw [ht, zz_none]; exact h4
  | some j =>
   rw [hv] at ht
   have hj : j ∈ LS := cl j (by rw [← hv]; exact List.getElem_mem hi)
   have hd : dset (mD (zF (zz z ((r x).take i))) LS) (.int (j : Int)) (.int (zz z ((r x).take i) j - 1)) = mD (zF (zz z ((r x).take (i + 1)))) LS := by rw [mD_set hj nd, zF_upd, ht, zz_some]
   simp (disch := decide) only [ov, ok_isNot, ok_truthb, zq, zr, zG, zT, zX, qb, qc, qF, qG, qH, qI, qL, Nat.reduceBEq, qM, reduceCtorEq, ne_eq, not_false_eq_true, decide_true]
   refine oks_step rfl ?_
   simp (disch := decide) only [m3, ok_getDict h4 rfl (mD_get hj), zF_at, ok_sub, ok_setDict (v := .int (zz z ((r x).take i) j - 1)) h4 (nf_of hda) (show isKey (.int (j : Int)) = true from rfl) (by rw [hd, mD_len]; exact le_lim (by lia)), hd, zb, zc, zf, zl, zm, zn, zo, zV, zX, zY, zZ, qm, qo, qF, qG, qH, qI, qK, qL, Nat.reduceBEq, qM, qN]
   refine ⟨trivial, still_get ?_, ?_, h2.putx _, by rw [len_put]; exact h3, put_self h4, m1, m2, trivial⟩
   ·rw [get_put_ne hne.symm]; exact h1
   ·rw [get_put_ne hne.symm]; exact h1
 ·rintro l s ⟨h1, h2, h3, h4, m1, m2, m3⟩
  rw [List.length_map, List.take_length] at h4
  exact h l s h2 h3 h4 m1 m2 m3
theorem rows2_run {C : Calls} {z : Nat → Int} {LS : List Nat} {da la : Nat} {loc : Loc} {vs₀ : List V} (g : σ.get da = some (.dict (mD (zF z) LS))) (e215 : loc 215 = some (.ref da)) (hi : iterOf (.ref la) σ = some vs₀) : ∀ (l : List Nat) (τ : H), Ext σ τ → (∀ k, k ∈ l → k ∈ LS) → l.Nodup →
  ∃ (τ' : H) (ta : Nat → Nat), compL (.ref la) [78] false (tstAnd prog C .nil) (ev prog C (.tup (.cons (.loc 78) (.cons (.sub (.loc 215) (.loc 78)) .nil)))) loc σ (nV l) τ = some (.ok (l.map fun (k : Nat) => V.ref (ta k)), τ') ∧ Ext τ τ' ∧ ∀ k : Nat, k ∈ l → τ'.get (ta k) = some (.tup [.int (k : Int), .int (z k)])
 | [], τ, _, _, _ => ⟨τ, fun _ => 0, rfl, Ext.refl _, fun k h => nomatch h⟩
 | k :: l, τ, x, hs, nd => by
  have nd := List.nodup_cons.mp nd
  have okt : okO (.tup [.int (k : Int), .int (z k)]) = true := rfl
  have e1 : ev prog C (.tup (.cons (.loc 78) (.cons (.sub (.loc 215) (.loc 78)) .nil))) (loc.upd 78 (.int (k : Int))) τ = some (.ok (.ref τ.length), τ.push (.tup [.int (k : Int), .int (z k)])) := by
   refine ok_eq ?_
   have e2 : (loc.upd 78 (.int (k : Int))) 215 = some (.ref da) := e215
   simp (disch := decide) only [e2, ok_getDict (x _ _ g) rfl (mD_get (hs k (.head _))), zF_at, ok_alloc okt, zX, qh, qi, qm, qo, qB, qC, qD, qE, qF, qG, qH, qI, qJ, qL, Nat.reduceBEq, qM]
   exact ⟨trivial, trivial⟩
  have x1 := x.push (.tup [.int (k : Int), .int (z k)])
  obtain ⟨τ', ta, h1, h2, h3⟩ := rows2_run g e215 hi l _ x1 (fun j hj => hs j (.tail _ hj)) nd.2
  refine ⟨τ', updF ta k τ.length, ?_, ((Ext.refl τ).push _).trans h2, fun j hj => ?_⟩
  ·show compL _ [78] false _ _ loc σ (V.int (k : Int) :: nV l) τ = _
   unfold compL
   have eb : bindTg [78] false (.int (k : Int)) loc τ = some (loc.upd 78 (.int (k : Int))) := rfl
   have et : tstAnd prog C .nil (loc.upd 78 (.int (k : Int))) τ = some (.ok true, τ) := rfl
   rw [eb]
   dsimp only
   rw [et]
   dsimp only
   rw [e1]
   dsimp only
   rw [if_pos (x1.still hi), h1]
   dsimp only
   rw [List.map_cons, uF_is]
   congr 4
   exact List.map_congr_left fun j hj => by rw [uF_ne fun e => nd.1 (by rw [← e]; exact hj)]
  ·by_cases e : j = k
   ·subst e; rw [uF_is]; exact h2 _ _ get_push_eq
   ·rw [uF_ne e]; exact h3 j ((List.mem_cons.mp hj).resolve_left e)
end
end Mine.Internal.L09
set_option autoImplicit false
namespace Mine.Internal.L09
open Mine.Internal Mine.Internal.Bx
open PySem (Str PyData)
theorem nV_ov {l : List Nat} : nV l = (l.map some).map ov := by unfold nV; rw [List.map_map]; rfl
theorem rch_iff {ks : List Nat} {r : Nat → List (Option Nat)} {S T : Nat → Prop} (h : ∀ k, S k ↔ T k) {n : Nat} : Rch ks r S n ↔ Rch ks r T n := by
 have key : ∀ {S T : Nat → Prop}, (∀ k, S k → T k) → ∀ {n}, Rch ks r S n → Rch ks r T n := fun h n R => by
  induction R with
  | src h1 h2 => exact .src (h _ h1) h2
  | step _ h1 h2 ih => exact .step ih h1 h2
 exact ⟨key fun k => (h k).mp, key fun k => (h k).mpr⟩
section
variable {N : Ps} {σ σ' : H} {hs : List (Option Nat)} {ks : List Nat} {b : Nat → Nat} {r : Nat → List (Option Nat)} {w : Nat → Nat} {qa : Nat} {q : List Nat} {m : Nat} {d : Nat} {Q : V → H → Prop}
theorem due_ok (A : Pl N σ hs ks b r ks w qa q m) (I : G hs ks r w q m []) (hm : m ≤ 99) (h60 : ks.length ≤ 60)
  (h : ∀ (L : List Nat) (ta : Nat → Nat) (ra : Nat) (σ' : H), Ext σ σ' → L.Pairwise (· ≤ ·) → L.Nodup → (∀ k, k ∈ L ↔ Rch ks r (· ∈ q) k) → σ'.get ra = some (.list (L.map fun (k : Nat) => V.ref (ta k))) → (∀ k : Nat, k ∈ L → σ'.get (ta k) = some (.tup [.int (k : Int), .int ((w k : Int) - ((ins L r (some k) : Nat) : Int))])) → Q (.ref ra) σ') : Ok (run prog 1000 (d + 4) false 213 [.ref 2]) σ Q := by
 rw [ok_run (fd := f__law_pairs_due) rfl rfl]
 unfold f__law_pairs_due
 have kl := klen_of I
 have q60 : q.length ≤ 60 := Nat.le_trans (nd_len I.qn I.qs) h60
 have big := A.big
 have n7 := A.n7
 refine oks_step rfl ?_
 simp (disch := decide) only [mx_inst A.p A.d, zg, zX, qr, qt, qu, qB, qC, qD, qF, qG, qI, qJ, List.zip_cons_cons, List.zip_nil_right, List.foldl_cons, List.foldl_nil, qL, Nat.reduceBEq, qM]
 refine suspects_ok A (by lia) ?_
 rw [sortN_v, nV_ov]
 simp (disch := decide) only [qB, qD, qE, qG, qH, qJ]
 have x0 : Ext σ (σ.push (.list (((sortN q).map some).map ov))) := (Ext.refl _).push _
 have ms : ∀ k, some k ∈ (sortN q).map some ↔ k ∈ q := fun k => by rw [List.mem_map]; exact ⟨fun ⟨j, hj, e⟩ => by cases e; exact sortN_mem.mp hj, fun hk => ⟨k, sortN_mem.mpr hk, rfl⟩⟩
 refine clos_ok (d := d) (A.ex x0) I hm get_push_eq (fun k hk => I.qs k ((ms k).mp hk)) fun rl ma σ1 x1 hma ndr hr gma => ?_
 have y1 := x0.trans x1
 have hma : σ.length ≤ ma := Nat.le_trans (ext_len x0) hma
 have hr : ∀ k, k ∈ rl ↔ Rch ks r (· ∈ q) k := fun k => (hr k).trans (rch_iff ms)
 have rk : ∀ k, k ∈ rl → k ∈ ks := fun k hk => ((hr k).mp hk).mem
 have rl60 := nd_len ndr rk
 simp (disch := decide) only [zh]
 refine then_step rfl ?_
 simp (disch := decide) only [ok_alloc (o := .dict []) rfl, zg, zh, qj]
 have x2 : Ext σ (σ1.push (.dict [])) := y1.push _
 have gm2 := get_keep (x := .dict []) gma
 have gd2 : (σ1.push (.dict [])).get σ1.length = some (.dict (mD (zF fun k => (w k : Int)) [])) := get_push_eq
 have hlt := get_lt gma
 have ly1 := ext_len y1
 generalize σ1.push (.dict []) = σ2 at *
 generalize hda : σ1.length = da at *
 have hne : ma ≠ da := by lia
 have nfm : prog.nf ≤ ma := nf_of (by lia)
 have k2 : ∀ o, Kx ma da σ (σ2.put ma o) := fun o => Kx.putx (fun a o _ _ g => x2 a o g) o
 refine then_step rfl ?_
 refine d_inv (a := ma) (f := tF) (ks := rl) (fun j l s => (Kx ma da σ s ∧ σ.length ≤ s.length ∧ s.get da = some (.dict (mD (zF fun k => (w k : Int)) (rl.take j)))) ∧ l 75 = some (.ref 2) ∧ l 214 = some (.ref ma) ∧ l 215 = some (.ref da)) (by rfl) gm2 nfm ⟨⟨k2 _, by rw [len_put]; exact ext_len x2, (get_put_ne hne).trans gd2⟩, rfl, rfl, rfl⟩ ?_ ?_
 ·rintro j l s k hk h1 ⟨⟨kx, len, gd⟩, m1, m2, m3⟩
  have hkm := List.mem_of_getElem? hk
  have hkk := rk k hkm
  have A1 := A.kx kx hma (by lia) len
  obtain ⟨hj, hjk⟩ := List.getElem?_eq_some_iff.mp hk
  have ht : rl.take (j + 1) = rl.take j ++ [k] := by rw [take_one hj, hjk]
  have hnm : k ∉ rl.take j := fun hm => by
   have n2 := ndr
   rw [← List.take_append_drop j rl] at n2
   refine (List.nodup_append.mp n2).2.2 k hm k ?_ rfl
   rw [List.drop_eq_getElem_cons hj, hjk]; exact .head _
  have hd : dset (mD (zF fun k => (w k : Int)) (rl.take j)) (.int (k : Int)) (.int (w k : Int)) = mD (zF fun k => (w k : Int)) (rl.take (j + 1)) := by
   rw [mD_add hnm, zF_upd, ht]
   congr 1
   congr 1
   funext i
   by_cases e : i = k
   ·subst e; rw [uF_is]
   ·rw [uF_ne e]
  refine oks_step rfl ?_
  simp (disch := decide) only [m1, mx_inst A1.p A1.d, zl, zX, qt, qu, qB, qC, qD, qE, qG, qH, qI, qJ, qL, Nat.reduceBEq, qM, qN]
  refine weighs_ok A1 hkk hkk ?_
  simp (disch := decide) only [m3, ok_setDict (v := .int (w k : Int)) gd (nf_of (by lia)) (show isKey (.int (k : Int)) = true from rfl) (by rw [hd, mD_len, List.length_take]; exact le_lim (by lia)), hd, m1, m2, zb, zc, zf, zm, zn, zo, zX, qK, qL, Nat.reduceBEq, qM, qN]
  exact ⟨trivial, (get_put_ne (Ne.symm hne)).trans h1, ⟨kx.puty _, by rw [len_put]; exact len, put_self gd⟩, trivial, trivial, trivial⟩
 ·rintro l s h1 ⟨⟨kx, len, gd⟩, m1, m2, m3⟩
  rw [List.take_length] at gd
  have gm3 : (s.put ma (.dict (mD tF rl))).get ma = some (.dict (mD tF rl)) := put_self h1
  have gd3 : (s.put ma (.dict (mD tF rl))).get da = some (.dict (mD (zF fun k => (w k : Int)) rl)) := (get_put_ne hne).trans gd
  have kx3 := kx.putx (.dict (mD tF rl))
  have len3 : σ.length ≤ (s.put ma (.dict (mD tF rl))).length := by rw [len_put]; exact len
  generalize s.put ma (.dict (mD tF rl)) = s3 at *
  refine then_step rfl ?_
  refine d_inv (a := ma) (f := tF) (ks := rl) (fun j l s => (Kx ma da σ s ∧ σ.length ≤ s.length ∧ s.get da = some (.dict (mD (zF (zz (fun k => (w k : Int)) ((rl.take j).flatMap r))) rl))) ∧ l 75 = some (.ref 2) ∧ l 214 = some (.ref ma) ∧ l 215 = some (.ref da)) (ok_eq (by simp (disch := decide) only [m2, zX, qK]; exact ⟨trivial, trivial⟩)) gm3 nfm ⟨⟨kx3.putx _, by rw [len_put]; exact len3, (get_put_ne hne).trans (by rw [List.take_zero, List.flatMap_nil, zz_nil]; exact gd3)⟩, m1, m2, m3⟩ ?_ ?_
  ·rintro j l s k hk h1 ⟨⟨kx, len, gd⟩, m1, m2, m3⟩
   have hkm := List.mem_of_getElem? hk
   have hkk := rk k hkm
   have A1 := A.kx kx hma (by lia) len
   obtain ⟨hj, hjk⟩ := List.getElem?_eq_some_iff.mp hk
   refine dec2_ok (la := ma) A1 hkk (I.rl k hkk) gd ndr (by lia) (fun i hi => (hr i).mpr (.step ((hr k).mp hkm) hi (I.inR hkk hi))) (by lia) ((upd_no (by decide)).trans m1) ((upd_no (by decide)).trans m2) ((upd_no (by decide)).trans m3) upd_at fun l' s' k' len' gd' e1 e2 e3 => ?_
   refine ⟨rfl, k' _ _ hne hne h1, ⟨fun a o h1 h2 g => k' a o h2 h2 (kx a o h1 h2 g), Nat.le_trans len len', ?_⟩, e1, e2, e3⟩
   rw [gd', zz_app, take_one hj, hjk, List.flatMap_append, List.flatMap_cons, List.flatMap_nil, List.append_nil]
  ·rintro l s h1 ⟨⟨kx, len, gd⟩, m1, m2, m3⟩
   rw [List.take_length] at gd
   have gd4 : (s.put ma (.dict (mD tF rl))).get da = some (.dict (mD (zF (zz (fun k => (w k : Int)) (rl.flatMap r))) rl)) := (get_put_ne hne).trans gd
   have kx4 := kx.putx (.dict (mD tF rl))
   have len4 : σ.length ≤ (s.put ma (.dict (mD tF rl))).length := by rw [len_put]; exact len
   generalize s.put ma (.dict (mD tF rl)) = s4 at *
   refine then_step rfl ?_
   have gs : (rl.map Int.ofNat).length < 64 := by rw [List.length_map]; lia
   simp (disch := decide) only [m3, ok_sortedD gd4 mD_keys gs, sortN_v, zt, zX, qw, qA, qB, qC, qD, qE, qF, qG, qH, qI]
   have x5 : Ext s4 (s4.push (.list (nV (sortN rl)))) := (Ext.refl _).push _
   have g5 : (s4.push (.list (nV (sortN rl)))).get s4.length = some (.list (nV (sortN rl))) := get_push_eq
   generalize s4.push (.list (nV (sortN rl))) = s5 at *
   generalize s4.length = la at *
   obtain ⟨s6, ta, e6, x6, h6⟩ := rows2_run (C := run prog 1000 (d + 3)) (loc := l) (x5 _ _ gd4) m3 (it_list g5) (sortN rl) s5 (Ext.refl _) (fun k hk => sortN_mem.mp hk) (sortN_perm.nodup_iff.mpr ndr)
   rw [show compX [78] false (tstAnd prog (run prog 1000 (d + 3)) .nil) (ev prog (run prog 1000 (d + 3)) (.tup (.cons (.loc 78) (.cons (.sub (.loc 215) (.loc 78)) .nil)))) l (.ref la) = compX [78] false (tstAnd prog (run prog 1000 (d + 3)) .nil) (ev prog (run prog 1000 (d + 3)) (.tup (.cons (.loc 78) (.cons (.sub (.loc 215) (.loc 78)) .nil)))) l (.ref la) from rfl]
   refine (ok_some (a := .ref s6.length) (σ' := s6.push (.list ((sortN rl).map fun (k : Nat) => V.ref (ta k)))) ?_).mpr ?_
   ·unfold compX
    rw [it_list g5]
    dsimp only
    unfold X.bind
    rw [e6]
    dsimp only
    unfold alloc
    rw [if_pos (show okO (.list ((sortN rl).map fun (k : Nat) => V.ref (ta k))) = true from decide_eq_true (le_lim (by rw [List.length_map, sortN_len]; lia)))]
   ·simp (disch := decide) only [zd, zu, zw]
    have xe : Ext σ s6 := fun a o g => x6 a o (x5 a o (kx4 a o (Nat.ne_of_lt (Nat.lt_of_lt_of_le (get_lt g) hma)) (Nat.ne_of_lt (Nat.lt_of_lt_of_le (get_lt g) (by lia))) g))
    refine h (sortN rl) ta _ _ (xe.push _) so_sort (sortN_perm.nodup_iff.mpr ndr) (fun k => sortN_mem.trans (hr k)) get_push_eq fun k hk => get_keep ?_
    rw [h6 k hk]
    unfold zz ins
    rw [(sortN_perm.flatMap_right r).count_eq]
end
end Mine.Internal.L09
set_option autoImplicit false
namespace Mine.Internal.L09
open Mine.Internal Mine.Internal.Bx
open PySem (Str PyData)
theorem isi_tup {P : Prog} {σ : H} {a : Nat} {xs : List V} (h : σ.get a = some (.tup xs)) : isinsts P (.ref a) [3] σ = some (.ok true, σ) := by
 show (if 3 ≤ 4 then isinst P (.ref a) 3 else X.none) σ = _
 rw [if_pos (by decide)]
 unfold isinst; simp [h, idTuple]
theorem ok_listT {σ : H} {a : Nat} {xs : List V} {Q : V → H → Prop} (h1 : σ.get a = some (.tup xs)) (hl : xs.length ≤ lim) : Ok (builtin .list [.ref a]) σ Q = Q (.ref σ.length) (σ.push (.list xs)) := ok_some (by
 show biList (.ref a) σ = _; simp only [biList, onRef, h1]; unfold alloc; rw [if_pos (by simpa [okO] using hl)])
structure Pr (σ : H) (a : Nat) (L : List Nat) (z : Nat → Int) (ta : Nat → Nat) : Prop where
 g : σ.get a = some (.list (L.map fun (k : Nat) => V.ref (ta k)))
 t : ∀ k : Nat, k ∈ L → σ.get (ta k) = some (.tup [.int (k : Int), .int (z k)])
theorem Pr.ext {σ σ' : H} {a : Nat} {L : List Nat} {z : Nat → Int} {ta : Nat → Nat} (P : Pr σ a L z ta) (x : Ext σ σ') : Pr σ' a L z ta := ⟨x _ _ P.g, fun k hk => x _ _ (P.t k hk)⟩
section
variable {N : Ps} {σ σ' : H} {hs : List (Option Nat)} {ks : List Nat} {b : Nat → Nat} {r : Nat → List (Option Nat)} {w : Nat → Nat} {qa : Nat} {q : List Nat} {m : Nat} {d : Nat} {Q : V → H → Prop}
theorem pairs_ok {a c : Nat} {L : List Nat} {z : Nat → Int} {ta tc : Nat → Nat} (A : Pr σ a L z ta) (B : Pr σ c L z tc) (hl : L.length ≤ 100) (h : ∀ τ, Ext σ τ → Q (.bool true) τ) : Ok (run prog 1000 (d + 3) false 216 [.ref a, .ref c]) σ Q := by
 rw [ok_run (fd := f__law_pairs) rfl rfl]
 unfold f__law_pairs
 refine oks_step rfl ?_
 simp (disch := decide) only [ok_isi (isi_list A.g), ok_truthb, ok_lenL A.g, ok_lenL B.g, List.length_map, ok_neI, zb, zq, zs, zA, zC, zG, zJ, zK, zQ, zR, zS, zX, z0, qb, qc, qw, qx, qy, qz, qB, qC, qD, qE, qF, qG, qH, qI, qJ, List.zip_cons_cons, List.zip_nil_right, List.foldl_cons, List.foldl_nil, qL, Nat.reduceBEq, qM, qN, decide_true, Bool.not_true]
 refine then_step rfl ?_
 rw [s_for]
 simp (disch := decide) only [ok_lenL B.g, List.length_map, ok_range1, zy, zX, qw, qB, qC, qD, qE, qF, qG, qH, qI, qJ, qL, Nat.reduceBEq, qM, qN]
 have x1 : Ext σ (σ.push (.rng 0 ((L.length : Nat) : Int) 1)) := (Ext.refl _).push _
 have g1 : (σ.push (.rng 0 ((L.length : Nat) : Int) 1)).get σ.length = some (.rng 0 ((L.length : Nat) : Int) 1) := get_push_eq
 generalize σ.push (.rng 0 ((L.length : Nat) : Int) 1) = σ1 at *
 refine ⟨_, it_range g1 (Int.natCast_nonneg _) (by lia), f_inv (fun j l s => Ext σ1 s ∧ l 67 = some (.ref a) ∧ l 73 = some (.ref c)) ⟨Ext.refl _, rfl, rfl⟩ ?_ ?_⟩
 ·rintro j l s y hy ⟨xs, m1, m2⟩
  obtain ⟨hj, rfl⟩ := rng_at hy
  have hj : j < L.length := by lia
  have ys := x1.trans xs
  have at_ : ∀ f : Nat → Nat, (L.map fun (k : Nat) => V.ref (f k))[((j : Int)).toNat]? = some (.ref (f L[j])) := fun f => by rw [Int.toNat_natCast, List.getElem?_map, List.getElem?_eq_getElem hj]; rfl
  have hm := List.getElem_mem hj
  have A1 := A.ext ys
  have B1 := B.ext ys
  have e71 : (l.upd 71 (.int (j : Int))) 71 = some (.int (j : Int)) := upd_at
  have f1 : (l.upd 71 (.int (j : Int))) 67 = some (.ref a) := (upd_no (by decide)).trans m1
  have f2 : (l.upd 71 (.int (j : Int))) 73 = some (.ref c) := (upd_no (by decide)).trans m2
  generalize l.upd 71 (.int (j : Int)) = l1 at *
  have t1 := A1.t _ hm
  have t2 := B1.t _ hm
  refine oks_step rfl ?_
  simp (disch := decide) only [f1, e71, ok_getList A1.g (Int.natCast_nonneg _) (at_ ta), ok_isi (isi_tup t1), ok_truthb, ok_listT t1 (by show 2 ≤ lim; decide), zq, zA, zC, zI, zJ, zK, zR, zS, zX, z0, qm, qo, qr, qw, qx, qy, qz, qB, qC, qD, qE, qF, qG, qH, qI, qJ]
  have x2 : Ext s (s.push (.list [V.int ((L[j] : Nat) : Int), V.int (z L[j])])) := (Ext.refl _).push _
  have g2 : (s.push (.list [V.int ((L[j] : Nat) : Int), V.int (z L[j])])).get s.length = some (.list [V.int ((L[j] : Nat) : Int), V.int (z L[j])]) := get_push_eq
  generalize s.push (.list [V.int ((L[j] : Nat) : Int), V.int (z L[j])]) = s2 at *
  have B2 := B1.ext x2
  simp (disch := decide) only [f2, e71, ok_getList B2.g (Int.natCast_nonneg _) (at_ tc), ok_listT (B2.t _ hm) (by show 2 ≤ lim; decide), zX, qo, qB, qD, qE, qG, qH, qI, qJ, qK]
  have x3 := x2.push (.list [V.int ((L[j] : Nat) : Int), V.int (z L[j])])
  refine numbers_ok hL (get_keep g2) get_push_eq (fun x hx => .inr ?_) (show 2 ≤ 1000 by decide) ?_
  ·rcases List.mem_cons.mp hx with rfl | hx
   ·exact ⟨_, rfl⟩
   ·rw [List.mem_singleton.mp hx]; exact ⟨_, rfl⟩
  ·simp (disch := decide) only [ok_truthb, zb, zc, zs, zK, zQ, zS, qG, qJ]
   have x4 := xs.trans (x3.push (.rng 0 ([V.int ((L[j] : Nat) : Int), V.int (z L[j])].length : Int) 1))
   exact ⟨trivial, x4.still (it_range g1 (Int.natCast_nonneg _) (by lia)), x4, f1, f2⟩
 ·rintro l s ⟨xs, _⟩
  refine then_step rfl ?_
  simp (disch := decide) only [zd, zt, zu, zw, zU, qJ]
  exact h _ (x1.trans xs)
noncomputable def isW (v : V) : Bool := decide (v ≠ .none)
theorem held_nV : ∀ {l : List (Option Nat)}, ((l.map ov).filter isW).map id = nV (ptr l)
 | [] => rfl
 | none :: l => held_nV (l := l)
 | some k :: l => by
  show V.int (k : Int) :: ((l.map ov).filter isW).map id = V.int (k : Int) :: nV (ptr l)
  rw [held_nV]
theorem comp_hands2 {loc : Loc} {a : Nat} {Q : V → H → Prop} (A : Pl N σ hs ks b r ks w qa q m) (hl : hs.length = 8) (h : σ.get a = some (.rng 0 8 1)) (h100 : loc 100 = some (.ref 2)) :
  Ok (compX [52] false (tstAnd prog (run prog 1000 (d + 2)) .nil) (ev prog (run prog 1000 (d + 2)) (.meth (.loc 100) 41 (.cons (.loc 52) .nil))) loc (.ref a)) σ Q = Q (.ref σ.length) (σ.push (.list (hs.map ov))) := by
 rw [c_pure (fun _ => true) (hv hs) (it_range h (by decide) (by decide)) (fun y hy => rfl) (fun y hy _ => ?_) (by rw [hv_all hl, List.length_map, hl]; decide), hv_all hl]
 obtain ⟨k, hk, rfl⟩ := List.mem_map.mp hy
 have hk : k < 8 := List.mem_range.mp hk
 refine ok_eq ?_
 have e1 : (loc.upd 52 (.int (k : Int))) 100 = some (.ref 2) := h100
 rw [qt]
 simp (disch := decide) only [e1, mx_inst A.p A.d, zX, qu, qB, qC, qD, qE, qG, qH, qI, qJ, qL, Nat.reduceBEq, qM]
 exact holds_ok A hl hk ⟨by simp [hv], rfl⟩
theorem come_ok (A : Pl N σ hs ks b r ks w qa q m) (I : G hs ks r w q m []) (hm : m ≤ 99) (h60 : ks.length ≤ 60) (h : ∀ L σ', Ext σ σ' → L.Nodup → (∀ k, k ∈ L ↔ Rch ks r (fun k => some k ∈ hs) k) → Q (.ref σ'.length) (σ'.push (.list (nV (sortN L))))) : Ok (run prog 1000 (d + 4) false 212 [.ref 2]) σ Q := by
 rw [ok_run (fd := f_come_to) rfl rfl]
 unfold f_come_to
 refine oks_step rfl ?_
 simp (disch := decide) only [eg21, ok_range1, zg, qw, qA, qB, qC, qD, qE, qF, qG, qH, List.zip_cons_cons, List.zip_nil_right, List.foldl_cons, List.foldl_nil]
 have x1 : Ext σ (σ.push (.rng 0 8 1)) := (Ext.refl _).push _
 have g1 : (σ.push (.rng 0 8 1)).get σ.length = some (.rng 0 8 1) := get_push_eq
 generalize σ.push (.rng 0 8 1) = σ1 at *
 rw [comp_hands2 (d := d + 1) (A.ex x1) I.hl g1 rfl]
 have x2 := x1.push (.list (hs.map ov))
 have g2 : (σ1.push (.list (hs.map ov))).get σ1.length = some (.list (hs.map ov)) := get_push_eq
 generalize σ1.push (.list (hs.map ov)) = σ2 at *
 generalize σ1.length = ha at *
 simp (disch := decide) only [zh]
 refine then_step rfl ?_
 have hpl := ptr_len (l := hs)
 rw [I.hl] at hpl
 simp (disch := decide) only [zt, zX, qr, qA, qC, qD, qF, qI, qL, Nat.reduceBEq, qM, qN]
 rw [c_pure (vs := hs.map ov) isW id (it_list g2) (fun y _ => ok_eq ?_) (fun y _ _ => rfl) (by rw [held_nV, nV_len]; exact le_lim (by lia)), held_nV]
 ·simp (disch := decide) only [qB, qD, qE, qG, qH, qJ]
  have x3 := x2.push (.list (nV (ptr hs)))
  refine reached_ok (d := d) (A.ex x3) I hm get_push_eq (fun k hk => I.inH (ptr_mem.mp hk)) (by lia) h60 fun L τ xt nd hL => ?_
  simp (disch := decide) only [zd, zu, zw]
  exact h L τ (x3.trans xt) nd fun k => (hL k).trans (rch_iff fun k => ptr_mem)
 ·simp (disch := decide) only [ok_isNot, ok_truthb, zG, zN, zT, zX, qb, qc, qF, qG, qH, qI, qL, Nat.reduceBEq, qM, qN, ne_eq]
  cases y <;> exact ⟨rfl, rfl⟩
end
end Mine.Internal.L09
set_option autoImplicit false
namespace Mine.Internal.L09
open Mine.Internal Mine.Internal.Bx
open PySem (Str PyData)
theorem same_row : ∀ {l l' : List Nat}, l.Pairwise (· ≤ ·) → l'.Pairwise (· ≤ ·) → l.Nodup → l'.Nodup → (∀ k, k ∈ l ↔ k ∈ l') → l = l'
 | [], [], _, _, _, _, _ => rfl
 | [], b :: l', _, _, _, _, h => nomatch (h b).mpr (.head _)
 | a :: l, [], _, _, _, _, h => nomatch (h a).mp (.head _)
 | a :: l, b :: l', s, s', n, n', h => by
  have s := List.pairwise_cons.mp s
  have s' := List.pairwise_cons.mp s'
  have n := List.nodup_cons.mp n
  have n' := List.nodup_cons.mp n'
  have e : a = b := by
   rcases List.mem_cons.mp ((h a).mp (.head _)) with e | h1
   ·exact e
   ·rcases List.mem_cons.mp ((h b).mpr (.head _)) with e | h2
    ·exact e.symm
    ·exact Nat.le_antisymm (s.1 b h2) (s'.1 a h1)
  subst e
  rw [same_row s.2 s'.2 n.2 n'.2 fun k => ⟨fun hk => ?_, fun hk => ?_⟩]
  ·exact (List.mem_cons.mp ((h k).mp (.tail _ hk))).resolve_left fun e => n.1 (e ▸ hk)
  ·exact (List.mem_cons.mp ((h k).mpr (.tail _ hk))).resolve_left fun e => n'.1 (e ▸ hk)
theorem same_sort {l l' : List Nat} (n : l.Nodup) (n' : l'.Nodup) (h : ∀ k, k ∈ l ↔ k ∈ l') : sortN l = sortN l' :=
 same_row so_sort so_sort (sortN_perm.nodup_iff.mpr n) (sortN_perm.nodup_iff.mpr n') fun k => sortN_mem.trans ((h k).trans sortN_mem.symm)
theorem ints_nV {l : List Nat} : ∀ x ∈ nV l, x = V.none ∨ ∃ i, x = V.int i := fun x hx => by
 obtain ⟨k, _, rfl⟩ := List.mem_map.mp hx
 exact .inr ⟨_, rfl⟩
theorem ok_truthL {σ : H} {a : Nat} {xs : List V} {Q : Bool → H → Prop} (h : σ.get a = some (.list xs)) : Ok (truth (.ref a)) σ Q = Q (!xs.isEmpty) σ := ok_some (by unfold truth; simp [h])
section
variable {N : Ps} {σ σ' : H} {hs : List (Option Nat)} {ks : List Nat} {b : Nat → Nat} {r : Nat → List (Option Nat)} {w : Nat → Nat} {qa : Nat} {q : List Nat} {m : Nat} {d : Nat} {Q : V → H → Prop}
noncomputable def zD (w : Nat → Nat) (r : Nat → List (Option Nat)) (L : List Nat) : Nat → Int := fun k => (w k : Int) - ((ins L r (some k) : Nat) : Int)
theorem trials_pr (A : Pl N σ hs ks b r ks w qa q m) (I : G hs ks r w q m []) (hm : m ≤ 99) (h60 : ks.length ≤ 60) {L0 : List Nat} (s0 : L0.Pairwise (· ≤ ·)) (n0 : L0.Nodup) (m0 : ∀ k, k ∈ L0 ↔ Rch ks r (· ∈ q) k) (h : ∀ ta ra σ', Ext σ σ' → σ.length ≤ ra → Pr σ' ra L0 (zD w r L0) ta → Q (.ref ra) σ') : Ok (run prog 1000 (d + 4) false 103 [.ref 2]) σ Q := by
 refine trials_ok A I hm h60 fun L ta ra σ' x hra sL nL mL g t => ?_
 have e : L = L0 := same_row sL s0 nL n0 fun k => (mL k).trans (m0 k).symm
 subst e
 exact h ta ra σ' x hra ⟨g, t⟩
end
end Mine.Internal.L09
set_option autoImplicit false
namespace Mine.Internal.L09
open Mine.Internal Mine.Internal.Bx
open PySem (Str PyData)
theorem ok_mul {σ : H} {a b : Int} {Q : V → H → Prop} (h : small a = true) : Ok (binop .Mult (.int a) (.int b)) σ Q = Q (.int (a * b)) σ := ok_some (by simp [binop, twoInts, onInt, h])
noncomputable def stI (one oth : Int) (n : Nat) (k : Nat) : Nat := ((one + (k : Int) * oth).fmod (n : Int)).toNat
theorem stI_lt {one oth : Int} {n k : Nat} (h : 0 < n) : stI one oth n k < n ∧ ((stI one oth n k : Nat) : Int) = (one + (k : Int) * oth).fmod (n : Int) := by
 obtain ⟨h1, h2⟩ := fmod_range (a := one + (k : Int) * oth) (b := (n : Int)) (by lia)
 unfold stI
 exact ⟨by lia, by lia⟩
noncomputable def stL (L : List Nat) (one oth : Int) (n : Nat) : List Nat := (List.range n).map fun k => ((L[stI one oth L.length k]?).getD 0)
noncomputable def stV (L : List Nat) (one oth : Int) : V → V
 | .int i => .int ((((L[stI one oth L.length i.toNat]?).getD 0 : Nat)) : Int)
 | _ => .none
theorem st_all {L : List Nat} {one oth : Int} {n : Nat} : ((((List.range ((n : Int)).toNat).map fun (k : Nat) => V.int (k : Int)).filter fun _ => true).map (stV L one oth)) = nV (stL L one oth n) := by
 rw [List.filter_eq_self.mpr (fun _ _ => rfl), List.map_map]
 unfold nV stL
 rw [List.map_map]; rfl
theorem st_mem {L : List Nat} {one oth : Int} {n : Nat} (h : 0 < L.length) {k : Nat} (hk : k ∈ stL L one oth n) : k ∈ L := by
 obtain ⟨j, _, rfl⟩ := List.mem_map.mp hk
 rw [List.getElem?_eq_getElem (stI_lt h).1]
 exact List.getElem_mem _
theorem starts_ok {C : Calls} {σ : H} {lc : Loc} {L : List Nat} {va ga n : Nat} {one oth : Int} {Q : V → H → Prop} (gv : σ.get va = some (.list (nV L))) (g : σ.get ga = some (.rng 0 (n : Int) 1)) (hn : n ≤ 7) (hL : 0 < L.length) (e149 : lc 149 = some (.ref va)) (e83 : lc 83 = some (.int one)) (e92 : lc 92 = some (.int oth)) :
  Ok (compX [71] false (tstAnd prog C .nil) (ev prog C (.sub (.loc 149) (.bin .Mod (.bin .Add (.loc 83) (.bin .Mult (.loc 71) (.loc 92))) (.bi .len (.cons (.loc 149) .nil))))) lc (.ref ga)) σ Q = Q (.ref σ.length) (σ.push (.list (nV (stL L one oth n)))) := by
 rw [c_pure (fun _ => true) (stV L one oth) (it_range g (Int.natCast_nonneg _) (by lia)) (fun y hy => rfl) (fun y hy _ => ?_) (by rw [st_all, nV_len]; unfold stL; rw [List.length_map, List.length_range]; exact le_lim (by lia)), st_all]
 obtain ⟨k, hk, rfl⟩ := List.mem_map.mp hy
 have hk : k < n := by have := List.mem_range.mp hk; rwa [Int.toNat_natCast] at this
 obtain ⟨h1, h2⟩ := stI_lt (one := one) (oth := oth) (k := k) hL
 have f149 : (lc.upd 71 (.int (k : Int))) 149 = some (.ref va) := (upd_no (by decide)).trans e149
 have f83 : (lc.upd 71 (.int (k : Int))) 83 = some (.int one) := (upd_no (by decide)).trans e83
 have f92 : (lc.upd 71 (.int (k : Int))) 92 = some (.int oth) := (upd_no (by decide)).trans e92
 have f71 : (lc.upd 71 (.int (k : Int))) 71 = some (.int (k : Int)) := upd_at
 generalize lc.upd 71 (.int (k : Int)) = l1 at *
 have sk : small ((k : Nat) : Int) = true := by unfold small; rw [decide_eq_true_iff]; show k < _; exact Nat.lt_of_lt_of_le hk (Nat.le_trans hn (by decide))
 have hat : (nV L)[(((stI one oth L.length k : Nat)) : Int).toNat]? = some (.int ((((L[stI one oth L.length k]?).getD 0 : Nat)) : Int)) := by
  unfold nV
  rw [Int.toNat_natCast, List.getElem?_map, List.getElem?_eq_getElem h1]; rfl
 refine ok_eq ?_
 simp (disch := decide) only [f149, f83, f92, f71, ok_mul sk, ok_add, ok_lenL gv, nV_len, ok_mod (show ((L.length : Nat) : Int) ≠ 0 by lia), ← h2, ok_getList gv (Int.natCast_nonneg _) hat, zX, zY, zZ, qm, qo, qw, qB, qC, qD, qE, qF, qG, qH, qI]
 exact ⟨rfl, trivial⟩
end Mine.Internal.L09
set_option autoImplicit false
namespace Mine.Internal.L09
open Mine.Internal Mine.Internal.Bx
open PySem (Str PyData)
section
variable {σ σ' : H}
noncomputable def dN (l : List Nat) : PyData := .list (l.map fun (k : Nat) => .int (k : Int))
theorem data_nV {n : Nat} : ∀ {l : List Nat}, optAll (dataOf σ (n + 1)) (nV l) = some (l.map fun (k : Nat) => .int (k : Int))
 | [] => rfl
 | k :: l => by
  have ih := data_nV (n := n) (l := l)
  unfold nV at ih ⊢
  rw [List.map_cons]; unfold optAll; rw [ih]; rfl
theorem data_list {n a : Nat} {l : List Nat} (g : σ.get a = some (.list (nV l))) : dataOf σ (n + 2) (.ref a) = some (dN l) := by
 unfold dataOf
 simp only [g, data_nV]
 rfl
theorem lay_nV : ∀ l : List Nat, PyData.canLayAll0 (l.map fun (k : Nat) => .int (k : Int)) = true
 | [] => rfl
 | k :: l => by rw [List.map_cons]; unfold PyData.canLayAll0; rw [lay_nV l]; rfl
theorem ne_same {x y : V} {D : PyData} {Q : V → H → Prop} (h1 : dataOf σ 5 x = some D) (h2 : dataOf σ 5 y = some D) (h : D.canLay0 = true) : Ok (cmpop prog .NotEq x y) σ Q = Q (.bool false) σ := ok_some (by
 show (deq σ x y).map _ = _
 unfold deq
 rw [h1, h2]
 dsimp only
 rw [PySem.SeqAt.eqv_refl _ h]; rfl)
theorem ne_copy {a c : Nat} {l : List Nat} {Q : V → H → Prop} (g : σ.get a = some (.list (nV l))) (g' : σ.get c = some (.list (nV l))) : Ok (cmpop prog .NotEq (.ref a) (.ref c)) σ Q = Q (.bool false) σ := ne_same (data_list g) (data_list g') (lay_nV l)
theorem ok_clear {a : Nat} {xs : List V} {Q : V → H → Prop} (h1 : σ.get a = some (.list xs)) (ha : prog.nf ≤ a) : Ok (listMeth prog (.ref a) 8 []) σ Q = Q .none (σ.put a (.list [])) :=
 ok_some (by
  have := getM_of h1 ha
  unfold listMeth; simp [this, idAppend, idPop, idClear])
end
theorem ext_put {σ τ : H} (x : Ext σ τ) {a : Nat} (h : σ.length ≤ a) (o : O) : Ext σ (τ.put a o) := fun c p g => (get_put_ne (Nat.ne_of_gt (Nat.lt_of_lt_of_le (get_lt g) h))).trans (x c p g)
theorem hLP : LawP prog := ⟨rfl, rfl, rfl⟩
section
variable {N : Ps} {σ σ' : H} {hs : List (Option Nat)} {ks : List Nat} {b : Nat → Nat} {r : Nat → List (Option Nat)} {w : Nat → Nat} {qa : Nat} {q : List Nat} {m : Nat} {d : Nat} {Q : V → H → Prop}
theorem two_rows {ns : List Nat} {a c : Nat} (A : Pl N σ hs ks b r ks w qa q m) (I : G hs ks r w q m []) (hm : m ≤ 99) (h60 : ks.length ≤ 60) (ga : σ.get a = some (.list (nV ns))) (gc : σ.get c = some (.list (nV ns))) (hn : ∀ k, k ∈ ns → k ∈ ks) (hl : ns.length ≤ 99) {lc : Loc} (e75 : lc 75 = some (.ref 2)) (e217 : lc 217 = some (.ref c)) (h : ∀ τ, Ext σ τ → Q (.bool true) τ) :
  Ok (run prog 1000 (d + 4) false 99 [.ref 2, .ref a]) σ (bindK (consF prog (run prog 1000 (d + 4)) (.cons (.bi .sorted (.cons (.call 164 (.cons (.loc 75) (.cons (.loc 217) .nil))) .nil)) .nil) lc) (bindK (run prog 1000 (d + 4) false 72) Q)) := by
 have kl := klen_of I
 refine reached_ok (d := d + 1) A I hm ga hn hl h60 fun L τ x1 nd hL => ?_
 have x2 := x1.push (.list (nV (sortN L)))
 have g2 : (τ.push (.list (nV (sortN L)))).get τ.length = some (.list (nV (sortN L))) := get_push_eq
 generalize τ.push (.list (nV (sortN L))) = τ2 at *
 generalize τ.length = la at *
 simp (disch := decide) only [e75, e217, zX, qr, qw, qB, qC, qD, qE, qF, qG, qH, qI]
 have gc2 := x2 _ _ gc
 rw [nV_ov] at gc2
 have ms : ∀ k, some k ∈ ns.map some ↔ k ∈ ns := fun k => by rw [List.mem_map]; exact ⟨fun ⟨j, hj, e⟩ => by cases e; exact hj, fun hk => ⟨k, hk, rfl⟩⟩
 refine clos_ok (d := d + 1) (A.ex x2) I hm gc2 (fun k hk => hn k ((ms k).mp hk)) fun rl ma τ3 x3 _ ndr hr gma => ?_
 have y3 := x2.trans x3
 have rl60 := nd_len ndr fun k hk => ((hr k).mp hk).mem
 have gs : (rl.map Int.ofNat).length < 64 := by rw [List.length_map]; lia
 simp (disch := decide) only [ok_sortedD gma mD_keys gs, sortN_v, qB, qD, qE, qG, qH, qJ]
 have es : sortN rl = sortN L := same_sort ndr nd fun k => (hr k).trans ((rch_iff ms).trans (hL k).symm)
 rw [es]
 have Lk := nd_len nd fun k hk => ((hL k).mp hk).mem
 refine numbers_ok hLP (get_keep (x3 _ _ g2)) get_push_eq ints_nV (by rw [nV_len, sortN_len]; lia) ?_
 exact h _ ((y3.push _).push _)
end
end Mine.Internal.L09
set_option autoImplicit false
namespace Mine.Internal.L09
open Mine.Internal Mine.Internal.Bx
open PySem (Str PyData)
section
variable {N : Ps} {σ σ' : H} {hs : List (Option Nat)} {ks : List Nat} {b : Nat → Nat} {r : Nat → List (Option Nat)} {w : Nat → Nat} {qa : Nat} {q : List Nat} {m : Nat} {d : Nat} {Q : V → H → Prop}
theorem tail_ok {S L : List Nat} {ta : Nat → Nat} {wa va sa ra : Nat} {lc : Loc} (A : Pl N σ hs ks b r ks w qa q m) (I : G hs ks r w q m []) (hm : m ≤ 99) (h60 : ks.length ≤ 60) (gw : σ.get wa = some (.list (nV S))) (gv : σ.get va = some (.list (nV (sortN ks)))) (gs : σ.get sa = some (.list (nV (sortN q)))) (D : Pr σ ra L (zD w r L) ta) (sL : L.Pairwise (· ≤ ·)) (nL : L.Nodup) (mL : ∀ k, k ∈ L ↔ Rch ks r (· ∈ q) k) (hS : ∀ k, k ∈ S → k ∈ ks) (hl : S.length ≤ 7)
  (e75 : lc 75 = some (.ref 2)) (e217 : lc 217 = some (.ref wa)) (e149 : lc 149 = some (.ref va)) (e177 : lc 177 = some (.ref sa)) (e73 : lc 73 = some (.ref ra)) (h : ∀ τ, Ext σ τ → Q (.bool true) τ) : OkS (exs prog (run prog 1000 (d + 4)) 1000 f__law_good_9 lc σ) (runK Q) := by
 have kl := klen_of I
 have big := A.big
 have n7 := A.n7
 have q60 : q.length ≤ 60 := Nat.le_trans (nd_len I.qn I.qs) h60
 have L60 : L.length ≤ 60 := Nat.le_trans (nd_len nL fun k hk => ((mL k).mp hk).mem) h60
 have sl : (nV S).length ≤ lim := le_lim (by rw [nV_len]; lia)
 refine oks_step rfl ?_
 simp (disch := decide) only [e217, ok_listL gw sl, zg, zh, zX, qw, qB, qC, qD, qE, qH, qI]
 have x1 : Ext σ (σ.push (.list (nV S))) := (Ext.refl _).push _
 have g1 : (σ.push (.list (nV S))).get σ.length = some (.list (nV S)) := get_push_eq
 have n1 : (σ.push (.list (nV S))).length = σ.length + 1 := len_push
 generalize σ.push (.list (nV S)) = σ1 at *
 refine then_step rfl ?_
 simp (disch := decide) only [e75, zg, zX, qr, qB, qC, qD, qE, qH, qI, qL, Nat.reduceBEq, qM, qN]
 refine reached_ok (d := d + 1) (A.ex x1) I hm g1 hS (by lia) h60 fun L1 σ2 x2 nd1 hL1 => ?_
 have l2 := ext_len x2
 have y3 := (x1.trans x2).push (.list (nV (sortN L1)))
 have g3 : (σ2.push (.list (nV (sortN L1)))).get σ2.length = some (.list (nV (sortN L1))) := get_push_eq
 have g3c := get_keep (x := .list (nV (sortN L1))) (x2 _ _ g1)
 generalize σ2.push (.list (nV (sortN L1))) = σ3 at *
 generalize σ2.length = fa at *
 simp (disch := decide) only [zh]
 refine then_step rfl ?_
 simp (disch := decide) only [e217, ne_copy g3c (y3 _ _ gw), ok_truthb, zb, zq, zs, zG, zX, qb, qc, qF, qG, qI, qL, Nat.reduceBEq, qM, qN]
 refine then_step rfl ?_
 have nfc : prog.nf ≤ σ.length := nf_of (by lia)
 have hne : fa ≠ σ.length := by lia
 have hfa : σ.length ≤ fa := by lia
 simp (disch := decide) only [mx_list g3c (.inr (.inr rfl)), ok_clear g3c nfc, ze, zf, zX, qt, qB, qG, qI, qJ, qL, Nat.reduceBEq, qM, qN]
 have y4 := ext_put y3 (Nat.le_refl _) (.list [])
 have g4 : (σ3.put σ.length (.list [])).get fa = some (.list (nV (sortN L1))) := (get_put_ne (Ne.symm hne)).trans g3
 generalize σ3.put σ.length (.list []) = σ4 at *
 refine then_step rfl ?_
 rw [s_for]
 simp (disch := decide) only [e75, zX, qf, qr, qB, qC, qD, qE, qF, qH, qI, qL, Nat.reduceBEq, qN]
 have l4 := ext_len y4
 refine trials_pr (d := d) (A.ex y4) I hm h60 sL nL mL fun tb rb σ5 x5 hrb P5 => ?_
 simp (disch := decide) only [e75, zX, qr, qB, qC, qD, qE, qF, qG, qH, qI, qL, Nat.reduceBEq, qN]
 have y5 := y4.trans x5
 refine come_ok (d := d) (A.ex y5) I hm h60 fun Lc σ6 x6 _ _ => ?_
 have y6 := y5.trans x6
 have l6 := ext_len y6
 have y7 := y6.push (.list (nV (sortN Lc)))
 have z7 := x6.push (.list (nV (sortN Lc)))
 have g7 : (σ6.push (.list (nV (sortN Lc)))).get σ6.length = some (.list (nV (sortN Lc))) := get_push_eq
 generalize σ6.push (.list (nV (sortN Lc))) = σ7 at *
 generalize σ6.length = cb at *
 have ok3 : okO (.list [V.ref rb, V.ref cb, V.ref fa]) = true := rfl
 simp (disch := decide) only [ok_alloc ok3, zy, zX, qg, qB, qC, qD, qE, qG, qH, qI, qJ, qL, Nat.reduceBEq, qM, qN]
 have f1 := z7 _ _ P5.g
 have f3 := z7 _ _ (x5 _ _ g4)
 have b1 := get_lt f1
 have b2 := get_lt g7
 have b3 := get_lt f3
 have x8 : Ext σ7 (σ7.push (.list [V.ref rb, V.ref cb, V.ref fa])) := (Ext.refl _).push _
 have g8 : (σ7.push (.list [V.ref rb, V.ref cb, V.ref fa])).get σ7.length = some (.list [V.ref rb, V.ref cb, V.ref fa]) := get_push_eq
 generalize σ7.push (.list [V.ref rb, V.ref cb, V.ref fa]) = σ8 at *
 generalize σ7.length = la at *
 have big3 : ∀ z, z = rb ∨ z = cb ∨ z = fa → σ.length ≤ z ∧ z ≠ la := fun z hz => by
  rcases hz with rfl | rfl | rfl
  ·exact ⟨by lia, by lia⟩
  ·exact ⟨by lia, by lia⟩
  ·exact ⟨by lia, by lia⟩
 generalize hl0 : Loc.upd (Loc.upd lc 218 (.ref σ.length)) 139 (.ref fa) = l0 at *
 have k75 : l0 75 = some (.ref 2) := by rw [← hl0]; exact e75
 have k217 : l0 217 = some (.ref wa) := by rw [← hl0]; exact e217
 have k149 : l0 149 = some (.ref va) := by rw [← hl0]; exact e149
 have k177 : l0 177 = some (.ref sa) := by rw [← hl0]; exact e177
 have k73 : l0 73 = some (.ref ra) := by rw [← hl0]; exact e73
 clear hl0
 refine ⟨_, it_list g8, f_inv (fun j l s => (s.get la = some (.list [V.ref rb, V.ref cb, V.ref fa]) ∧ Ext σ s) ∧ (∀ z, z = rb ∨ z = cb ∨ z = fa → ∃ xs, s.get z = some (.list xs)) ∧ ∀ v, v ≠ 67 → l v = l0 v) ⟨⟨g8, y7.trans x8⟩, fun z hz => by rcases hz with rfl | rfl | rfl; exact ⟨_, x8 _ _ f1⟩; exact ⟨_, x8 _ _ g7⟩; exact ⟨_, x8 _ _ f3⟩, fun _ _ => rfl⟩ ?_ ?_⟩
 ·rintro j l s y hy ⟨⟨h1, xs⟩, ex, hl⟩
  obtain ⟨z, hz, rfl⟩ : ∃ z, (z = rb ∨ z = cb ∨ z = fa) ∧ y = V.ref z := by
   have := List.mem_of_getElem? hy
   simp only [List.mem_cons, List.not_mem_nil, or_false] at this
   rcases this with h | h | h
   ·exact ⟨_, .inl rfl, h⟩
   ·exact ⟨_, .inr (.inl rfl), h⟩
   ·exact ⟨_, .inr (.inr rfl), h⟩
  obtain ⟨ys, gz⟩ := ex z hz
  obtain ⟨z1, z2⟩ := big3 z hz
  refine oks_step rfl ?_
  simp (disch := decide) only [mx_list gz (.inr (.inr rfl)), ok_clear gz (nf_of (by lia)), zb, zc, ze, zf, zX, qt, qB, qG, qI, qJ, qL, Nat.reduceBEq, qM, ne_eq]
  have h1' := (get_put_ne (σ := s) (o := .list []) z2).trans h1
  refine ⟨trivial, still_get (h1'.trans g8.symm), ⟨h1', ext_put xs z1 _⟩, fun u hu => ?_, fun v hv => (upd_no hv).trans (hl v hv)⟩
  by_cases e : u = z
  ·subst e; exact ⟨_, put_self gz⟩
  ·obtain ⟨us, gu⟩ := ex u hu
   exact ⟨us, (get_put_ne (Ne.symm e)).trans gu⟩
 ·rintro l s ⟨⟨_, xs⟩, _, hl⟩
  have A9 := A.ex xs
  have m75 := (hl 75 (by decide)).trans k75
  have m217 := (hl 217 (by decide)).trans k217
  have m149 := (hl 149 (by decide)).trans k149
  have m177 := (hl 177 (by decide)).trans k177
  have m73 := (hl 73 (by decide)).trans k73
  refine then_step rfl ?_
  simp (disch := decide) only [m75, m217, ok_listL (xs _ _ gw) sl, zq, zA, zI, zX, z0, qr, qw, qB, qC, qD, qE, qF, qG, qH, qI, qJ]
  have x9 := xs.push (.list (nV S))
  refine two_rows (c := wa) (lc := l) (A.ex x9) I hm h60 get_push_eq (x9 _ _ gw) hS (by lia) m75 m217 fun τ xt => ?_
  have yt := x9.trans xt
  have At := A.ex yt
  simp (disch := decide) only [ok_truthb, zb, zs, zK, qG, qJ]
  refine then_step rfl ?_
  simp (disch := decide) only [ea_cons, m75, mx_inst At.p At.d, zt, zX, z9, qr, qt, qu, qB, qC, qF, qG, qI, qJ]
  refine alive_ok At (by lia) ?_
  rw [sortN_v]
  simp (disch := decide) only [m149, zX, qB, qC, qD, qE, qG, qH, qI, qJ]
  have ya := yt.push (.list (nV (sortN ks)))
  refine numbers_ok hLP get_push_eq (ya _ _ gv) ints_nV (by rw [nV_len, sortN_len]; lia) ?_
  have yb := ya.push (.rng 0 ((nV (sortN ks)).length : Int) 1)
  have Ab := A.ex yb
  simp (disch := decide) only [ok_truthb, ea_cons, eandF_t, m75, mx_inst Ab.p Ab.d, zX, qr, qt, qu, qB, qC, qF, qG, qI, qJ]
  refine suspects_ok Ab (by lia) ?_
  rw [sortN_v]
  simp (disch := decide) only [m177, zX, qB, qC, qD, qE, qG, qH, qI, qJ]
  have yc := yb.push (.list (nV (sortN q)))
  refine numbers_ok hLP get_push_eq (yc _ _ gs) ints_nV (by rw [nV_len, sortN_len]; lia) ?_
  have yd := yc.push (.rng 0 ((nV (sortN q)).length : Int) 1)
  simp (disch := decide) only [ok_truthb, ea_one, eandF_t, m75, zX, qr, qB, qC, qD, qE, qF, qG, qH, qI]
  refine trials_pr (d := d) (A.ex yd) I hm h60 sL nL mL fun tc rc τe xe _ Pe => ?_
  simp (disch := decide) only [m73, zX, qB, qC, qD, qE, qG, qH, qI, qJ]
  refine pairs_ok (d := d + 1) Pe (D.ext (yd.trans xe)) (by lia) fun τf xf => ?_
  simp (disch := decide) only [zd, zw, zu, zw]
  exact h _ ((yd.trans xe).trans xf)
end
end Mine.Internal.L09
set_option autoImplicit false
namespace Mine.Internal.L09
open Mine.Internal Mine.Internal.Bx
open PySem (Str PyData)
section
variable {N : Ps} {σ σ' : H} {hs : List (Option Nat)} {ks : List Nat} {b : Nat → Nat} {r : Nat → List (Option Nat)} {w : Nat → Nat} {qa : Nat} {q : List Nat} {m : Nat} {d : Nat} {Q : V → H → Prop}
theorem good_ok {ns : List Int} (A : Pl N σ hs ks b r ks w qa q m) (I : G hs ks r w q m []) (hm : m ≤ 99) (h60 : ks.length ≤ 60) (hz : σ.get 0 = some (.list (ns.map .int))) (h : ∀ τ, Ext σ τ → Q (.bool true) τ) : Ok (run prog 1000 (d + 5) false 161 [.ref 2, .ref 0]) σ Q := by
 rw [ok_run (fd := f__law_good) rfl rfl]
 unfold f__law_good
 have kl := klen_of I
 have q60 : q.length ≤ 60 := Nat.le_trans (nd_len I.qn I.qs) h60
 refine oks_step rfl ?_
 simp (disch := decide) only [mx_inst A.p A.d, zg, zX, qt, qu, qB, qG, qI, qJ, List.zip_cons_cons, List.zip_nil_right, List.foldl_cons, List.foldl_nil, qL, Nat.reduceBEq, qM, qN]
 refine alive_ok A (by lia) ?_
 rw [sortN_v]
 have x1 : Ext σ (σ.push (.list (nV (sortN ks)))) := (Ext.refl _).push _
 have g1 : (σ.push (.list (nV (sortN ks)))).get σ.length = some (.list (nV (sortN ks))) := get_push_eq
 generalize σ.push (.list (nV (sortN ks))) = σ1 at *
 generalize σ.length = va at *
 have A1 := A.ex x1
 simp (disch := decide) only [zh]
 refine then_step rfl ?_
 simp (disch := decide) only [mx_inst A1.p A1.d, zg, zX, qt, qu, qB, qG, qI, qJ, qL, Nat.reduceBEq, qM, qN]
 refine suspects_ok A1 (by lia) ?_
 rw [sortN_v]
 have x2 : Ext σ1 (σ1.push (.list (nV (sortN q)))) := (Ext.refl _).push _
 have g2 : (σ1.push (.list (nV (sortN q)))).get σ1.length = some (.list (nV (sortN q))) := get_push_eq
 generalize σ1.push (.list (nV (sortN q))) = σ2 at *
 generalize σ1.length = sa at *
 have y2 := x1.trans x2
 simp (disch := decide) only [zh]
 refine then_step rfl ?_
 simp (disch := decide) only [zg, zX, qr, qB, qC, qD, qE, qH, qI, qL, Nat.reduceBEq, qM, qN]
 refine due_ok (d := d) (A.ex y2) I hm h60 fun L ta ra σ3 x3 sL nL mL gL tL => ?_
 have D : Pr σ3 ra L (zD w r L) ta := ⟨gL, tL⟩
 have L60 : L.length ≤ 60 := Nat.le_trans (nd_len nL fun k hk => ((mL k).mp hk).mem) h60
 have y3 := y2.trans x3
 simp (disch := decide) only [zh]
 refine then_step rfl ?_
 simp (disch := decide) only [zq, zA, zI, zX, z0, qr, qB, qC, qD, qE, qF, qH, qI, qL, Nat.reduceBEq, qM, qN]
 refine trials_pr (d := d) (A.ex y3) I hm h60 sL nL mL fun tb rb σ4 x4 _ P4 => ?_
 simp (disch := decide) only [zX, qB, qC, qD, qE, qG, qH, qI, qJ, qL, Nat.reduceBEq, qM, qN]
 refine pairs_ok (d := d + 1) P4 (D.ext x4) (by lia) fun σ5 x5 => ?_
 simp (disch := decide) only [ok_truthb, zb, zs, zK, qG, qJ]
 have z5 := x4.trans x5
 have y5 := y3.trans z5
 refine then_step rfl ?_
 simp (disch := decide) only [ok_range1, zg, zV, qw, qA, qB, qC, qD, qE, qF, qG, qH]
 have x6 : Ext σ5 (σ5.push (.rng 0 8 1)) := (Ext.refl _).push _
 have g6 : (σ5.push (.rng 0 8 1)).get σ5.length = some (.rng 0 8 1) := get_push_eq
 generalize σ5.push (.rng 0 8 1) = σ6 at *
 rw [comp_hands (d := d + 2) (A.ex (y5.trans x6)) I.hl g6 rfl]
 have x7 : Ext σ5 (σ6.push (.list (hs.map ov))) := x6.push _
 have g7 : (σ6.push (.list (hs.map ov))).get σ6.length = some (.list (hs.map ov)) := get_push_eq
 generalize σ6.push (.list (hs.map ov)) = σ7 at *
 generalize σ6.length = ha at *
 have z7 := z5.trans x7
 have y7 := y3.trans z7
 simp (disch := decide) only [zh]
 refine then_step rfl ?_
 simp (disch := decide) only [zq, zA, zI, zX, z0, qr, qB, qC, qD, qE, qF, qH, qI, qL, Nat.reduceBEq, qM, qN]
 refine come_ok (d := d) (A.ex y7) I hm h60 fun Lc σ8 x8 nc mc => ?_
 have x9 := x8.push (.list (nV (sortN Lc)))
 have g9 : (σ8.push (.list (nV (sortN Lc)))).get σ8.length = some (.list (nV (sortN Lc))) := get_push_eq
 generalize σ8.push (.list (nV (sortN Lc))) = σ9 at *
 generalize σ8.length = ca at *
 simp (disch := decide) only [zX, qr, qw, qB, qC, qD, qE, qF, qG, qH, qI, qL, Nat.reduceBEq, qM, qN]
 refine clos_ok (d := d + 1) (A.ex (y7.trans x9)) I hm (x9 _ _ g7) (fun k hk => I.inH hk) fun rl ma τ xa _ ndr hr gma => ?_
 have rl60 := nd_len ndr fun k hk => ((hr k).mp hk).mem
 have gs : (rl.map Int.ofNat).length < 64 := by rw [List.length_map]; lia
 simp (disch := decide) only [ok_sortedD gma mD_keys gs, sortN_v, qB, qD, qE, qG, qH, qJ]
 have es : sortN rl = sortN Lc := same_sort ndr nc fun k => (hr k).trans (mc k).symm
 have Lk := nd_len nc fun k hk => ((mc k).mp hk).mem
 rw [es]
 have xb := (x9.trans xa).push (.list (nV (sortN Lc)))
 refine numbers_ok hLP (get_keep (xa _ _ g9)) get_push_eq ints_nV (by rw [nV_len, sortN_len]; lia) ?_
 have xc := xb.push (.rng 0 ((nV (sortN Lc)).length : Int) 1)
 generalize (τ.push (.list (nV (sortN Lc)))).push (.rng 0 ((nV (sortN Lc)).length : Int) 1) = τ1 at *
 have z1 := z7.trans xc
 have y1 := y3.trans z1
 simp (disch := decide) only [ok_truthb, zb, zs, zK, qG, qJ]
 refine then_step rfl ?_
 simp (disch := decide) only [ok_alloc (o := .list []) rfl, zg, zh, qf, qg, qB, qH]
 have xd : Ext τ1 (τ1.push (.list [])) := (Ext.refl _).push _
 have gd : (τ1.push (.list [])).get τ1.length = some (.list (nV [])) := get_push_eq
 generalize τ1.push (.list []) = τ2 at *
 generalize τ1.length = wa at *
 have z2 := z1.trans xd
 have y2' := y3.trans z2
 have gv2 : τ2.get va = some (.list (nV (sortN ks))) := z2 _ _ (x3 _ _ (x2 _ _ g1))
 refine then_step rfl ?_
 simp (disch := decide) only [ok_truthL gv2, zq, zE, zX, qI, qL, Nat.reduceBEq, qM, qN]
 have fin : ∀ (S : List Nat) (lc : Loc) (υ : H) (wb : Nat), Ext τ2 υ → υ.get wb = some (.list (nV S)) → (∀ k, k ∈ S → k ∈ ks) → S.length ≤ 7 → lc 75 = some (.ref 2) → lc 217 = some (.ref wb) → lc 149 = some (.ref va) → lc 177 = some (.ref sa) → lc 73 = some (.ref ra) → OkS (exs prog (run prog 1000 (d + 4)) 1000 f__law_good_9 lc υ) (runK Q) := fun S lc υ wb xu gw hS hl e1 e2 e3 e4 e5 =>
  tail_ok (A.ex (y2'.trans xu)) I hm h60 gw (xu _ _ gv2) (xu _ _ (z2 _ _ (x3 _ _ g2))) (D.ext (z2.trans xu)) sL nL mL hS hl e1 e2 e3 e4 e5 fun τ xt => h τ ((y2'.trans xu).trans xt)
 cases hk : (nV (sortN ks)).isEmpty with
 | true =>
  simp (disch := decide) only [zb, zc, zs, Bool.not_true]
  exact fin [] _ τ2 wa (Ext.refl _) gd (fun k hk => nomatch hk) (by decide) rfl rfl rfl rfl rfl
 | false =>
  have hpos : 0 < (sortN ks).length := by
   rw [← nV_len]
   exact List.length_pos_iff.mpr fun e => by rw [e] at hk; cases hk
  obtain ⟨n, hn, hn'⟩ := fmod_nat (a := Int.fdiv (cellAt ns 1) 60) (b := 7) (by decide)
  simp (disch := decide) only [zr, Bool.not_false]
  refine oks_step rfl ?_
  simp (disch := decide) only [zg, zV, zX, qr, qB, qC, qD, qE, qH, qI, qL, Nat.reduceBEq, qM, qN]
  refine cell_ok hLP (ns := ns) (k := 1) (y2' _ _ hz) ?_
  simp (disch := decide) only [zh]
  refine then_step rfl ?_
  simp (disch := decide) only [zg, zV, zX, qr, qB, qC, qD, qE, qH, qI, qL, Nat.reduceBEq, qM, qN]
  refine cell_ok hLP (ns := ns) (k := 2) (y2' _ _ hz) ?_
  simp (disch := decide) only [zh]
  refine then_step rfl ?_
  simp (disch := decide) only [ok_div (b := 60) (by decide) (by decide), ok_mod (b := 7) (by decide), hn, ok_range1, zg, zV, zX, zY, zZ, qw, qA, qB, qC, qD, qE, qF, qG, qH, qI, qJ, qL, Nat.reduceBEq, qM, qN]
  have xr : Ext τ2 (τ2.push (.rng 0 (n : Int) 1)) := (Ext.refl _).push _
  have gr : (τ2.push (.rng 0 (n : Int) 1)).get τ2.length = some (.rng 0 (n : Int) 1) := get_push_eq
  generalize τ2.push (.rng 0 (n : Int) 1) = τ3 at *
  rw [starts_ok (one := cellAt ns 1) (oth := cellAt ns 2) (xr _ _ gv2) gr (by lia) hpos rfl rfl rfl]
  simp (disch := decide) only [zb, zc, zh]
  refine fin (stL (sortN ks) (cellAt ns 1) (cellAt ns 2) n) _ _ _ (xr.push _) get_push_eq (fun k hk => sortN_mem.mp (st_mem hpos hk)) (by unfold stL; rw [List.length_map, List.length_range]; lia) rfl rfl rfl rfl rfl
end
end Mine.Internal.L09
set_option autoImplicit false
namespace Mine.Internal.L09
open Mine.Internal Mine.Internal.Bx
open PySem (Str PyData)
noncomputable def Pe (σ : H) (y : V) : Prop := (∃ i, y = .int i) ∨ ∃ t i j, y = .ref t ∧ σ.get t = some (.tup [.int i, .int j])
theorem Pe.keep {σ σ' : H} {y : V} (h : Pe σ y) (k : ∀ a o, fixO o = true → σ.get a = some o → σ'.get a = some o) : Pe σ' y := h.imp id fun ⟨t, i, j, e, g⟩ => ⟨t, i, j, e, k _ _ rfl g⟩
theorem pe_data {σ : H} {y : V} (h : Pe σ y) : ∃ d : PyData, dataOf σ 3 y = some d ∧ d.canLay0 = true := by
 rcases h with ⟨i, rfl⟩ | ⟨t, i, j, rfl, g⟩
 ·exact ⟨.int i, rfl, rfl⟩
 ·refine ⟨.tuple [.int i, .int j], ?_, rfl⟩
  unfold dataOf
  simp only [g]
  rfl
theorem pes_data {σ : H} : ∀ {xs : List V}, (∀ y ∈ xs, Pe σ y) → ∃ ds : List PyData, optAll (dataOf σ 3) xs = some ds ∧ PyData.canLayAll0 ds = true
 | [], _ => ⟨[], rfl, rfl⟩
 | y :: xs, h => by
  obtain ⟨d, e1, e2⟩ := pe_data (h y (.head _))
  obtain ⟨ds, e3, e4⟩ := pes_data (xs := xs) fun z hz => h z (.tail _ hz)
  refine ⟨d :: ds, ?_, ?_⟩
  ·unfold optAll; rw [e1, e3]
  ·unfold PyData.canLayAll0; rw [e2, e4]; rfl
inductive CP (B : Nat) (σ : H) : List V → List V → Prop
 | nil : CP B σ [] []
 | cons {x y : Nat} {xs : List V} {vs ws : List V} (g1 : σ.get x = some (.list xs)) (g2 : σ.get y = some (.list xs)) (b1 : B ≤ x) (b2 : B ≤ y) (p : ∀ z ∈ xs, Pe σ z) (n : xs.length ≤ 1000) (T : CP B σ vs ws) : CP B σ (.ref x :: vs) (.ref y :: ws)
theorem CP.keep {B : Nat} {σ σ' : H} {vs ws : List V} (T : CP B σ vs ws) (k : ∀ a o, fixO o = true ∨ B ≤ a → σ.get a = some o → σ'.get a = some o) : CP B σ' vs ws := by
 induction T with
 | nil => exact .nil
 | cons g1 g2 b1 b2 p n _ ih => exact .cons (k _ _ (.inr b1) g1) (k _ _ (.inr b2) g2) b1 b2 (fun z hz => (p z hz).keep fun a o f g => k a o (.inl f) g) n ih
theorem CP.data {B : Nat} {σ : H} {vs ws : List V} (T : CP B σ vs ws) : ∃ ds : List PyData, optAll (dataOf σ 4) vs = some ds ∧ optAll (dataOf σ 4) ws = some ds ∧ PyData.canLayAll0 ds = true := by
 induction T with
 | nil => exact ⟨[], rfl, rfl, rfl⟩
 | cons g1 g2 _ _ p _ _ ih =>
  obtain ⟨ds, e1, e2, e3⟩ := ih
  obtain ⟨es, f1, f2⟩ := pes_data p
  refine ⟨.list es :: ds, ?_, ?_, ?_⟩
  ·unfold optAll
   rw [show dataOf _ 4 (.ref _) = some (.list es) by unfold dataOf; simp only [g1, f1]; rfl, e1]
  ·unfold optAll
   rw [show dataOf _ 4 (.ref _) = some (.list es) by unfold dataOf; simp only [g2, f1]; rfl, e2]
  ·unfold PyData.canLayAll0
   rw [e3, show (PyData.list es).canLay0 = true from f2]; rfl
theorem CP.ne {B : Nat} {σ : H} {vs ws : List V} (T : CP B σ vs ws) {a c : Nat} (ga : σ.get a = some (.list vs)) (gc : σ.get c = some (.list ws)) {Q : V → H → Prop} : Ok (cmpop prog .NotEq (.ref a) (.ref c)) σ Q = Q (.bool false) σ := by
 obtain ⟨ds, e1, e2, e3⟩ := T.data
 refine ne_same (D := .list ds) ?_ ?_ e3
 ·unfold dataOf; simp only [ga, e1]; rfl
 ·unfold dataOf; simp only [gc, e2]; rfl
end Mine.Internal.L09
set_option autoImplicit false
namespace Mine.Internal.L09
open Mine.Internal Mine.Internal.Bx
open PySem (Str PyData)
theorem ok_first2 {σ : H} {a : Nat} {l : List Nat} {Q : V → H → Prop} (h : σ.get a = some (.list (nV l))) : Ok (getSlice (.ref a) .none (.int 2)) σ Q = Q (.ref σ.length) (σ.push (.list (nV (l.take 2)))) := ok_some (by
 unfold getSlice
 simp only [h]
 show some (R.ok (V.ref σ.length), σ.push (.list (cut (nV l) 0 (min 2 (nV l).length)))) = _
 have e : cut (nV l) 0 (min 2 (nV l).length) = nV (l.take 2) := by
  unfold cut
  rw [List.drop_zero]
  unfold nV
  rw [List.map_take, ← List.take_take, List.take_length]
 rw [e])
theorem comp_run {σ τ : H} {v : V} {tg : List Nat} {tup : Bool} {t : Loc → X Bool} {e : Loc → X V} {loc : Loc} {vs ws : List V} {Q : V → H → Prop} (hi : iterOf v σ = some vs) (h : compL v tg tup t e loc σ vs σ = some (.ok ws, τ)) (hl : ws.length ≤ lim) : Ok (compX tg tup t e loc v) σ Q = Q (.ref τ.length) (τ.push (.list ws)) := ok_some (by
 unfold compX
 rw [hi]
 dsimp only
 unfold X.bind
 rw [h]
 dsimp only
 unfold alloc
 rw [if_pos (by simpa [okO] using hl)])
theorem comp_one {σ τ : H} {v y x : V} {i : Nat} {t : Loc → X Bool} {e : Loc → X V} {loc : Loc} {h₀ : H} {vs ws : List V} {ρ : H} (ht : t (loc.upd i y) σ = some (.ok true, σ)) (he : e (loc.upd i y) σ = some (.ok x, τ)) (hst : still v h₀ τ = true) (hr : compL v [i] false t e loc h₀ vs τ = some (.ok ws, ρ)) : compL v [i] false t e loc h₀ (y :: vs) σ = some (.ok (x :: ws), ρ) := by
 unfold compL
 have hbt : bindTg [i] false y loc σ = some (loc.upd i y) := rfl
 rw [hbt]
 dsimp only
 rw [ht]
 dsimp only
 rw [he]
 dsimp only
 rw [if_pos hst, hr]
theorem pe_nV {σ : H} {l : List Nat} : ∀ y ∈ nV l, Pe σ y := fun y hy => by
 obtain ⟨k, _, rfl⟩ := List.mem_map.mp hy
 exact .inl ⟨_, rfl⟩
inductive HL (B : Nat) (σ : H) : List V → Prop
 | nil : HL B σ []
 | cons {x : Nat} {xs : List V} {vs : List V} (g : σ.get x = some (.list xs)) (b : B ≤ x) (p : ∀ z ∈ xs, Pe σ z) (n : xs.length ≤ 1000) (T : HL B σ vs) : HL B σ (.ref x :: vs)
theorem HL.ext {B : Nat} {σ σ' : H} {vs : List V} (T : HL B σ vs) (x : Ext σ σ') : HL B σ' vs := by
 induction T with
 | nil => exact .nil
 | cons g b p n _ ih => exact .cons (x _ _ g) b (fun z hz => (p z hz).keep fun a o _ g => x a o g) n ih
section
variable {N : Ps} {σ : H} {hs : List (Option Nat)} {ks : List Nat} {b : Nat → Nat} {r : Nat → List (Option Nat)} {w : Nat → Nat} {qa : Nat} {q : List Nat} {m : Nat} {d B : Nat} {loc : Loc}
theorem copies_run {C : Calls} {v : V} {vs₀ : List V} (hB : B ≤ σ.length) (hi : iterOf v σ = some vs₀) : ∀ (vs : List V) (τ : H), Ext σ τ → HL B τ vs →
  ∃ ws τ', compL v [67] false (tstAnd prog C .nil) (ev prog C (.bi .list (.cons (.loc 67) .nil))) loc σ vs τ = some (.ok ws, τ') ∧ Ext τ τ' ∧ CP B τ' vs ws ∧ ws.length = vs.length
 | _, τ, x, .nil => ⟨[], τ, rfl, Ext.refl _, .nil, rfl⟩
 | _, τ, x, .cons (x := c) (xs := xs) (vs := vs) g b p n T => by
  have x1 : Ext τ (τ.push (.list xs)) := (Ext.refl _).push _
  have ll := ext_len x
  have key : ev prog C (.bi .list (.cons (.loc 67) .nil)) (loc.upd 67 (.ref c)) τ = some (.ok (.ref τ.length), τ.push (.list xs)) := ok_eq (by
   simp (disch := decide) only [ok_listL g (le_lim n), zX, qw, qB, qC, qD, qE, qH, qI, qL, Nat.reduceBEq, qM]
   exact ⟨trivial, trivial⟩)
  have g1 : (τ.push (.list xs)).get τ.length = some (.list xs) := get_push_eq
  generalize τ.push (.list xs) = τ1 at *
  have y1 := x.trans x1
  obtain ⟨ws, τ', e, x', T', hl⟩ := copies_run (C := C) hB hi vs τ1 y1 (T.ext x1)
  exact ⟨.ref τ.length :: ws, τ', comp_one (i := 67) (t := tstAnd prog C .nil) rfl key (y1.still hi) e, x1.trans x', .cons (x' _ _ (x1 _ _ g)) (x' _ _ g1) b (Nat.le_trans hB ll) (fun z hz => (p z hz).keep fun a o _ g => x' _ _ (x1 a o g)) n T', congrArg (· + 1) hl⟩
theorem held_ok {k t : Int} {lc : Loc} {Q : Option V → Loc → H → Prop} (A : Pl N σ hs ks b r ks w qa q m) (I : G hs ks r w q m []) (hm : m ≤ 99) (h60 : ks.length ≤ 60) (e71 : lc 71 = some (.int k)) (e75 : lc 75 = some (.ref 2)) (e162 : lc 162 = some (.int t))
  (h : ∀ ha vs l' τ, Ext σ τ → σ.length ≤ ha → τ.get ha = some (.list vs) → HL σ.length τ vs → vs.length ≤ 100 → l' 84 = some (.ref ha) → (∀ v, v ≠ 84 → l' v = lc v) → OkS (exs prog (run prog 1000 (d + 4)) 1000 f_law_4f_3 l' τ) Q) : OkS (exs prog (run prog 1000 (d + 4)) 1000 f_law_4f_1 lc σ) Q := by
 have kl := klen_of I
 refine oks_step rfl ?_
 simp (disch := decide) only [ok_alloc (o := .list []) rfl, zg, zh, qf, qg, qB, qH]
 have g1 : (σ.push (.list [])).get σ.length = some (.list []) := get_push_eq
 have x1 : Ext σ (σ.push (.list [])) := (Ext.refl _).push _
 generalize σ.push (.list []) = σ1 at *
 refine then_step rfl ?_
 simp (disch := decide) only [e71, e162, ok_div (b := 2) (by decide) (by decide), ok_mod (b := 9) (by decide), ok_eqI, ok_truthb, zq, zG, zV, zX, zY, zZ, qb, qc, qF, qG, qH, qI, qL, Nat.reduceBEq, qN]
 cases decide (Int.fmod (Int.fdiv k 2) 9 = t) with
 | false =>
  simp (disch := decide) only [zb, zc, zs]
  exact h _ [] _ σ1 x1 (Nat.le_refl _) g1 .nil (Nat.zero_le _) upd_at fun v hv => upd_no hv
 | true =>
  simp (disch := decide) only [zr]
  refine oks_step rfl ?_
  simp (disch := decide) only [e75, zg, zX, qf, qr, qB, qC, qD, qE, qF, qH, qI, qL, Nat.reduceBEq, qN]
  refine trials_ok (d := d) (A.ex x1) I hm h60 fun L ta ra σ2 x2 hra sL nL mL g2 t2 => ?_
  have y2 := x1.trans x2
  have L60 := nd_len nL fun k hk => ((mL k).mp hk).mem
  simp (disch := decide) only [e75, zX, qr, qB, qC, qD, qE, qF, qG, qH, qI, qL, Nat.reduceBEq, qN]
  refine come_ok (d := d) (A.ex y2) I hm h60 fun Lc σ3 x3 nc mc => ?_
  have c60 := nd_len nc fun k hk => ((mc k).mp hk).mem
  have l3 := ext_len (y2.trans x3)
  have x4 := x3.push (.list (nV (sortN Lc)))
  have g4 : (σ3.push (.list (nV (sortN Lc)))).get σ3.length = some (.list (nV (sortN Lc))) := get_push_eq
  generalize σ3.push (.list (nV (sortN Lc))) = σ4 at *
  generalize σ3.length = ca at *
  have A4 := A.ex (y2.trans x4)
  simp (disch := decide) only [e75, mx_inst A4.p A4.d, zX, qp, qr, qt, qu, qB, qC, qD, qF, qG, qI, qJ, qL, Nat.reduceBEq, qN]
  refine alive_ok A4 (by lia) ?_
  rw [sortN_v]
  simp (disch := decide) only [slF_at, slF2_at, ok_first2 (get_push_eq (σ := σ4) (o := .list (nV (sortN ks)))), zT, zV, qB, qD, qE, qG, qH, qJ]
  generalize hys : (sortN ks).take 2 = ys
  have hsub : ∀ k ∈ ys, k ∈ ks := fun k hk => by rw [← hys] at hk; exact sortN_mem.mp (List.mem_of_mem_take hk)
  have hyl : ys.length ≤ 2 := by rw [← hys, List.length_take]; exact Nat.min_le_left _ _
  have x5 : Ext σ4 (σ4.push (.list (nV (sortN ks)))) := (Ext.refl _).push _
  generalize σ4.push (.list (nV (sortN ks))) = σ5 at *
  have x6 := (x4.trans x5).push (.list (nV ys))
  have g6 : (σ5.push (.list (nV ys))).get σ5.length = some (.list (nV ys)) := get_push_eq
  have z6 := x5.push (.list (nV ys))
  generalize σ5.push (.list (nV ys)) = σ6 at *
  refine reached_ok (d := d + 1) (A.ex (y2.trans x6)) I hm g6 hsub (by lia) h60 fun L1 σ7 x7 nd1 hL1 => ?_
  have d60 := nd_len nd1 fun k hk => ((hL1 k).mp hk).mem
  have l7 := ext_len ((y2.trans x6).trans x7)
  have x8 := (x6.trans x7).push (.list (nV (sortN L1)))
  have z8 := (z6.trans x7).push (.list (nV (sortN L1)))
  have g8 : (σ7.push (.list (nV (sortN L1)))).get σ7.length = some (.list (nV (sortN L1))) := get_push_eq
  generalize σ7.push (.list (nV (sortN L1))) = σ8 at *
  generalize σ7.length = fa at *
  have ok3 : okO (.list [V.ref ra, V.ref ca, V.ref fa]) = true := rfl
  simp (disch := decide) only [ok_alloc ok3, zb, zc, zh, qg, qB, qD, qE, qG, qH, qJ]
  have y8 := y2.trans x8
  have l8 := ext_len y8
  have l1 := ext_len x1
  have T : HL σ.length σ8 [V.ref ra, V.ref ca, V.ref fa] := by
   refine .cons (x8 _ _ g2) (by lia) (fun z hz => ?_) (by rw [List.length_map]; lia) (.cons (z8 _ _ g4) l3 pe_nV (by rw [nV_len, sortN_len]; lia) (.cons g8 l7 pe_nV (by rw [nV_len, sortN_len]; lia) .nil))
   obtain ⟨k, hk, rfl⟩ := List.mem_map.mp hz
   exact .inr ⟨_, _, _, rfl, x8 _ _ (t2 k hk)⟩
  exact h _ _ _ _ (y8.push _) l8 get_push_eq (T.ext ((Ext.refl _).push _)) (show 3 ≤ 100 by decide) upd_at fun v hv => (upd_no hv).trans (upd_no hv)
end
noncomputable def odd3 (n : Int) : Bool := small' 3 && small' n && small' 2 && decide (n - 3 ≤ (lim : Int)) && decide (0 < (2 : Int)) && (decide ((rangeList 3 n 2).length ≤ 30) && (rangeList 3 n 2).all fun i => decide (0 ≤ i) && decide (i < n))
theorem odd3A : ∀ i : Fin 66, odd3 ((i.1 : Int) - 5) = true := by decide +kernel
theorem it_odd3 {σ : H} {a : Nat} {n : Int} (h : σ.get a = some (.rng 3 n 2)) (h1 : -5 ≤ n) (h2 : n ≤ 60) : ∃ vs : List V, iterOf (.ref a) σ = some vs ∧ vs.length ≤ 30 ∧ ∀ (j : Nat) (y : V), vs[j]? = some y → ∃ k : Nat, y = V.int (k : Int) ∧ (k : Int) < n := by
 have e := odd3A ⟨(n + 5).toNat, by lia⟩
 rw [show (((n + 5).toNat : Nat) : Int) - 5 = n by lia] at e
 obtain ⟨c1, c2⟩ := (Bool.and_eq_true _ _).mp e
 obtain ⟨c2, c3⟩ := (Bool.and_eq_true _ _).mp c2
 refine ⟨(rangeList 3 n 2).map .int, ?_, by rw [List.length_map]; exact of_decide_eq_true c2, fun j y hy => ?_⟩
 ·unfold iterOf
  dsimp only
  rw [h]
  exact if_pos c1
 ·obtain ⟨i, hi, rfl⟩ := List.mem_map.mp (List.mem_of_getElem? hy)
  obtain ⟨d1, d2⟩ := (Bool.and_eq_true _ _).mp (List.all_eq_true.mp c3 i hi)
  have d1 := of_decide_eq_true d1
  exact ⟨i.toNat, by rw [Int.toNat_of_nonneg d1], by rw [Int.toNat_of_nonneg d1]; exact of_decide_eq_true d2⟩
noncomputable def U0 : Ps := ⟨7, fun a => a = 0⟩
noncomputable def U1 (B L : Nat) : Ps := ⟨7, fun a => a = 0 ∨ (B ≤ a ∧ a < L)⟩
section
variable {σ τ : H} {hs : List (Option Nat)} {ks : List Nat} {b : Nat → Nat} {r : Nat → List (Option Nat)} {w : Nat → Nat} {qa : Nat} {q : List Nat} {m : Nat} {M : Nat} {ns : List Int}
theorem pl_more {L : Nat} (A : Pl U0 σ hs ks b r ks w qa q m) (x : Ext σ τ) (hL : L ≤ τ.length) : Pl (U1 σ.length L) τ hs ks b r ks w qa q m := by
 have A1 := A.ex x
 have big : 7 < σ.length := A.big
 have no : ∀ {a : Nat}, a < σ.length → a ≠ 0 → ¬ (U1 σ.length L).U a := fun h1 h2 h => h.elim h2 fun h => Nat.not_le_of_lt h1 h.1
 have n7 : ∀ {a : Nat}, 7 ≤ a → a ≠ 0 := fun h e => by lia
 exact ⟨A1.d, A1.p, A1.h, A1.b', A1.w', A1.q', A1.bx, A1.ij, A1.qa7, A1.big, A1.n7, A1.sm, ⟨⟨no (by lia) (by decide), no (by lia) (by decide)⟩, no (by lia) (by decide), no (by lia) (by decide)⟩, no (get_lt A.q') (n7 A.qne), fun k hk => no (get_lt (A.bx k hk).2) (n7 (Nat.le_of_lt (A.bx k hk).1)), fun a h => h.elim (fun e => by have := ext_len x; lia) fun h => Nat.lt_of_lt_of_le h.2 hL⟩
theorem wd_less {B L : Nat} (W : Wd (U1 B L) M σ) : Wd U0 M σ := by
 cases W with
 | mk hs ks b r w qa q m A I hm h60 =>
  have big : 7 < σ.length := A.big
  have n7 : ∀ {a : Nat}, 7 ≤ a → ¬ U0.U a := fun {a} h e => by have : a = 0 := e; lia
  exact .mk hs ks b r w qa q m ⟨A.d, A.p, A.h, A.b', A.w', A.q', A.bx, A.ij, A.qa7, A.big, A.n7, A.sm, ⟨⟨Nat.succ_ne_zero _, Nat.succ_ne_zero _⟩, Nat.succ_ne_zero _, Nat.succ_ne_zero _⟩, n7 A.qne, fun k hk => n7 (Nat.le_of_lt (A.bx k hk).1), fun a e => by have e : a = 0 := e; lia⟩ I hm h60
theorem turn_ok {k few : Nat} {t : Int} {lc : Loc} {Q : Option V → Loc → H → Prop} (W : Wd U0 M σ) (hM : M ≤ 98) (hz : σ.get 0 = some (.list (ns.map .int))) (hk : k + 1 < ns.length) (hf1 : 0 < few) (hf2 : few ≤ 9) (e70 : lc 70 = some (.ref 0)) (e71 : lc 71 = some (.int (k : Int))) (e75 : lc 75 = some (.ref 2)) (e132 : lc 132 = some (.int (few : Int))) (e162 : lc 162 = some (.int t))
  (h : ∀ l' σ', (∀ j, j ≠ 84 → j ≠ 219 → l' j = lc j) → Wd U0 (M + 1) σ' → Kp U0 σ σ' → Q none l' σ') : OkS (exs prog (run prog 1000 20) 1000 f_law_4f_1 lc σ) Q := by
 have i1 : (ns.map V.int)[((k : Int)).toNat]? = some (.int (ns[k]'(by lia))) := by rw [List.getElem?_map, Int.toNat_natCast, List.getElem?_eq_getElem (by lia)]; rfl
 have e1 : (k : Int) + 1 = ((k + 1 : Nat) : Int) := rfl
 have i2 : (ns.map V.int)[(((k + 1 : Nat) : Int)).toNat]? = some (.int (ns[k + 1]'hk)) := by rw [List.getElem?_map, Int.toNat_natCast, List.getElem?_eq_getElem hk]; rfl
 cases W with
 | mk hs ks b r w qa q m A I hm h60 =>
  refine held_ok (d := 16) A I (by lia) h60 e71 e75 e162 fun ha vs l1 τ x1 hha gh T hvl e84 hl1 => ?_
  obtain ⟨ws, τ1, e2, x2, T', hwl⟩ := copies_run (C := run prog 1000 20) (loc := l1) (ext_len x1) (it_list gh) vs τ (Ext.refl _) T
  refine oks_step rfl ?_
  simp (disch := decide) only [e84, zg, zX, qA, qI]
  rw [comp_run (it_list gh) e2 (le_lim (by lia))]
  simp (disch := decide) only [zh]
  have x3 : Ext τ1 (τ1.push (.list ws)) := (Ext.refl _).push _
  have gc : (τ1.push (.list ws)).get τ1.length = some (.list ws) := get_push_eq
  have hca : σ.length ≤ τ1.length := ext_len (x1.trans x2)
  generalize τ1.push (.list ws) = τ2 at *
  generalize τ1.length = ca at *
  have y2 := x2.trans x3
  have y1 := x1.trans y2
  have T2 := T'.keep fun a o _ g => x3 a o g
  have gh2 := y2 _ _ gh
  have f70 := (hl1 70 (by decide)).trans e70
  have f71 := (hl1 71 (by decide)).trans e71
  have f75 := (hl1 75 (by decide)).trans e75
  have f132 := (hl1 132 (by decide)).trans e132
  have f162 := (hl1 162 (by decide)).trans e162
  have hz2 := y1 _ _ hz
  refine then_step rfl ?_
  simp (disch := decide) only [f75, f70, f71, f132, ok_getList hz2 (Int.natCast_nonneg _) i1, ok_add, e1, ok_getList hz2 (Int.natCast_nonneg _) i2, ze, zV, zX, zY, zZ, qm, qo, qr, qB, qC, qD, qE, qF, qG, qH, qI, qJ, qL, Nat.reduceBEq, qN]
  refine deed_ok hf1 hf2 fun D dd σ1 x4 g1 => ?_
  simp (disch := decide) only [qB, qD, qE, qG, qH, qJ]
  have W1 : Wd (U1 σ.length τ2.length) M σ1 := .mk hs ks b r w qa q m (pl_more A (y1.trans x4) (ext_len x4)) I hm h60
  refine law_done_ok W1 hM g1 fun v σ2 W2 k2 => ?_
  have kk : ∀ a o, fixO o = true ∨ σ.length ≤ a → τ2.get a = some o → σ2.get a = some o := fun a o h g => k2 a o (h.imp id fun h => .inr ⟨h, get_lt g⟩) (x4 a o g)
  have kp : Kp U0 σ σ2 := fun a o h g => k2 a o (h.imp id .inl) (x4 a o (y1 a o g))
  have hz3 := kp _ _ (.inr rfl) hz
  have hne : ∀ {ρ : H}, Ext σ2 ρ → ∀ {R : V → H → Prop}, Ok (cmpop prog .NotEq (.ref ha) (.ref ca)) ρ R = R (.bool false) ρ := fun x => CP.ne ((T2.keep kk).keep fun a o _ g => x a o g) (x _ _ (kk _ _ (.inr hha) gh2)) (x _ _ (kk _ _ (.inr hca) gc))
  have W3 := wd_less W2
  refine then_step rfl ?_
  simp (disch := decide) only [f71, f162, ok_div (b := 2) (by decide) (by decide), ok_mod (b := 9) (by decide), ok_eqI, ok_truthb, zq, zB, zC, zG, zN, zR, zV, zX, zY, zZ, z9, qb, qc, qF, qG, qH, qI, qL, Nat.reduceBEq, qN]
  cases decide (Int.fmod (Int.fdiv (k : Int) 2) 9 = t) with
  | false =>
   simp (disch := decide) only [e84, hne (Ext.refl _), ok_truthb, zb, zc, zs, zG, zP, zQ, zR, zS, zX, qb, qc, qF, qG, qI, qJ, qL, Nat.reduceBEq, qM, qN]
   exact h _ σ2 (fun j h1 h2 => (upd_no h2).trans (hl1 j h1)) W3 kp
  | true =>
   simp (disch := decide) only [f70, f75, zA, zI, zN, zO, zX, z0, qr, qB, qC, qD, qE, qF, qH, qI, qL, Nat.reduceBEq, qN]
   cases W2 with
   | mk hs' ks' b' r' w' qa' q' m' A2 I2 hm2 h602 =>
    refine good_ok (d := 15) A2 I2 (by lia) h602 hz3 fun τ3 x5 => ?_
    simp (disch := decide) only [e84, hne x5, ok_truthb, zb, zc, zs, zG, zK, zP, zQ, zR, zS, zX, qb, qc, qF, qG, qI, qJ, qL, Nat.reduceBEq, qM, qN]
    exact h _ τ3 (fun j h1 h2 => (upd_no h2).trans (hl1 j h1)) (wd_ex W3 x5) (kp.ext x5)
end
theorem start {xs : List V} : Pl U0 (Hn xs) hs8 [] (fun _ => 0) (fun _ => []) [] (fun _ => 0) 7 [] 0 ∧ (Hn xs).get 0 = some (.list xs) :=
 ⟨⟨by kernel_rfl, by kernel_rfl, by kernel_rfl, by kernel_rfl, by kernel_rfl, by kernel_rfl, fun k h => (nomatch h), fun j k h => (nomatch h), .inl rfl, (by rw [show (Hn xs).length = 8 by kernel_rfl]; decide), Nat.le_refl _, by decide, ⟨⟨Nat.succ_ne_zero _, Nat.succ_ne_zero _⟩, Nat.succ_ne_zero _, Nat.succ_ne_zero _⟩, Nat.succ_ne_zero _, fun k h => (nomatch h), fun a e => by have e : a = 0 := e; rw [e, show (Hn xs).length = 8 by kernel_rfl]; decide⟩, by kernel_rfl⟩
theorem ok_true {x : X V} {σ : H} (h : Ok x σ (fun v _ => v = .bool true)) : ∃ σ', x σ = some (.ok (.bool true), σ') := by
 obtain ⟨v, σ', h, rfl⟩ := ok_iff.mp h
 exact ⟨σ', h⟩
theorem plainH (ns : List Int) (hns : ns.length ≤ 63) (x : X V) (σ₀ : H) (hx : x = run prog 1000 21 false 74 [.ref 0]) (hσ : σ₀ = [.list (ns.map .int)]) : ∃ σ', x σ₀ = some (.ok (.bool true), σ') := by
 refine ok_true ?_
 rw [hx, hσ]
 clear hx hσ
 have hb : f_law.body = .cons (.asg (.var 75) (.new 24)) f_law_2 := rfl
 rw [ok_run (fd := f_law) rfl rfl, hb, exs_at new_at]
 obtain ⟨A, hz⟩ := start (xs := ns.map V.int)
 generalize Hn (ns.map V.int) = τ at *
 refine oks_step rfl ?_
 simp (disch := decide) only [zg, zX, qr, qB, qC, qD, qE, qH, qI, qL, Nat.reduceBEq, qM, qN]
 refine begun_ok (ns := ns) A g0 hz fun few σ1 hf1 hf2 W1 k1 => ?_
 have hz1 := k1 _ _ (.inr rfl) hz
 simp (disch := decide) only [zh]
 refine then_step rfl ?_
 simp (disch := decide) only [zg, zV, zX, zY, qr, qB, qC, qD, qE, qF, qH, qI, qL, Nat.reduceBEq, qM, qN]
 refine cell_ok hL (ns := ns) (k := 1) hz1 ?_
 simp (disch := decide) only [ok_div (b := 420) (by decide) (by decide), ok_mod (b := 9) (by decide), zh, zV, zZ, qG, qH]
 generalize Int.fmod (Int.fdiv (cellAt ns 1) 420) 9 = t
 refine then_step rfl ?_
 rw [s_for]
 simp (disch := decide) only [ok_lenL hz1, List.length_map, ok_min, ok_sub, ok_range3 (P := prog) (c := 2) (by decide) (by decide), zy, zV, zX, zY, zZ, qw, qB, qC, qD, qE, qF, qG, qH, qI, qJ, qL, Nat.reduceBEq, qM, qN]
 generalize hn : ((if (61 : Int) < ((ns.length : Nat) : Int) then 61 else ((ns.length : Nat) : Int)) - 1) = n
 have hn1 : -5 ≤ n ∧ n ≤ 60 ∧ n + 1 ≤ ((ns.length : Nat) : Int) := by subst hn; split <;> lia
 have g2 : (σ1.push (.rng 3 n 2)).get σ1.length = some (.rng 3 n 2) := get_push_eq
 have W2 := wd_ex W1 ((Ext.refl _).push (.rng 3 n 2))
 have hz2 := get_keep (x := .rng 3 n 2) hz1
 generalize σ1.push (.rng 3 n 2) = σ2 at *
 generalize σ1.length = ra at *
 obtain ⟨vs, hv, hvl, hva⟩ := it_odd3 g2 hn1.1 hn1.2.1
 refine ⟨vs, hv, f_inv (fun j l s => (s.get ra = some (.rng 3 n 2) ∧ s.get 0 = some (.list (ns.map .int)) ∧ Wd U0 (31 + j) s) ∧ (l 70 = some (.ref 0) ∧ l 75 = some (.ref 2)) ∧ l 132 = some (.int ((few : Nat) : Int)) ∧ l 162 = some (.int t)) ⟨⟨g2, hz2, W2⟩, ⟨rfl, rfl⟩, rfl, rfl⟩ ?_ ?_⟩
 ·rintro j l s y hy ⟨⟨h1, h2, W⟩, ⟨m1, m2⟩, m3, m4⟩
  have hj := (List.getElem?_eq_some_iff.mp hy).1
  obtain ⟨k, rfl, hk⟩ := hva j y hy
  refine turn_ok (ns := ns) (k := k) W (by lia) h2 (by lia) hf1 hf2 ((upd_no (by decide)).trans m1) upd_at ((upd_no (by decide)).trans m2) ((upd_no (by decide)).trans m3) ((upd_no (by decide)).trans m4) fun l' s' hl W' k' => ?_
  have h1' := k' _ _ (.inl rfl) h1
  have hq : ∀ v, v ≠ 71 → v ≠ 84 → v ≠ 219 → l' v = l v := fun v h1 h2 h3 => (hl v h2 h3).trans (upd_no h1)
  exact ⟨rfl, still_get (h1'.trans g2.symm), ⟨h1', k' _ _ (.inr rfl) h2, W'⟩, ⟨(hq 70 (by decide) (by decide) (by decide)).trans m1, (hq 75 (by decide) (by decide) (by decide)).trans m2⟩, (hq 132 (by decide) (by decide) (by decide)).trans m3, (hq 162 (by decide) (by decide) (by decide)).trans m4⟩
 ·rintro l s ⟨⟨h1, h2, W⟩, ⟨m1, m2⟩, m3, m4⟩
  cases W with
  | mk hs' ks' b' r' w' qa' q' m' A2 I2 hm2 h602 =>
   refine then_step rfl ?_
   simp (disch := decide) only [m1, m2, zt, zX, qr, qB, qC, qD, qE, qH, qI]
   refine good_ok (d := 15) A2 I2 (by have := (List.length_eq_zero_iff (l := vs)).mp; lia) h602 h2 fun τ3 x5 => ?_
   simp (disch := decide) only [zd, zw, zu, zw]
theorem plain (ns : List Int) (hns : ns.length ≤ 63) : ∃ σ', run prog 1000 21 false 74 [.ref 0] [.list (ns.map .int)] = some (.ok (.bool true), σ') := plainH ns hns _ _ rfl rfl
end Mine.Internal.L09
set_option Elab.async false
set_option maxRecDepth 100000
set_option maxHeartbeats 8000000
open PySem PySem.W PyProof.Rows
theorem PySem.Challenge.cw_uf040002_09_holds : PySem.Challenge.rw_uf040002_09.Holds := by
 w_on
 refine holds_law Mine.Internal.K09.WS fun said => ?_
 refine holds_open (q := Mine.Internal.K09.q) (loose := []) (Xt := fun s => xlAt Mine.Internal.K09.q [] s && recOk (RowW.records (PySem.Challenge.rw_uf040002_09.row.toRowW)) s) (XP := XL Mine.Internal.K09.q []) (Yf := Hook.obs Mine.Internal.K09.Hk) (Ya := Hook.val Mine.Internal.K09.Hk) (YP := Hook.says Mine.Internal.K09.Hk) (N := 6000) Mine.Internal.K09.HL (Hook.of Mine.Internal.K09.Hk) (Hook.keeps Mine.Internal.K09.Hk) (fun s e => xl_of s (Bool.and_eq_true_iff.mp e).1) XL.keeps (by rfl) (by rfl) (by rfl) (fun s e => recFacts_of (Bool.and_eq_true_iff.mp e).2) (by rfl) (by first | assumption | decide +kernel) (by decide +kernel) ⟨rfl, rfl, rfl, rfl, rfl, by decide +kernel⟩ ?hw ?hc
 case hw => w_witness2
 intro w s₀ s₁ mg mb G Y fa o pm cd doc dV kV ho hd hcd hD hmg hg args vals as hpre hlay hrd hwl hlo
 have KX := kIn_of Y
 refine Ground.open G ?_
 intro T B D TE TW
 try (refine guard_noD D (by decide +kernel) ?_; clear D)
 have hlo' := hlo
 wrow_args hpre hlay hrd hwl hlo
 refine enter_call ?_
 refine codeAny_mono ?_ (fun _ _ g => GoodW.toG g)
 rename_i ns hs1 hs2 hs3 hs4 hs5 as1 as2 A vs as3 hIL hra hwell hrd1 hI hrd2 hc1 hc2
 have hfa : Value.ref fa = .ref 356 := by
  have e : nsIn (Mine.Internal.K09.K w.params) mainGlobals (Str.ofString "law") = some (some (.ref 356)) := by kernel_rfl
  have := mg_of KX T.g e
  have h2 : mg (Str.ofString "law") = some (.ref fa) := hmg
  rw [this] at h2; exact (Option.some.inj h2).symm
 have hfa : fa = 356 := by cases hfa; rfl
 rw [hfa]
 have hlen : ns.length ≤ 63 := by lia
 obtain ⟨σ', hrun⟩ := Mine.Internal.L09.plain ns hlen
 have hL : s₁.heap.get? A = some (W.listOf vs.toArray 0) := by
  obtain ⟨o1, g1, g2, n, g3⟩ := hIL
  cases hwell with
  | list q1 q2 =>
   rw [g1] at q1
   cases q1
   cases g3
   exact g1
 have hA : (A == sysModules) = false := by
  refine hlo' A ?_
  cases hrd1 with
  | list => simp
 refine Mine.Internal.law_main (K := Mine.Internal.K09.K w.params) (T := Mine.Internal.L09.T09) (P := Mine.Internal.L09.prog) (clsL := Mine.Internal.L09.clsL) (fnL := Mine.Internal.L09.fnL) (meL := Mine.Internal.L09.meL) (exL := Mine.Internal.L09.exL) (xP := 41) (by kernel_rfl) (by kernel_rfl) (by kernel_rfl) rfl (lid := 74) rfl KX T.g T.b T.builtins T.nolimit hL hA hI (by show ns.length ≤ 1000000; lia) (d := 20) (by decide) hrun fun h' tk keep => ?_
 refine ⟨.inl ⟨_, .bool true, [], rfl, fun _ => rfl, .bool true, by kernel_rfl, fun _ => ⟨List.nodup_nil, fun _ h => nomatch h⟩⟩, keep, rfl, hg⟩
